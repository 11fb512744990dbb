/- Texts that the row of FnExactEndMoved stands on: functions of the program and of the reference, each as a Lean function with the same answers, and the plain lemmas. Conditions: none beside those that each theorem names. -/
import Derived.Test.YtkklokkldgkacaaGreatCFnExactEndMoved9
namespace Go.Proofs.YtkklokkldgkacaaGreat.X
open Go.RowKit Go.Proofs.YtkklokkldgkacaaGreatW.PrintWords Go.Proofs.YtkklokkldgkacaaGreatW.PrintLast Go.Proofs.YtkklokkldgkacaaGreatW.PrintMore
attribute [local go_sem] max2_int min2_int max_two min_two max_three min_three max_four min_four   -- for this text's walks alone
set_option linter.unusedVariables false
set_option linter.unusedSimpArgs false
section
-- NEEDS laws.toConfig laws.toGuests
def fillL {α : Type} (l : List α) (z : α) (i : Int) : List α := l.take i.toNat ++ List.replicate (l.length - i.toNat) z
theorem fillL_len {α : Type} (l : List α) (z : α) (i : Int) (h : i ≤ l.length) : (fillL l z i).length = l.length := by
  simp only [fillL, List.length_append, List.length_take, List.length_replicate]; omega
theorem fillL_set {α : Type} (l : List α) (z x : α) (i : Int) (h0 : 0 ≤ i) (h : i < l.length) (hx : l[i.toNat]? = some x) : (fillL l z i).set i.toNat x = fillL l z (i + 1) := by
  have hi : i.toNat < l.length := by omega
  obtain ⟨d, hd⟩ : ∃ d, l.length - i.toNat = d + 1 := ⟨l.length - i.toNat - 1, by omega⟩
  have e : (i + 1).toNat = i.toNat + 1 := by omega
  have hl : (l.take i.toNat).length = i.toNat := by rw [List.length_take]; omega
  rw [List.getElem?_eq_getElem hi] at hx
  have hx := Option.some.inj hx
  unfold fillL
  rw [e, List.take_succ_eq_append_getElem hi, hx, hd, show l.length - (i.toNat + 1) = d by omega, List.set_append_right _ _ (by omega), hl, Nat.sub_self, List.replicate_succ, List.set_cons_zero, List.append_assoc]
  rfl
theorem fillL_all {α : Type} (l : List α) (z : α) : fillL l z l.length = l := by
  simp [fillL]
theorem R_storeW {P : Program} {ops : Array Oper} {rest : List Oper} {o : Oper} {a : Act} {Q : Exit → Act → World → Prop} {α : Type} (d : Kd α) {w0 W : World} (base : Nat) (hN : o.dst = none) (hgd : o.guard = none) (t : TypeId) (p x : Operand) (ho : o.op = .store t p x) (e : TypeId) {g n cap o' : Nat} (i : Int) (xs : List α) (x' : α) (u : Value)
    (haddr : a.eval p = .pointer (some ⟨g, o', none⟩)) (hoff : o' = i.toNat * d.sz) (hx : a.eval x = u) (ht : (P.info? t).map (·.size) = some d.sz)
    (HO : d.R e W base (fun _ => True) (.slice (some ⟨g, 0, none⟩) n cap) xs) (h0 : 0 ≤ i) (hi : i < n)
    (hM : d.M W base (fun k => k ≠ g) x' u.cells.toList) (HB : Below base w0 W)
    (h : ∀ w1, d.R e w1 base (fun _ => True) (.slice (some ⟨g, 0, none⟩) n cap) (xs.set i.toNat x') → Below base w0 w1 → W.grownBy w1 (some g) → wpList P ops Q rest a w1) : wpList P ops Q (o :: rest) a W := by
  have hlen := d.K_len (d.K_of_M hM)
  obtain ⟨c, hcl, _, hcc, _⟩ := Kd.R_elem HO x' i h0 hi
  refine Kd.R_store d base hN hgd t p x ho e i 0 xs x' u u.cells.toList c (fun _ => True) (fun k => k ≠ g) haddr (by rw [hoff]; rfl) hx rfl (by rw [hlen]; exact ht) (d.K_one (d.K_of_M hM)) HO h0 hi hcl hcc (by omega) ?_ (fun k hk => ⟨trivial, hk⟩) HB h
  rw [List.take_zero, List.nil_append, List.drop_of_length_le (by omega), List.append_nil]
  exact hM
theorem box2 (w : World) (a r o : Obj) : (((w.alloc a).alloc r).alloc o).heap[w.heap.size + 1]? = some r := by
  have h := blk_new (w.alloc a) r
  rw [show (w.alloc a).heap.size = w.heap.size + 1 from Array.size_push ..] at h
  exact blk_alloc h _
theorem R_out {α : Type} {d : Kd α} {e : Nat} {w W : World} {base : Nat} {v : Value} {xs : List α} (h : d.R e w base (fun _ => True) v xs) (hm : ∀ k, base ≤ k → W.heap[k]? = w.heap[k]?) : d.R e W base (fun _ => True) v xs :=
  Kd.R_mono (Kd.R_step (Kd.R_bound h) (fun k hk _ => hm k hk.2.1)) (fun _ _ => trivial)
theorem res4 {W : World} {g t : Nat} {z0 z1 z2 z3 x0 x1 x2 x3 : Value} (h : W.heap[g]? = some (.cells #[z0, z1, z2, z3] t (0, 0))) : ((((W.setCell ⟨g, 0, none⟩ x0).setCell ⟨g, 1, none⟩ x1).setCell ⟨g, 2, none⟩ x2).setCell ⟨g, 3, none⟩ x3).heap[g]? = some (.cells #[x0, x1, x2, x3] t (0, 0)) := blk_put (blk_put (blk_put (blk_put h 0 _ (cs' := #[x0, z1, z2, z3]) rfl) 1 _ (cs' := #[x0, x1, z2, z3]) rfl) 2 _ (cs' := #[x0, x1, x2, z3]) rfl) 3 _ (cs' := #[x0, x1, x2, x3]) rfl
theorem res5 {W : World} {g t : Nat} {z0 z1 z2 z3 z4 x0 x1 x2 x3 x4 : Value} (h : W.heap[g]? = some (.cells #[z0, z1, z2, z3, z4] t (0, 0))) : (((((W.setCell ⟨g, 0, none⟩ x0).setCell ⟨g, 1, none⟩ x1).setCell ⟨g, 2, none⟩ x2).setCell ⟨g, 3, none⟩ x3).setCell ⟨g, 4, none⟩ x4).heap[g]? = some (.cells #[x0, x1, x2, x3, x4] t (0, 0)) := blk_put (blk_put (blk_put (blk_put (blk_put h 0 _ (cs' := #[x0, z1, z2, z3, z4]) rfl) 1 _ (cs' := #[x0, x1, z2, z3, z4]) rfl) 2 _ (cs' := #[x0, x1, x2, z3, z4]) rfl) 3 _ (cs' := #[x0, x1, x2, x3, z4]) rfl) 4 _ (cs' := #[x0, x1, x2, x3, x4]) rfl
theorem res6 {W : World} {g t : Nat} {z0 z1 z2 z3 z4 z5 x0 x1 x2 x3 x4 x5 : Value} (h : W.heap[g]? = some (.cells #[z0, z1, z2, z3, z4, z5] t (0, 0))) : ((((((W.setCell ⟨g, 0, none⟩ x0).setCell ⟨g, 1, none⟩ x1).setCell ⟨g, 2, none⟩ x2).setCell ⟨g, 3, none⟩ x3).setCell ⟨g, 4, none⟩ x4).setCell ⟨g, 5, none⟩ x5).heap[g]? = some (.cells #[x0, x1, x2, x3, x4, x5] t (0, 0)) := blk_put (blk_put (blk_put (blk_put (blk_put (blk_put h 0 _ (cs' := #[x0, z1, z2, z3, z4, z5]) rfl) 1 _ (cs' := #[x0, x1, z2, z3, z4, z5]) rfl) 2 _ (cs' := #[x0, x1, x2, z3, z4, z5]) rfl) 3 _ (cs' := #[x0, x1, x2, x3, z4, z5]) rfl) 4 _ (cs' := #[x0, x1, x2, x3, x4, z5]) rfl) 5 _ (cs' := #[x0, x1, x2, x3, x4, x5]) rfl
theorem res8 {W : World} {g t : Nat} {z0 z1 z2 z3 z4 z5 z6 z7 x0 x1 x2 x3 x4 x5 x6 x7 : Value} (h : W.heap[g]? = some (.cells #[z0, z1, z2, z3, z4, z5, z6, z7] t (0, 0))) : ((((((((W.setCell ⟨g, 0, none⟩ x0).setCell ⟨g, 1, none⟩ x1).setCell ⟨g, 2, none⟩ x2).setCell ⟨g, 3, none⟩ x3).setCell ⟨g, 4, none⟩ x4).setCell ⟨g, 5, none⟩ x5).setCell ⟨g, 6, none⟩ x6).setCell ⟨g, 7, none⟩ x7).heap[g]? = some (.cells #[x0, x1, x2, x3, x4, x5, x6, x7] t (0, 0)) := blk_put (blk_put (blk_put (blk_put (blk_put (blk_put (blk_put (blk_put h 0 _ (cs' := #[x0, z1, z2, z3, z4, z5, z6, z7]) rfl) 1 _ (cs' := #[x0, x1, z2, z3, z4, z5, z6, z7]) rfl) 2 _ (cs' := #[x0, x1, x2, z3, z4, z5, z6, z7]) rfl) 3 _ (cs' := #[x0, x1, x2, x3, z4, z5, z6, z7]) rfl) 4 _ (cs' := #[x0, x1, x2, x3, x4, z5, z6, z7]) rfl) 5 _ (cs' := #[x0, x1, x2, x3, x4, x5, z6, z7]) rfl) 6 _ (cs' := #[x0, x1, x2, x3, x4, x5, x6, z7]) rfl) 7 _ (cs' := #[x0, x1, x2, x3, x4, x5, x6, x7]) rfl
def cvNet (x : S23) : S37 := ⟨x.f0, x.f1⟩
def cvRange (x : S149) : S138 := ⟨x.f0, x.f1⟩
def cvPlace (x : S151) : S140 := ⟨cvNet x.f0, cvRange x.f1⟩
def cvRule (x : S193) : S183 := ⟨x.f0, cvNet x.f1, cvRange x.f2, x.f3⟩
def cvRole (x : S129) : S145 := ⟨x.f0, x.f1.map cvRule, x.f2, x.f3, x.f4⟩
def cvUser (x : S131) : S92 := ⟨x.f0, x.f1, x.f2, x.f3, x.f4, x.f5⟩
def cvSession (x : S133) : S76 := ⟨x.f0, x.f1, x.f2, x.f3, x.f4, x.f5, x.f6, x.f7, x.f8, x.f9⟩
def cvFail (x : S135) : S81 := ⟨x.f0, x.f1, x.f2⟩
def cvRecord (x : S157) : S83 := ⟨x.f0, x.f1, x.f2, x.f3, x.f4⟩
set_option maxHeartbeats 4000000 in
set_option maxRecDepth 100000 in
theorem toNet1 (x0 : Int) (x1 : Int) (w : World) :
    Calls Tryz.prog 39 #[.agg #[.int .i64 x0, .int .i64 x1]] w fun e w' => e = .returned (.agg #[.int .i64 x0, .int .i64 x1]) ∧ Below w.heap.size w w' := by
  have hu := Tryz.underlying37
  have hv := Tryz.underlying23
  go_enter Tryz.func39, Tryz.ntmps39
  go_wp2
  exact bodyPost_ret (v := .agg #[.int .i64 x0, .int .i64 x1]) (by simp [results, Tryz.results39, go_sem]) rfl ⟨rfl, below_alloc (below_alloc (below_alloc (Below.refl _ _) _) _) _⟩
set_option maxHeartbeats 4000000 in
set_option maxRecDepth 100000 in
theorem toRange1 (x0 : Int) (x1 : Int) (w : World) :
    Calls Tryz.prog 135 #[.agg #[.int .i64 x0, .int .i64 x1]] w fun e w' => e = .returned (.agg #[.int .i64 x0, .int .i64 x1]) ∧ Below w.heap.size w w' := by
  have hu := Tryz.underlying138
  have hv := Tryz.underlying149
  go_enter Tryz.func135, Tryz.ntmps135
  go_wp2
  exact bodyPost_ret (v := .agg #[.int .i64 x0, .int .i64 x1]) (by simp [results, Tryz.results135, go_sem]) rfl ⟨rfl, below_alloc (below_alloc (below_alloc (Below.refl _ _) _) _) _⟩
set_option maxHeartbeats 4000000 in
set_option maxRecDepth 100000 in
theorem toPlace1 (x0 : Int) (x1 : Int) (x2 : Int) (x3 : Int) (w : World) :
    Calls Tryz.prog 94 #[.agg #[.int .i64 x0, .int .i64 x1, .int .i64 x2, .int .i64 x3]] w fun e w' => e = .returned (.agg #[.int .i64 x0, .int .i64 x1, .int .i64 x2, .int .i64 x3]) ∧ Below w.heap.size w w' := by
  have hu := Tryz.underlying140
  have hv := Tryz.underlying151
  have HB := Aside0.mk (Below.refl w.heap.size w)
  go_enter Tryz.func94, Tryz.ntmps94
  go_wp2_with (first
    | (go_at_call 39; refine (toNet1 x0 x1 _).mono ?_; rintro e w2 ⟨rfl, hb⟩; have n_ := Aside0.mk (below_step (w := w) (by repeat' (with_reducible first | exact HB.out | apply below_alloc | refine below_set ?_ (by omega))) hb); clear HB; have HB := n_; clear n_; have n_ := Aside0.mk (blk_below (g := w.heap.size + 1) (o := .cells #[.int .i64 0, .int .i64 0, .int .i64 0, .int .i64 0] 140 (0, 0)) (by repeat' (with_reducible first | exact HR.out | exact box2 _ _ _ _ | refine blk_far ?_ (by dsimp only; omega) _)) hb); (try clear HR); have HR := n_; clear n_; obtain ⟨hc, hf⟩ := bcell hb; have hz : w.heap.size + 1 + 1 < w2.heap.size := (by have := hb.size; (try simp at this); omega); have hz0 : w.heap.size < w2.heap.size := (by omega); have hz1 : w.heap.size + 1 < w2.heap.size := (by omega); clear hb)
    | (go_at_call 135; refine (toRange1 x2 x3 _).mono ?_; rintro e w2 ⟨rfl, hb⟩; have n_ := Aside0.mk (below_step (w := w) (by repeat' (with_reducible first | exact HB.out | apply below_alloc | refine below_set ?_ (by omega))) hb); clear HB; have HB := n_; clear n_; have n_ := Aside0.mk (blk_below (g := w.heap.size + 1) (o := .cells #[.int .i64 0, .int .i64 0, .int .i64 0, .int .i64 0] 140 (0, 0)) (by repeat' (with_reducible first | exact HR.out | exact box2 _ _ _ _ | refine blk_far ?_ (by dsimp only; omega) _)) hb); (try clear HR); have HR := n_; clear n_; obtain ⟨hc, hf⟩ := bcell hb; have hz : w.heap.size + 1 + 1 < w2.heap.size := (by have := hb.size; (try simp at this); omega); have hz0 : w.heap.size < w2.heap.size := (by omega); have hz1 : w.heap.size + 1 < w2.heap.size := (by omega); clear hb))
  refine bodyPost_ret (v := .agg #[.int .i64 x0, .int .i64 x1, .int .i64 x2, .int .i64 x3]) ?_ rfl ⟨rfl, ?_⟩
  · refine results_cell_row rfl _ _ (w.heap.size + 1) 140 #[.int .i64 x0, .int .i64 x1, .int .i64 x2, .int .i64 x3] (0, 0) _ rfl ?_ hu rfl (by kernel_rfl)
    refine res4 (z0 := .int .i64 0) (z1 := .int .i64 0) (z2 := .int .i64 0) (z3 := .int .i64 0) ?_
    repeat' (with_reducible first | exact HR.out | refine blk_far ?_ (by dsimp only; omega) _)
  · repeat' (with_reducible first | exact HB.out | refine below_set ?_ (by omega))
set_option maxHeartbeats 4000000 in
set_option maxRecDepth 100000 in
theorem toPlaceS1 (A0 : Option Addr) (c0 : Nat) (l : List S151) (w : World) (h0 : Kd.C k151 w A0 l.length l) (z : l.length ≤ 1048576) :
    Calls Tryz.prog 40 #[.slice A0 l.length c0] w fun e w' => ∃ B d, e = .returned (.slice B l.length d) ∧ Kd.R k140 140 w' w.heap.size (fun _ => True) (.slice B l.length d) (l.map cvPlace) ∧ Below w.heap.size w w' := by
  have hu := Tryz.underlying140
  have H0 := Aside0.mk h0
  clear h0
  go_enter Tryz.func40, Tryz.ntmps40
  go_wp2_with ((with_reducible refine gate_dst (N := 7) rfl ?_); refine Kd.R_make k140 w.heap.size 140 rfl (N := 7) rfl 38 _ _ rfl (l.length : Int) rfl rfl Tryz.underlying38 _ 32 info140 rfl (by decide) (by decide) z140 (ok := fun _ => True) (okp := fun _ => True) (k140_mkM _ _ _ z140) (fun _ hk => hk) trivial (by omega) (by omega) (Below.refl _ _) (Nat.le_refl _) ?_; intro v w4 ho hb hg_ hn_; clear hg_ hn_; have HO := Aside0.mk ho; have HB := Aside0.mk hb; clear ho hb)
  obtain ⟨B, d, ev⟩ := Kd.R_slice HO.out
  rw [List.length_replicate] at ev
  simp only [Int.toNat_natCast] at ev
  subst ev
  go_loopg [4] l.length (fun gg v4 w' => ∃ i : Int, v4 = .int .i64 i ∧ 0 ≤ i ∧ i ≤ l.length ∧ l.length - i ≤ gg ∧ Aside0 (Kd.R k140 140 w' w.heap.size (fun _ => True) (.slice B l.length d) (fillL (l.map cvPlace) z140 i)) ∧ Aside0 (Below w.heap.size w w'))
  case atStart => exact ⟨0, rfl, Int.le_refl _, by omega, by omega, ⟨by have := HO.out; simpa [fillL] using this⟩, HB⟩
  case round =>
    clear HO HB
    obtain ⟨i, rfl, hi0, hi, hgg, HO, HB⟩ := hrel
    have hlen : (fillL (l.map cvPlace) z140 i).length = l.length := by rw [fillL_len _ _ _ (by rw [List.length_map]; exact hi), List.length_map]
    by_cases hlt : i < l.length
    · obtain ⟨ad, eA, hc⟩ := at_T151 (Kd.C_below H0.out HB.out) i hi0 hlt
      subst eA
      obtain ⟨g, cap, ev, hg1, hg2, hg3⟩ := Kd.R_form HO.out (by omega)
      rw [hlen] at ev
      injection ev with e1 _ e2
      subst e1 e2
      clear hlen hg1 hg2 hg3
      go_wp2_with (first
        | (go_at_call 94; refine (toPlace1 (rd_T151 l i).f0.f0 (rd_T151 l i).f0.f1 (rd_T151 l i).f1.f0 (rd_T151 l i).f1.f1 _).mono ?_; rintro e w2 ⟨rfl, hb⟩; have HO2 := Aside0.mk (Kd.R_below HO.out hb); have HB2 := Aside0.mk (below_step HB.out hb); clear hb)
        | ((with_reducible refine gate_store rfl ?_); refine R_storeW k140 w.heap.size rfl rfl 140 _ _ rfl 140 i _ (cvPlace (rd_T151 l i)) _ rfl rfl rfl (by kernel_rfl) HO2.out hi0 hlt (k140_mkM _ _ _ (cvPlace (rd_T151 l i))) HB2.out ?_; intro w3 ho hb hg_; have HO3 := Aside0.mk ho; have HB3 := Aside0.mk hb; clear ho hb hg_))
      go_roundg (l.length - (i + 1)).toNat
      case measure => omega
      case rel =>
        refine ⟨i + 1, rfl, by omega, by omega, by omega, ⟨?_⟩, HB3⟩
        rw [← fillL_set (l.map cvPlace) z140 (cvPlace (rd_T151 l i)) i hi0 (by rw [List.length_map]; exact hlt) (by rw [List.getElem?_map, rd_T151, List.getD_eq_getElem?_getD, List.getElem?_eq_getElem (show i.toNat < l.length by omega)]; rfl)]
        exact HO3.out
    · obtain rfl : i = l.length := by omega
      go_wp2
      go_ret
      refine ⟨B, d, rfl, ?_, HB.out⟩
      have h_ := HO.out
      rwa [show (l.length : Int) = ((l.map cvPlace).length : Int) by rw [List.length_map], fillL_all] at h_
set_option maxHeartbeats 4000000 in
set_option maxRecDepth 100000 in
theorem toRule1 (x0 : Int) (x1 : Int) (x2 : Int) (x3 : Int) (x4 : Int) (x5 : Bool) (w : World) :
    Calls Tryz.prog 145 #[.agg #[.int .i64 x0, .int .i64 x1, .int .i64 x2, .int .i64 x3, .int .i64 x4, .bool x5]] w fun e w' => e = .returned (.agg #[.int .i64 x0, .int .i64 x1, .int .i64 x2, .int .i64 x3, .int .i64 x4, .bool x5]) ∧ Below w.heap.size w w' := by
  have hu := Tryz.underlying183
  have hv := Tryz.underlying193
  have HB := Aside0.mk (Below.refl w.heap.size w)
  go_enter Tryz.func145, Tryz.ntmps145
  go_wp2_with (first
    | (go_at_call 39; refine (toNet1 x1 x2 _).mono ?_; rintro e w2 ⟨rfl, hb⟩; have n_ := Aside0.mk (below_step (w := w) (by repeat' (with_reducible first | exact HB.out | apply below_alloc | refine below_set ?_ (by omega))) hb); clear HB; have HB := n_; clear n_; have n_ := Aside0.mk (blk_below (g := w.heap.size + 1) (o := .cells #[.int .i64 0, .int .i64 0, .int .i64 0, .int .i64 0, .int .i64 0, .bool false] 183 (0, 0)) (by repeat' (with_reducible first | exact HR.out | exact box2 _ _ _ _ | refine blk_far ?_ (by dsimp only; omega) _)) hb); (try clear HR); have HR := n_; clear n_; obtain ⟨hc, hf⟩ := bcell hb; have hz : w.heap.size + 1 + 1 < w2.heap.size := (by have := hb.size; (try simp at this); omega); have hz0 : w.heap.size < w2.heap.size := (by omega); have hz1 : w.heap.size + 1 < w2.heap.size := (by omega); clear hb)
    | (go_at_call 135; refine (toRange1 x3 x4 _).mono ?_; rintro e w2 ⟨rfl, hb⟩; have n_ := Aside0.mk (below_step (w := w) (by repeat' (with_reducible first | exact HB.out | apply below_alloc | refine below_set ?_ (by omega))) hb); clear HB; have HB := n_; clear n_; have n_ := Aside0.mk (blk_below (g := w.heap.size + 1) (o := .cells #[.int .i64 0, .int .i64 0, .int .i64 0, .int .i64 0, .int .i64 0, .bool false] 183 (0, 0)) (by repeat' (with_reducible first | exact HR.out | exact box2 _ _ _ _ | refine blk_far ?_ (by dsimp only; omega) _)) hb); (try clear HR); have HR := n_; clear n_; obtain ⟨hc, hf⟩ := bcell hb; have hz : w.heap.size + 1 + 1 < w2.heap.size := (by have := hb.size; (try simp at this); omega); have hz0 : w.heap.size < w2.heap.size := (by omega); have hz1 : w.heap.size + 1 < w2.heap.size := (by omega); clear hb))
  refine bodyPost_ret (v := .agg #[.int .i64 x0, .int .i64 x1, .int .i64 x2, .int .i64 x3, .int .i64 x4, .bool x5]) ?_ rfl ⟨rfl, ?_⟩
  · refine results_cell_row rfl _ _ (w.heap.size + 1) 183 #[.int .i64 x0, .int .i64 x1, .int .i64 x2, .int .i64 x3, .int .i64 x4, .bool x5] (0, 0) _ rfl ?_ hu rfl (by kernel_rfl)
    refine res6 (z0 := .int .i64 0) (z1 := .int .i64 0) (z2 := .int .i64 0) (z3 := .int .i64 0) (z4 := .int .i64 0) (z5 := .bool false) ?_
    repeat' (with_reducible first | exact HR.out | refine blk_far ?_ (by dsimp only; omega) _)
  · repeat' (with_reducible first | exact HB.out | refine below_set ?_ (by omega))
set_option maxHeartbeats 4000000 in
set_option maxRecDepth 100000 in
theorem toRuleS1 (A0 : Option Addr) (c0 : Nat) (l : List S193) (w : World) (h0 : Kd.C k193 w A0 l.length l) (z : l.length ≤ 1048576) :
    Calls Tryz.prog 136 #[.slice A0 l.length c0] w fun e w' => ∃ B d, e = .returned (.slice B l.length d) ∧ Kd.R k183 183 w' w.heap.size (fun _ => True) (.slice B l.length d) (l.map cvRule) ∧ Below w.heap.size w w' := by
  have hu := Tryz.underlying183
  have H0 := Aside0.mk h0
  clear h0
  go_enter Tryz.func136, Tryz.ntmps136
  go_wp2_with ((with_reducible refine gate_dst (N := 7) rfl ?_); refine Kd.R_make k183 w.heap.size 183 rfl (N := 7) rfl 143 _ _ rfl (l.length : Int) rfl rfl Tryz.underlying143 _ 48 info183 rfl (by decide) (by decide) z183 (ok := fun _ => True) (okp := fun _ => True) (k183_mkM _ _ _ z183) (fun _ hk => hk) trivial (by omega) (by omega) (Below.refl _ _) (Nat.le_refl _) ?_; intro v w4 ho hb hg_ hn_; clear hg_ hn_; have HO := Aside0.mk ho; have HB := Aside0.mk hb; clear ho hb)
  obtain ⟨B, d, ev⟩ := Kd.R_slice HO.out
  rw [List.length_replicate] at ev
  simp only [Int.toNat_natCast] at ev
  subst ev
  go_loopg [4] l.length (fun gg v4 w' => ∃ i : Int, v4 = .int .i64 i ∧ 0 ≤ i ∧ i ≤ l.length ∧ l.length - i ≤ gg ∧ Aside0 (Kd.R k183 183 w' w.heap.size (fun _ => True) (.slice B l.length d) (fillL (l.map cvRule) z183 i)) ∧ Aside0 (Below w.heap.size w w'))
  case atStart => exact ⟨0, rfl, Int.le_refl _, by omega, by omega, ⟨by have := HO.out; simpa [fillL] using this⟩, HB⟩
  case round =>
    clear HO HB
    obtain ⟨i, rfl, hi0, hi, hgg, HO, HB⟩ := hrel
    have hlen : (fillL (l.map cvRule) z183 i).length = l.length := by rw [fillL_len _ _ _ (by rw [List.length_map]; exact hi), List.length_map]
    by_cases hlt : i < l.length
    · obtain ⟨ad, eA, hc⟩ := at_T193 (Kd.C_below H0.out HB.out) i hi0 hlt
      subst eA
      obtain ⟨g, cap, ev, hg1, hg2, hg3⟩ := Kd.R_form HO.out (by omega)
      rw [hlen] at ev
      injection ev with e1 _ e2
      subst e1 e2
      clear hlen hg1 hg2 hg3
      go_wp2_with (first
        | (go_at_call 145; refine (toRule1 (rd_T193 l i).f0 (rd_T193 l i).f1.f0 (rd_T193 l i).f1.f1 (rd_T193 l i).f2.f0 (rd_T193 l i).f2.f1 (rd_T193 l i).f3 _).mono ?_; rintro e w2 ⟨rfl, hb⟩; have HO2 := Aside0.mk (Kd.R_below HO.out hb); have HB2 := Aside0.mk (below_step HB.out hb); clear hb)
        | ((with_reducible refine gate_store rfl ?_); refine R_storeW k183 w.heap.size rfl rfl 183 _ _ rfl 183 i _ (cvRule (rd_T193 l i)) _ rfl rfl rfl (by kernel_rfl) HO2.out hi0 hlt (k183_mkM _ _ _ (cvRule (rd_T193 l i))) HB2.out ?_; intro w3 ho hb hg_; have HO3 := Aside0.mk ho; have HB3 := Aside0.mk hb; clear ho hb hg_))
      go_roundg (l.length - (i + 1)).toNat
      case measure => omega
      case rel =>
        refine ⟨i + 1, rfl, by omega, by omega, by omega, ⟨?_⟩, HB3⟩
        rw [← fillL_set (l.map cvRule) z183 (cvRule (rd_T193 l i)) i hi0 (by rw [List.length_map]; exact hlt) (by rw [List.getElem?_map, rd_T193, List.getD_eq_getElem?_getD, List.getElem?_eq_getElem (show i.toNat < l.length by omega)]; rfl)]
        exact HO3.out
    · obtain rfl : i = l.length := by omega
      go_wp2
      go_ret
      refine ⟨B, d, rfl, ?_, HB.out⟩
      have h_ := HO.out
      rwa [show (l.length : Int) = ((l.map cvRule).length : Int) by rw [List.length_map], fillL_all] at h_
set_option maxHeartbeats 4000000 in
set_option maxRecDepth 100000 in
theorem toRole1 (x0 : ByteArray) (A1 : Option Addr) (c1 : Nat) (x1 : List S193) (x2 : Int) (x3 : Int) (x4 : Int) (w : World) (h1 : Kd.C k193 w A1 x1.length x1) (z1 : x1.length ≤ 1048576) :
    Calls Tryz.prog 95 #[.agg #[.string x0, .slice A1 x1.length c1, .int .i64 x2, .int .i64 x3, .int .i64 x4]] w fun e w' => ∃ B1 d1, e = .returned (.agg #[.string x0, .slice B1 x1.length d1, .int .i64 x2, .int .i64 x3, .int .i64 x4]) ∧ Kd.R k183 183 w' w.heap.size (fun _ => True) (.slice B1 x1.length d1) (x1.map cvRule) ∧ Below w.heap.size w w' := by
  have hu := Tryz.underlying145
  have hv := Tryz.underlying129
  have HH1 := Aside0.mk h1
  clear h1
  have HB := Aside0.mk (Below.refl w.heap.size w)
  go_enter Tryz.func95, Tryz.ntmps95
  go_wp2_with (first
    | (go_at_call 136; refine (toRuleS1 A1 c1 x1 _ (Kd.C_below HH1.out (by repeat' (with_reducible first | exact HB.out | apply below_alloc | refine below_set ?_ (by omega)))) z1).mono ?_; rintro e w2 ⟨B1, d1, rfl, ho, hb⟩; have n_ := Aside0.mk (below_step (w := w) (by repeat' (with_reducible first | exact HB.out | apply below_alloc | refine below_set ?_ (by omega))) hb); clear HB; have HB := n_; clear n_; have n_ := Aside0.mk (blk_below (g := w.heap.size + 1) (o := .cells #[.string ⟨#[]⟩, .slice none 0 0, .int .i64 0, .int .i64 0, .int .i64 0] 145 (0, 0)) (by repeat' (with_reducible first | exact HR.out | exact box2 _ _ _ _ | refine blk_far ?_ (by dsimp only; omega) _)) hb); (try clear HR); have HR := n_; clear n_; have HO1 := Aside0.mk (Kd.R_lower (base' := w.heap.size + 3) ho (by first | (simp; done) | (simp; omega) | omega)); clear ho; obtain ⟨hc, hf⟩ := bcell hb; have hz : w.heap.size + 1 + 1 < w2.heap.size := (by have := hb.size; (try simp at this); omega); have hz0 : w.heap.size < w2.heap.size := (by omega); have hz1 : w.heap.size + 1 < w2.heap.size := (by omega); clear hb))
  refine bodyPost_ret (v := .agg #[.string x0, .slice B1 x1.length d1, .int .i64 x2, .int .i64 x3, .int .i64 x4]) ?_ rfl ⟨B1, d1, rfl, ?_, ?_⟩
  · refine results_cell_row rfl _ _ (w.heap.size + 1) 145 #[.string x0, .slice B1 x1.length d1, .int .i64 x2, .int .i64 x3, .int .i64 x4] (0, 0) _ rfl ?_ hu rfl (by kernel_rfl)
    refine res5 (z0 := .string ⟨#[]⟩) (z1 := .slice none 0 0) (z2 := .int .i64 0) (z3 := .int .i64 0) (z4 := .int .i64 0) ?_
    repeat' (with_reducible first | exact HR.out | refine blk_far ?_ (by dsimp only; omega) _)
  · refine Kd.R_lower (base := w.heap.size + 3) ?_ (by omega)
    refine R_out HO1.out (fun k hk => ?_)
    repeat (with_reducible refine (Below.heap_setCell _ _ _ _ (by dsimp only; omega)).trans ?_)
    rfl
  · repeat' (with_reducible first | exact HB.out | refine below_set ?_ (by omega))
set_option maxHeartbeats 4000000 in
set_option maxRecDepth 100000 in
theorem toRoleS1 (A0 : Option Addr) (c0 : Nat) (l : List S129) (w : World) (h0 : Kd.C k129 w A0 l.length l) (z : l.length ≤ 1048576) (y : ∀ r ∈ l, r.f1.length ≤ 1048576) :
    Calls Tryz.prog 41 #[.slice A0 l.length c0] w fun e w' => ∃ B d, e = .returned (.slice B l.length d) ∧ Kd.R k145 145 w' w.heap.size (fun _ => True) (.slice B l.length d) (l.map cvRole) ∧ Below w.heap.size w w' := by
  have hu := Tryz.underlying145
  have H0 := Aside0.mk h0
  clear h0
  have HY := Aside0.mk y
  clear y
  go_enter Tryz.func41, Tryz.ntmps41
  go_wp2_with ((with_reducible refine gate_dst (N := 7) rfl ?_); refine Kd.R_make k145 w.heap.size 145 rfl (N := 7) rfl 39 _ _ rfl (l.length : Int) rfl rfl Tryz.underlying39 _ 64 info145 rfl (by decide) (by decide) z145 (ok := fun _ => True) (okp := fun _ => True) (k145_mkM _ _ _ z145 (Kd.R_nil _ _ _ _ _)) (fun _ hk => hk) trivial (by omega) (by omega) (Below.refl _ _) (Nat.le_refl _) ?_; intro v w4 ho hb hg_ hn_; clear hg_ hn_; have HO := Aside0.mk ho; have HB := Aside0.mk hb; clear ho hb)
  obtain ⟨B, d, ev⟩ := Kd.R_slice HO.out
  rw [List.length_replicate] at ev
  simp only [Int.toNat_natCast] at ev
  subst ev
  go_loopg [4] l.length (fun gg v4 w' => ∃ i : Int, v4 = .int .i64 i ∧ 0 ≤ i ∧ i ≤ l.length ∧ l.length - i ≤ gg ∧ Aside0 (Kd.R k145 145 w' w.heap.size (fun _ => True) (.slice B l.length d) (fillL (l.map cvRole) z145 i)) ∧ Aside0 (Below w.heap.size w w'))
  case atStart => exact ⟨0, rfl, Int.le_refl _, by omega, by omega, ⟨by have := HO.out; simpa [fillL] using this⟩, HB⟩
  case round =>
    clear HO HB
    obtain ⟨i, rfl, hi0, hi, hgg, HO, HB⟩ := hrel
    have hlen : (fillL (l.map cvRole) z145 i).length = l.length := by rw [fillL_len _ _ _ (by rw [List.length_map]; exact hi), List.length_map]
    by_cases hlt : i < l.length
    · obtain ⟨ad, aA, aC, eA, a0, a1, a2, a3, a4, al, ak⟩ := at_T129 (Kd.C_below H0.out HB.out) i hi0 hlt
      subst eA
      have HK := Aside0.mk ak
      have hm : rd_T129 l i ∈ l := by rw [rd_T129, List.getD_eq_getElem?_getD, List.getElem?_eq_getElem (show i.toNat < l.length by omega)]; exact List.getElem_mem _
      have hy := HY.out _ hm
      clear hm ak al
      obtain ⟨g, cap, ev, hg1, hg2, hg3⟩ := Kd.R_form HO.out (by omega)
      rw [hlen] at ev
      injection ev with e1 _ e2
      subst e1 e2
      clear hlen hg1 hg2 hg3
      go_wp2_with (first
        | (go_at_call 95; refine (toRole1 (rd_T129 l i).f0 aA aC (rd_T129 l i).f1 (rd_T129 l i).f2 (rd_T129 l i).f3 (rd_T129 l i).f4 _ (Kd.C_below HK.out (Below.refl _ _)) hy).mono ?_; rintro e w2 ⟨rB, rd, rfl, hr, hb⟩; have HO2 := Aside0.mk (Kd.R_below HO.out hb); have HB2 := Aside0.mk (below_step HB.out hb); have HV := Aside0.mk (Kd.R_lower hr HB.out.size); clear hr; have HT := Aside0.mk (own_typed (Kd.R_own HO2.out).choose_spec _ rfl); clear hb)
        | ((with_reducible refine gate_store rfl ?_); refine R_storeW k145 w.heap.size rfl rfl 145 _ _ rfl 145 i _ (cvRole (rd_T129 l i)) _ rfl rfl rfl (by kernel_rfl) HO2.out hi0 hlt (k145_mkM _ _ _ (cvRole (rd_T129 l i)) (Kd.R_mono (Kd.R_types HV.out HT.out.choose_spec (by decide)) (fun _ hk => hk.2))) HB2.out ?_; intro w3 ho hb hg_; have HO3 := Aside0.mk ho; have HB3 := Aside0.mk hb; clear ho hb hg_))
      go_roundg (l.length - (i + 1)).toNat
      case measure => omega
      case rel =>
        refine ⟨i + 1, rfl, by omega, by omega, by omega, ⟨?_⟩, HB3⟩
        rw [← fillL_set (l.map cvRole) z145 (cvRole (rd_T129 l i)) i hi0 (by rw [List.length_map]; exact hlt) (by rw [List.getElem?_map, rd_T129, List.getD_eq_getElem?_getD, List.getElem?_eq_getElem (show i.toNat < l.length by omega)]; rfl)]
        exact HO3.out
    · obtain rfl : i = l.length := by omega
      go_wp2
      go_ret
      refine ⟨B, d, rfl, ?_, HB.out⟩
      have h_ := HO.out
      rwa [show (l.length : Int) = ((l.map cvRole).length : Int) by rw [List.length_map], fillL_all] at h_
set_option maxHeartbeats 4000000 in
set_option maxRecDepth 100000 in
theorem toConfig1 (x0 : Int) (x1 : Int) (x2 : Int) (x3 : ByteArray) (x4 : ByteArray) (x5 : Int) (A6 : Option Addr) (c6 : Nat) (x6 : List S151) (A7 : Option Addr) (c7 : Nat) (x7 : List S129) (w : World) (h6 : Kd.C k151 w A6 x6.length x6) (z6 : x6.length ≤ 1048576) (h7 : Kd.C k129 w A7 x7.length x7) (z7 : x7.length ≤ 1048576) (y7 : ∀ r ∈ x7, r.f1.length ≤ 1048576) :
    Calls Tryz.prog 10 #[.agg #[.int .i64 x0, .int .i64 x1, .int .i64 x2, .string x3, .string x4, .int .i64 x5, .slice A6 x6.length c6, .slice A7 x7.length c7]] w fun e w' => ∃ B6 d6, ∃ B7 d7, e = .returned (.agg #[.int .i64 x0, .int .i64 x1, .int .i64 x2, .string x3, .string x4, .int .i64 x5, .slice B6 x6.length d6, .slice B7 x7.length d7]) ∧ Kd.R k140 140 w' w.heap.size (fun _ => True) (.slice B6 x6.length d6) (x6.map cvPlace) ∧ Kd.R k145 145 w' w.heap.size (fun _ => True) (.slice B7 x7.length d7) (x7.map cvRole) ∧ Below w.heap.size w w' := by
  have hu := Tryz.underlying41
  have hv := Tryz.underlying27
  have HH6 := Aside0.mk h6
  clear h6
  have HH7 := Aside0.mk (And.intro h7 y7)
  clear h7 y7
  have HB := Aside0.mk (Below.refl w.heap.size w)
  go_enter Tryz.func10, Tryz.ntmps10
  go_wp2_with (first
    | (go_at_call 39; refine (toNet1 x0 x1 _).mono ?_; rintro e w2 ⟨rfl, hb⟩; have n_ := Aside0.mk (below_step (w := w) (by repeat' (with_reducible first | exact HB.out | apply below_alloc | refine below_set ?_ (by omega))) hb); clear HB; have HB := n_; clear n_; have n_ := Aside0.mk (blk_below (g := w.heap.size + 1) (o := .cells #[.int .i64 0, .int .i64 0, .int .i64 0, .string ⟨#[]⟩, .string ⟨#[]⟩, .int .i64 0, .slice none 0 0, .slice none 0 0] 41 (0, 0)) (by repeat' (with_reducible first | exact HR.out | exact box2 _ _ _ _ | refine blk_far ?_ (by dsimp only; omega) _)) hb); (try clear HR); have HR := n_; clear n_; obtain ⟨hc, hf⟩ := bcell hb; have hz : w.heap.size + 1 + 1 < w2.heap.size := (by have := hb.size; (try simp at this); omega); have hz0 : w.heap.size < w2.heap.size := (by omega); have hz1 : w.heap.size + 1 < w2.heap.size := (by omega); clear hb)
    | (go_at_call 40; refine (toPlaceS1 A6 c6 x6 _ (Kd.C_below HH6.out (by repeat' (with_reducible first | exact HB.out | apply below_alloc | refine below_set ?_ (by omega)))) z6).mono ?_; rintro e w2 ⟨B6, d6, rfl, ho, hb⟩; have n_ := Aside0.mk (below_step (w := w) (by repeat' (with_reducible first | exact HB.out | apply below_alloc | refine below_set ?_ (by omega))) hb); clear HB; have HB := n_; clear n_; have n_ := Aside0.mk (blk_below (g := w.heap.size + 1) (o := .cells #[.int .i64 0, .int .i64 0, .int .i64 0, .string ⟨#[]⟩, .string ⟨#[]⟩, .int .i64 0, .slice none 0 0, .slice none 0 0] 41 (0, 0)) (by repeat' (with_reducible first | exact HR.out | exact box2 _ _ _ _ | refine blk_far ?_ (by dsimp only; omega) _)) hb); (try clear HR); have HR := n_; clear n_; have HO6 := Aside0.mk (Kd.R_lower (base' := w.heap.size + 3) ho (by first | (simp; done) | (simp; omega) | omega)); clear ho; obtain ⟨hc, hf⟩ := bcell hb; have hz : w.heap.size + 1 + 1 < w2.heap.size := (by have := hb.size; (try simp at this); omega); have hz0 : w.heap.size < w2.heap.size := (by omega); have hz1 : w.heap.size + 1 < w2.heap.size := (by omega); clear hb)
    | (go_at_call 41; refine (toRoleS1 A7 c7 x7 _ (Kd.C_below HH7.out.1 (by repeat' (with_reducible first | exact HB.out | apply below_alloc | refine below_set ?_ (by omega)))) z7 HH7.out.2).mono ?_; rintro e w2 ⟨B7, d7, rfl, ho, hb⟩; have n_ := Aside0.mk (below_step (w := w) (by repeat' (with_reducible first | exact HB.out | apply below_alloc | refine below_set ?_ (by omega))) hb); clear HB; have HB := n_; clear n_; have n_ := Aside0.mk (blk_below (g := w.heap.size + 1) (o := .cells #[.int .i64 0, .int .i64 0, .int .i64 0, .string ⟨#[]⟩, .string ⟨#[]⟩, .int .i64 0, .slice none 0 0, .slice none 0 0] 41 (0, 0)) (by repeat' (with_reducible first | exact HR.out | exact box2 _ _ _ _ | refine blk_far ?_ (by dsimp only; omega) _)) hb); (try clear HR); have HR := n_; clear n_; have n_ := Aside0.mk (Kd.R_below (R_out HO6.out (fun k hk => by repeat (with_reducible refine (Below.heap_setCell _ _ _ _ (by dsimp only; omega)).trans ?_); rfl)) hb); clear HO6; have HO6 := n_; clear n_; have HO7 := Aside0.mk (Kd.R_lower (base' := w.heap.size + 3) ho (by first | (simp; done) | (simp; omega) | omega)); clear ho; obtain ⟨hc, hf⟩ := bcell hb; have hz : w.heap.size + 1 + 1 < w2.heap.size := (by have := hb.size; (try simp at this); omega); have hz0 : w.heap.size < w2.heap.size := (by omega); have hz1 : w.heap.size + 1 < w2.heap.size := (by omega); clear hb))
  refine bodyPost_ret (v := .agg #[.int .i64 x0, .int .i64 x1, .int .i64 x2, .string x3, .string x4, .int .i64 x5, .slice B6 x6.length d6, .slice B7 x7.length d7]) ?_ rfl ⟨B6, d6, B7, d7, rfl, ?_, ?_, ?_⟩
  · refine results_cell_row rfl _ _ (w.heap.size + 1) 41 #[.int .i64 x0, .int .i64 x1, .int .i64 x2, .string x3, .string x4, .int .i64 x5, .slice B6 x6.length d6, .slice B7 x7.length d7] (0, 0) _ rfl ?_ hu rfl (by kernel_rfl)
    refine res8 (z0 := .int .i64 0) (z1 := .int .i64 0) (z2 := .int .i64 0) (z3 := .string ⟨#[]⟩) (z4 := .string ⟨#[]⟩) (z5 := .int .i64 0) (z6 := .slice none 0 0) (z7 := .slice none 0 0) ?_
    repeat' (with_reducible first | exact HR.out | refine blk_far ?_ (by dsimp only; omega) _)
  · refine Kd.R_lower (base := w.heap.size + 3) ?_ (by omega)
    refine R_out HO6.out (fun k hk => ?_)
    repeat (with_reducible refine (Below.heap_setCell _ _ _ _ (by dsimp only; omega)).trans ?_)
    rfl
  · refine Kd.R_lower (base := w.heap.size + 3) ?_ (by omega)
    refine R_out HO7.out (fun k hk => ?_)
    repeat (with_reducible refine (Below.heap_setCell _ _ _ _ (by dsimp only; omega)).trans ?_)
    rfl
  · repeat' (with_reducible first | exact HB.out | refine below_set ?_ (by omega))
set_option maxHeartbeats 4000000 in
set_option maxRecDepth 100000 in
theorem toUser1 (x0 : ByteArray) (x1 : ByteArray) (x2 : ByteArray) (x3 : ByteArray) (x4 : Int) (x5 : Int) (w : World) :
    Calls Tryz.prog 96 #[.agg #[.string x0, .string x1, .string x2, .string x3, .int .i64 x4, .int .i64 x5]] w fun e w' => e = .returned (.agg #[.string x0, .string x1, .string x2, .string x3, .int .i64 x4, .int .i64 x5]) ∧ Below w.heap.size w w' := by
  have hu := Tryz.underlying92
  have hv := Tryz.underlying131
  go_enter Tryz.func96, Tryz.ntmps96
  go_wp2
  exact bodyPost_ret (v := .agg #[.string x0, .string x1, .string x2, .string x3, .int .i64 x4, .int .i64 x5]) (by simp [results, Tryz.results96, go_sem]) rfl ⟨rfl, below_alloc (below_alloc (below_alloc (Below.refl _ _) _) _) _⟩
set_option maxHeartbeats 4000000 in
set_option maxRecDepth 100000 in
theorem toUserS1 (A0 : Option Addr) (c0 : Nat) (l : List S131) (w : World) (h0 : Kd.C k131 w A0 l.length l) (z : l.length ≤ 1048576) :
    Calls Tryz.prog 42 #[.slice A0 l.length c0] w fun e w' => ∃ B d, e = .returned (.slice B l.length d) ∧ Kd.R k92 92 w' w.heap.size (fun _ => True) (.slice B l.length d) (l.map cvUser) ∧ Below w.heap.size w w' := by
  have hu := Tryz.underlying92
  have H0 := Aside0.mk h0
  clear h0
  go_enter Tryz.func42, Tryz.ntmps42
  go_wp2_with ((with_reducible refine gate_dst (N := 7) rfl ?_); refine Kd.R_make k92 w.heap.size 92 rfl (N := 7) rfl 43 _ _ rfl (l.length : Int) rfl rfl Tryz.underlying43 _ 80 info92 rfl (by decide) (by decide) z92 (ok := fun _ => True) (okp := fun _ => True) (k92_mkM _ _ _ z92) (fun _ hk => hk) trivial (by omega) (by omega) (Below.refl _ _) (Nat.le_refl _) ?_; intro v w4 ho hb hg_ hn_; clear hg_ hn_; have HO := Aside0.mk ho; have HB := Aside0.mk hb; clear ho hb)
  obtain ⟨B, d, ev⟩ := Kd.R_slice HO.out
  rw [List.length_replicate] at ev
  simp only [Int.toNat_natCast] at ev
  subst ev
  go_loopg [4] l.length (fun gg v4 w' => ∃ i : Int, v4 = .int .i64 i ∧ 0 ≤ i ∧ i ≤ l.length ∧ l.length - i ≤ gg ∧ Aside0 (Kd.R k92 92 w' w.heap.size (fun _ => True) (.slice B l.length d) (fillL (l.map cvUser) z92 i)) ∧ Aside0 (Below w.heap.size w w'))
  case atStart => exact ⟨0, rfl, Int.le_refl _, by omega, by omega, ⟨by have := HO.out; simpa [fillL] using this⟩, HB⟩
  case round =>
    clear HO HB
    obtain ⟨i, rfl, hi0, hi, hgg, HO, HB⟩ := hrel
    have hlen : (fillL (l.map cvUser) z92 i).length = l.length := by rw [fillL_len _ _ _ (by rw [List.length_map]; exact hi), List.length_map]
    by_cases hlt : i < l.length
    · obtain ⟨ad, eA, hc⟩ := at_T131 (Kd.C_below H0.out HB.out) i hi0 hlt
      subst eA
      obtain ⟨g, cap, ev, hg1, hg2, hg3⟩ := Kd.R_form HO.out (by omega)
      rw [hlen] at ev
      injection ev with e1 _ e2
      subst e1 e2
      clear hlen hg1 hg2 hg3
      go_wp2_with (first
        | (go_at_call 96; refine (toUser1 (rd_T131 l i).f0 (rd_T131 l i).f1 (rd_T131 l i).f2 (rd_T131 l i).f3 (rd_T131 l i).f4 (rd_T131 l i).f5 _).mono ?_; rintro e w2 ⟨rfl, hb⟩; have HO2 := Aside0.mk (Kd.R_below HO.out hb); have HB2 := Aside0.mk (below_step HB.out hb); clear hb)
        | ((with_reducible refine gate_store rfl ?_); refine R_storeW k92 w.heap.size rfl rfl 92 _ _ rfl 92 i _ (cvUser (rd_T131 l i)) _ rfl rfl rfl (by kernel_rfl) HO2.out hi0 hlt (k92_mkM _ _ _ (cvUser (rd_T131 l i))) HB2.out ?_; intro w3 ho hb hg_; have HO3 := Aside0.mk ho; have HB3 := Aside0.mk hb; clear ho hb hg_))
      go_roundg (l.length - (i + 1)).toNat
      case measure => omega
      case rel =>
        refine ⟨i + 1, rfl, by omega, by omega, by omega, ⟨?_⟩, HB3⟩
        rw [← fillL_set (l.map cvUser) z92 (cvUser (rd_T131 l i)) i hi0 (by rw [List.length_map]; exact hlt) (by rw [List.getElem?_map, rd_T131, List.getD_eq_getElem?_getD, List.getElem?_eq_getElem (show i.toNat < l.length by omega)]; rfl)]
        exact HO3.out
    · obtain rfl : i = l.length := by omega
      go_wp2
      go_ret
      refine ⟨B, d, rfl, ?_, HB.out⟩
      have h_ := HO.out
      rwa [show (l.length : Int) = ((l.map cvUser).length : Int) by rw [List.length_map], fillL_all] at h_
set_option maxHeartbeats 4000000 in
set_option maxRecDepth 100000 in
theorem toSession1 (x0 : Int) (x1 : Int) (x2 : ByteArray) (x3 : Int) (x4 : Int) (x5 : Int) (x6 : Int) (x7 : Int) (x8 : Int) (x9 : Int) (w : World) :
    Calls Tryz.prog 97 #[.agg #[.int .i64 x0, .int .i64 x1, .string x2, .int .i64 x3, .int .i64 x4, .int .i64 x5, .int .i64 x6, .int .i64 x7, .int .i64 x8, .int .i64 x9]] w fun e w' => e = .returned (.agg #[.int .i64 x0, .int .i64 x1, .string x2, .int .i64 x3, .int .i64 x4, .int .i64 x5, .int .i64 x6, .int .i64 x7, .int .i64 x8, .int .i64 x9]) ∧ Below w.heap.size w w' := by
  have hu := Tryz.underlying76
  have hv := Tryz.underlying133
  go_enter Tryz.func97, Tryz.ntmps97
  go_wp2
  exact bodyPost_ret (v := .agg #[.int .i64 x0, .int .i64 x1, .string x2, .int .i64 x3, .int .i64 x4, .int .i64 x5, .int .i64 x6, .int .i64 x7, .int .i64 x8, .int .i64 x9]) (by simp [results, Tryz.results97, go_sem]) rfl ⟨rfl, below_alloc (below_alloc (below_alloc (Below.refl _ _) _) _) _⟩
set_option maxHeartbeats 4000000 in
set_option maxRecDepth 100000 in
theorem toSessionS1 (A0 : Option Addr) (c0 : Nat) (l : List S133) (w : World) (h0 : Kd.C k133 w A0 l.length l) (z : l.length ≤ 1048576) :
    Calls Tryz.prog 43 #[.slice A0 l.length c0] w fun e w' => ∃ B d, e = .returned (.slice B l.length d) ∧ Kd.R k76 76 w' w.heap.size (fun _ => True) (.slice B l.length d) (l.map cvSession) ∧ Below w.heap.size w w' := by
  have hu := Tryz.underlying76
  have H0 := Aside0.mk h0
  clear h0
  go_enter Tryz.func43, Tryz.ntmps43
  go_wp2_with ((with_reducible refine gate_dst (N := 7) rfl ?_); refine Kd.R_make k76 w.heap.size 76 rfl (N := 7) rfl 44 _ _ rfl (l.length : Int) rfl rfl Tryz.underlying44 _ 88 info76 rfl (by decide) (by decide) z76 (ok := fun _ => True) (okp := fun _ => True) (k76_mkM _ _ _ z76) (fun _ hk => hk) trivial (by omega) (by omega) (Below.refl _ _) (Nat.le_refl _) ?_; intro v w4 ho hb hg_ hn_; clear hg_ hn_; have HO := Aside0.mk ho; have HB := Aside0.mk hb; clear ho hb)
  obtain ⟨B, d, ev⟩ := Kd.R_slice HO.out
  rw [List.length_replicate] at ev
  simp only [Int.toNat_natCast] at ev
  subst ev
  go_loopg [4] l.length (fun gg v4 w' => ∃ i : Int, v4 = .int .i64 i ∧ 0 ≤ i ∧ i ≤ l.length ∧ l.length - i ≤ gg ∧ Aside0 (Kd.R k76 76 w' w.heap.size (fun _ => True) (.slice B l.length d) (fillL (l.map cvSession) z76 i)) ∧ Aside0 (Below w.heap.size w w'))
  case atStart => exact ⟨0, rfl, Int.le_refl _, by omega, by omega, ⟨by have := HO.out; simpa [fillL] using this⟩, HB⟩
  case round =>
    clear HO HB
    obtain ⟨i, rfl, hi0, hi, hgg, HO, HB⟩ := hrel
    have hlen : (fillL (l.map cvSession) z76 i).length = l.length := by rw [fillL_len _ _ _ (by rw [List.length_map]; exact hi), List.length_map]
    by_cases hlt : i < l.length
    · obtain ⟨ad, eA, hc⟩ := at_T133 (Kd.C_below H0.out HB.out) i hi0 hlt
      subst eA
      obtain ⟨g, cap, ev, hg1, hg2, hg3⟩ := Kd.R_form HO.out (by omega)
      rw [hlen] at ev
      injection ev with e1 _ e2
      subst e1 e2
      clear hlen hg1 hg2 hg3
      go_wp2_with (first
        | (go_at_call 97; refine (toSession1 (rd_T133 l i).f0 (rd_T133 l i).f1 (rd_T133 l i).f2 (rd_T133 l i).f3 (rd_T133 l i).f4 (rd_T133 l i).f5 (rd_T133 l i).f6 (rd_T133 l i).f7 (rd_T133 l i).f8 (rd_T133 l i).f9 _).mono ?_; rintro e w2 ⟨rfl, hb⟩; have HO2 := Aside0.mk (Kd.R_below HO.out hb); have HB2 := Aside0.mk (below_step HB.out hb); clear hb)
        | ((with_reducible refine gate_store rfl ?_); refine R_storeW k76 w.heap.size rfl rfl 76 _ _ rfl 76 i _ (cvSession (rd_T133 l i)) _ rfl rfl rfl (by kernel_rfl) HO2.out hi0 hlt (k76_mkM _ _ _ (cvSession (rd_T133 l i))) HB2.out ?_; intro w3 ho hb hg_; have HO3 := Aside0.mk ho; have HB3 := Aside0.mk hb; clear ho hb hg_))
      go_roundg (l.length - (i + 1)).toNat
      case measure => omega
      case rel =>
        refine ⟨i + 1, rfl, by omega, by omega, by omega, ⟨?_⟩, HB3⟩
        rw [← fillL_set (l.map cvSession) z76 (cvSession (rd_T133 l i)) i hi0 (by rw [List.length_map]; exact hlt) (by rw [List.getElem?_map, rd_T133, List.getD_eq_getElem?_getD, List.getElem?_eq_getElem (show i.toNat < l.length by omega)]; rfl)]
        exact HO3.out
    · obtain rfl : i = l.length := by omega
      go_wp2
      go_ret
      refine ⟨B, d, rfl, ?_, HB.out⟩
      have h_ := HO.out
      rwa [show (l.length : Int) = ((l.map cvSession).length : Int) by rw [List.length_map], fillL_all] at h_
set_option maxHeartbeats 4000000 in
set_option maxRecDepth 100000 in
theorem toFail1 (x0 : ByteArray) (x1 : Int) (x2 : Int) (w : World) :
    Calls Tryz.prog 98 #[.agg #[.string x0, .int .i64 x1, .int .i64 x2]] w fun e w' => e = .returned (.agg #[.string x0, .int .i64 x1, .int .i64 x2]) ∧ Below w.heap.size w w' := by
  have hu := Tryz.underlying81
  have hv := Tryz.underlying135
  go_enter Tryz.func98, Tryz.ntmps98
  go_wp2
  exact bodyPost_ret (v := .agg #[.string x0, .int .i64 x1, .int .i64 x2]) (by simp [results, Tryz.results98, go_sem]) rfl ⟨rfl, below_alloc (below_alloc (below_alloc (Below.refl _ _) _) _) _⟩
set_option maxHeartbeats 4000000 in
set_option maxRecDepth 100000 in
theorem toFailS1 (A0 : Option Addr) (c0 : Nat) (l : List S135) (w : World) (h0 : Kd.C k135 w A0 l.length l) (z : l.length ≤ 1048576) :
    Calls Tryz.prog 44 #[.slice A0 l.length c0] w fun e w' => ∃ B d, e = .returned (.slice B l.length d) ∧ Kd.R k81 81 w' w.heap.size (fun _ => True) (.slice B l.length d) (l.map cvFail) ∧ Below w.heap.size w w' := by
  have hu := Tryz.underlying81
  have H0 := Aside0.mk h0
  clear h0
  go_enter Tryz.func44, Tryz.ntmps44
  go_wp2_with ((with_reducible refine gate_dst (N := 7) rfl ?_); refine Kd.R_make k81 w.heap.size 81 rfl (N := 7) rfl 45 _ _ rfl (l.length : Int) rfl rfl Tryz.underlying45 _ 32 info81 rfl (by decide) (by decide) z81 (ok := fun _ => True) (okp := fun _ => True) (k81_mkM _ _ _ z81) (fun _ hk => hk) trivial (by omega) (by omega) (Below.refl _ _) (Nat.le_refl _) ?_; intro v w4 ho hb hg_ hn_; clear hg_ hn_; have HO := Aside0.mk ho; have HB := Aside0.mk hb; clear ho hb)
  obtain ⟨B, d, ev⟩ := Kd.R_slice HO.out
  rw [List.length_replicate] at ev
  simp only [Int.toNat_natCast] at ev
  subst ev
  go_loopg [4] l.length (fun gg v4 w' => ∃ i : Int, v4 = .int .i64 i ∧ 0 ≤ i ∧ i ≤ l.length ∧ l.length - i ≤ gg ∧ Aside0 (Kd.R k81 81 w' w.heap.size (fun _ => True) (.slice B l.length d) (fillL (l.map cvFail) z81 i)) ∧ Aside0 (Below w.heap.size w w'))
  case atStart => exact ⟨0, rfl, Int.le_refl _, by omega, by omega, ⟨by have := HO.out; simpa [fillL] using this⟩, HB⟩
  case round =>
    clear HO HB
    obtain ⟨i, rfl, hi0, hi, hgg, HO, HB⟩ := hrel
    have hlen : (fillL (l.map cvFail) z81 i).length = l.length := by rw [fillL_len _ _ _ (by rw [List.length_map]; exact hi), List.length_map]
    by_cases hlt : i < l.length
    · obtain ⟨ad, eA, hc⟩ := at_T135 (Kd.C_below H0.out HB.out) i hi0 hlt
      subst eA
      obtain ⟨g, cap, ev, hg1, hg2, hg3⟩ := Kd.R_form HO.out (by omega)
      rw [hlen] at ev
      injection ev with e1 _ e2
      subst e1 e2
      clear hlen hg1 hg2 hg3
      go_wp2_with (first
        | (go_at_call 98; refine (toFail1 (rd_T135 l i).f0 (rd_T135 l i).f1 (rd_T135 l i).f2 _).mono ?_; rintro e w2 ⟨rfl, hb⟩; have HO2 := Aside0.mk (Kd.R_below HO.out hb); have HB2 := Aside0.mk (below_step HB.out hb); clear hb)
        | ((with_reducible refine gate_store rfl ?_); refine R_storeW k81 w.heap.size rfl rfl 81 _ _ rfl 81 i _ (cvFail (rd_T135 l i)) _ rfl rfl rfl (by kernel_rfl) HO2.out hi0 hlt (k81_mkM _ _ _ (cvFail (rd_T135 l i))) HB2.out ?_; intro w3 ho hb hg_; have HO3 := Aside0.mk ho; have HB3 := Aside0.mk hb; clear ho hb hg_))
      go_roundg (l.length - (i + 1)).toNat
      case measure => omega
      case rel =>
        refine ⟨i + 1, rfl, by omega, by omega, by omega, ⟨?_⟩, HB3⟩
        rw [← fillL_set (l.map cvFail) z81 (cvFail (rd_T135 l i)) i hi0 (by rw [List.length_map]; exact hlt) (by rw [List.getElem?_map, rd_T135, List.getD_eq_getElem?_getD, List.getElem?_eq_getElem (show i.toNat < l.length by omega)]; rfl)]
        exact HO3.out
    · obtain rfl : i = l.length := by omega
      go_wp2
      go_ret
      refine ⟨B, d, rfl, ?_, HB.out⟩
      have h_ := HO.out
      rwa [show (l.length : Int) = ((l.map cvFail).length : Int) by rw [List.length_map], fillL_all] at h_
set_option maxHeartbeats 4000000 in
set_option maxRecDepth 100000 in
theorem toRecord1 (x0 : Int) (x1 : Int) (x2 : Int) (x3 : Int) (x4 : Bool) (w : World) :
    Calls Tryz.prog 99 #[.agg #[.int .i64 x0, .int .i64 x1, .int .i64 x2, .int .i64 x3, .bool x4]] w fun e w' => e = .returned (.agg #[.int .i64 x0, .int .i64 x1, .int .i64 x2, .int .i64 x3, .bool x4]) ∧ Below w.heap.size w w' := by
  have hu := Tryz.underlying83
  have hv := Tryz.underlying157
  go_enter Tryz.func99, Tryz.ntmps99
  go_wp2
  exact bodyPost_ret (v := .agg #[.int .i64 x0, .int .i64 x1, .int .i64 x2, .int .i64 x3, .bool x4]) (by simp [results, Tryz.results99, go_sem]) rfl ⟨rfl, below_alloc (below_alloc (below_alloc (Below.refl _ _) _) _) _⟩
set_option maxHeartbeats 4000000 in
set_option maxRecDepth 100000 in
theorem toRecordS1 (A0 : Option Addr) (c0 : Nat) (l : List S157) (w : World) (h0 : Kd.C k157 w A0 l.length l) (z : l.length ≤ 1048576) :
    Calls Tryz.prog 45 #[.slice A0 l.length c0] w fun e w' => ∃ B d, e = .returned (.slice B l.length d) ∧ Kd.R k83 83 w' w.heap.size (fun _ => True) (.slice B l.length d) (l.map cvRecord) ∧ Below w.heap.size w w' := by
  have hu := Tryz.underlying83
  have H0 := Aside0.mk h0
  clear h0
  go_enter Tryz.func45, Tryz.ntmps45
  go_wp2_with ((with_reducible refine gate_dst (N := 7) rfl ?_); refine Kd.R_make k83 w.heap.size 83 rfl (N := 7) rfl 46 _ _ rfl (l.length : Int) rfl rfl Tryz.underlying46 _ 40 info83 rfl (by decide) (by decide) z83 (ok := fun _ => True) (okp := fun _ => True) (k83_mkM _ _ _ z83) (fun _ hk => hk) trivial (by omega) (by omega) (Below.refl _ _) (Nat.le_refl _) ?_; intro v w4 ho hb hg_ hn_; clear hg_ hn_; have HO := Aside0.mk ho; have HB := Aside0.mk hb; clear ho hb)
  obtain ⟨B, d, ev⟩ := Kd.R_slice HO.out
  rw [List.length_replicate] at ev
  simp only [Int.toNat_natCast] at ev
  subst ev
  go_loopg [4] l.length (fun gg v4 w' => ∃ i : Int, v4 = .int .i64 i ∧ 0 ≤ i ∧ i ≤ l.length ∧ l.length - i ≤ gg ∧ Aside0 (Kd.R k83 83 w' w.heap.size (fun _ => True) (.slice B l.length d) (fillL (l.map cvRecord) z83 i)) ∧ Aside0 (Below w.heap.size w w'))
  case atStart => exact ⟨0, rfl, Int.le_refl _, by omega, by omega, ⟨by have := HO.out; simpa [fillL] using this⟩, HB⟩
  case round =>
    clear HO HB
    obtain ⟨i, rfl, hi0, hi, hgg, HO, HB⟩ := hrel
    have hlen : (fillL (l.map cvRecord) z83 i).length = l.length := by rw [fillL_len _ _ _ (by rw [List.length_map]; exact hi), List.length_map]
    by_cases hlt : i < l.length
    · obtain ⟨ad, eA, hc⟩ := at_T157 (Kd.C_below H0.out HB.out) i hi0 hlt
      subst eA
      obtain ⟨g, cap, ev, hg1, hg2, hg3⟩ := Kd.R_form HO.out (by omega)
      rw [hlen] at ev
      injection ev with e1 _ e2
      subst e1 e2
      clear hlen hg1 hg2 hg3
      go_wp2_with (first
        | (go_at_call 99; refine (toRecord1 (rd_T157 l i).f0 (rd_T157 l i).f1 (rd_T157 l i).f2 (rd_T157 l i).f3 (rd_T157 l i).f4 _).mono ?_; rintro e w2 ⟨rfl, hb⟩; have HO2 := Aside0.mk (Kd.R_below HO.out hb); have HB2 := Aside0.mk (below_step HB.out hb); clear hb)
        | ((with_reducible refine gate_store rfl ?_); refine R_storeW k83 w.heap.size rfl rfl 83 _ _ rfl 83 i _ (cvRecord (rd_T157 l i)) _ rfl rfl rfl (by kernel_rfl) HO2.out hi0 hlt (k83_mkM _ _ _ (cvRecord (rd_T157 l i))) HB2.out ?_; intro w3 ho hb hg_; have HO3 := Aside0.mk ho; have HB3 := Aside0.mk hb; clear ho hb hg_))
      go_roundg (l.length - (i + 1)).toNat
      case measure => omega
      case rel =>
        refine ⟨i + 1, rfl, by omega, by omega, by omega, ⟨?_⟩, HB3⟩
        rw [← fillL_set (l.map cvRecord) z83 (cvRecord (rd_T157 l i)) i hi0 (by rw [List.length_map]; exact hlt) (by rw [List.getElem?_map, rd_T157, List.getD_eq_getElem?_getD, List.getElem?_eq_getElem (show i.toNat < l.length by omega)]; rfl)]
        exact HO3.out
    · obtain rfl : i = l.length := by omega
      go_wp2
      go_ret
      refine ⟨B, d, rfl, ?_, HB.out⟩
      have h_ := HO.out
      rwa [show (l.length : Int) = ((l.map cvRecord).length : Int) by rw [List.length_map], fillL_all] at h_
set_option maxHeartbeats 4000000 in
set_option maxRecDepth 100000 in
theorem toGuests1 (A0 : Option Addr) (c0 : Nat) (x0 : List S131) (A1 : Option Addr) (c1 : Nat) (x1 : List S133) (A2 : Option Addr) (c2 : Nat) (x2 : List S135) (A3 : Option Addr) (c3 : Nat) (x3 : List S157) (x4 : Int) (w : World) (h0 : Kd.C k131 w A0 x0.length x0) (z0 : x0.length ≤ 1048576) (h1 : Kd.C k133 w A1 x1.length x1) (z1 : x1.length ≤ 1048576) (h2 : Kd.C k135 w A2 x2.length x2) (z2 : x2.length ≤ 1048576) (h3 : Kd.C k157 w A3 x3.length x3) (z3 : x3.length ≤ 1048576) :
    Calls Tryz.prog 11 #[.agg #[.slice A0 x0.length c0, .slice A1 x1.length c1, .slice A2 x2.length c2, .slice A3 x3.length c3, .int .i64 x4]] w fun e w' => ∃ B0 d0, ∃ B1 d1, ∃ B2 d2, ∃ B3 d3, e = .returned (.agg #[.slice B0 x0.length d0, .slice B1 x1.length d1, .slice B2 x2.length d2, .slice B3 x3.length d3, .int .i64 x4]) ∧ Kd.R k92 92 w' w.heap.size (fun _ => True) (.slice B0 x0.length d0) (x0.map cvUser) ∧ Kd.R k76 76 w' w.heap.size (fun _ => True) (.slice B1 x1.length d1) (x1.map cvSession) ∧ Kd.R k81 81 w' w.heap.size (fun _ => True) (.slice B2 x2.length d2) (x2.map cvFail) ∧ Kd.R k83 83 w' w.heap.size (fun _ => True) (.slice B3 x3.length d3) (x3.map cvRecord) ∧ Below w.heap.size w w' := by
  have hu := Tryz.underlying48
  have hv := Tryz.underlying33
  have HH0 := Aside0.mk h0
  clear h0
  have HH1 := Aside0.mk h1
  clear h1
  have HH2 := Aside0.mk h2
  clear h2
  have HH3 := Aside0.mk h3
  clear h3
  have HB := Aside0.mk (Below.refl w.heap.size w)
  go_enter Tryz.func11, Tryz.ntmps11
  go_wp2_with (first
    | (go_at_call 42; refine (toUserS1 A0 c0 x0 _ (Kd.C_below HH0.out (by repeat' (with_reducible first | exact HB.out | apply below_alloc | refine below_set ?_ (by omega)))) z0).mono ?_; rintro e w2 ⟨B0, d0, rfl, ho, hb⟩; have n_ := Aside0.mk (below_step (w := w) (by repeat' (with_reducible first | exact HB.out | apply below_alloc | refine below_set ?_ (by omega))) hb); clear HB; have HB := n_; clear n_; have n_ := Aside0.mk (blk_below (g := w.heap.size + 1) (o := .cells #[.slice none 0 0, .slice none 0 0, .slice none 0 0, .slice none 0 0, .int .i64 0] 48 (0, 0)) (by repeat' (with_reducible first | exact HR.out | exact box2 _ _ _ _ | refine blk_far ?_ (by dsimp only; omega) _)) hb); (try clear HR); have HR := n_; clear n_; have HO0 := Aside0.mk (Kd.R_lower (base' := w.heap.size + 3) ho (by first | (simp; done) | (simp; omega) | omega)); clear ho; obtain ⟨hc, hf⟩ := bcell hb; have hz : w.heap.size + 1 + 1 < w2.heap.size := (by have := hb.size; (try simp at this); omega); have hz0 : w.heap.size < w2.heap.size := (by omega); have hz1 : w.heap.size + 1 < w2.heap.size := (by omega); clear hb)
    | (go_at_call 43; refine (toSessionS1 A1 c1 x1 _ (Kd.C_below HH1.out (by repeat' (with_reducible first | exact HB.out | apply below_alloc | refine below_set ?_ (by omega)))) z1).mono ?_; rintro e w2 ⟨B1, d1, rfl, ho, hb⟩; have n_ := Aside0.mk (below_step (w := w) (by repeat' (with_reducible first | exact HB.out | apply below_alloc | refine below_set ?_ (by omega))) hb); clear HB; have HB := n_; clear n_; have n_ := Aside0.mk (blk_below (g := w.heap.size + 1) (o := .cells #[.slice none 0 0, .slice none 0 0, .slice none 0 0, .slice none 0 0, .int .i64 0] 48 (0, 0)) (by repeat' (with_reducible first | exact HR.out | exact box2 _ _ _ _ | refine blk_far ?_ (by dsimp only; omega) _)) hb); (try clear HR); have HR := n_; clear n_; have n_ := Aside0.mk (Kd.R_below (R_out HO0.out (fun k hk => by repeat (with_reducible refine (Below.heap_setCell _ _ _ _ (by dsimp only; omega)).trans ?_); rfl)) hb); clear HO0; have HO0 := n_; clear n_; have HO1 := Aside0.mk (Kd.R_lower (base' := w.heap.size + 3) ho (by first | (simp; done) | (simp; omega) | omega)); clear ho; obtain ⟨hc, hf⟩ := bcell hb; have hz : w.heap.size + 1 + 1 < w2.heap.size := (by have := hb.size; (try simp at this); omega); have hz0 : w.heap.size < w2.heap.size := (by omega); have hz1 : w.heap.size + 1 < w2.heap.size := (by omega); clear hb)
    | (go_at_call 44; refine (toFailS1 A2 c2 x2 _ (Kd.C_below HH2.out (by repeat' (with_reducible first | exact HB.out | apply below_alloc | refine below_set ?_ (by omega)))) z2).mono ?_; rintro e w2 ⟨B2, d2, rfl, ho, hb⟩; have n_ := Aside0.mk (below_step (w := w) (by repeat' (with_reducible first | exact HB.out | apply below_alloc | refine below_set ?_ (by omega))) hb); clear HB; have HB := n_; clear n_; have n_ := Aside0.mk (blk_below (g := w.heap.size + 1) (o := .cells #[.slice none 0 0, .slice none 0 0, .slice none 0 0, .slice none 0 0, .int .i64 0] 48 (0, 0)) (by repeat' (with_reducible first | exact HR.out | exact box2 _ _ _ _ | refine blk_far ?_ (by dsimp only; omega) _)) hb); (try clear HR); have HR := n_; clear n_; have n_ := Aside0.mk (Kd.R_below (R_out HO0.out (fun k hk => by repeat (with_reducible refine (Below.heap_setCell _ _ _ _ (by dsimp only; omega)).trans ?_); rfl)) hb); clear HO0; have HO0 := n_; clear n_; have n_ := Aside0.mk (Kd.R_below (R_out HO1.out (fun k hk => by repeat (with_reducible refine (Below.heap_setCell _ _ _ _ (by dsimp only; omega)).trans ?_); rfl)) hb); clear HO1; have HO1 := n_; clear n_; have HO2 := Aside0.mk (Kd.R_lower (base' := w.heap.size + 3) ho (by first | (simp; done) | (simp; omega) | omega)); clear ho; obtain ⟨hc, hf⟩ := bcell hb; have hz : w.heap.size + 1 + 1 < w2.heap.size := (by have := hb.size; (try simp at this); omega); have hz0 : w.heap.size < w2.heap.size := (by omega); have hz1 : w.heap.size + 1 < w2.heap.size := (by omega); clear hb)
    | (go_at_call 45; refine (toRecordS1 A3 c3 x3 _ (Kd.C_below HH3.out (by repeat' (with_reducible first | exact HB.out | apply below_alloc | refine below_set ?_ (by omega)))) z3).mono ?_; rintro e w2 ⟨B3, d3, rfl, ho, hb⟩; have n_ := Aside0.mk (below_step (w := w) (by repeat' (with_reducible first | exact HB.out | apply below_alloc | refine below_set ?_ (by omega))) hb); clear HB; have HB := n_; clear n_; have n_ := Aside0.mk (blk_below (g := w.heap.size + 1) (o := .cells #[.slice none 0 0, .slice none 0 0, .slice none 0 0, .slice none 0 0, .int .i64 0] 48 (0, 0)) (by repeat' (with_reducible first | exact HR.out | exact box2 _ _ _ _ | refine blk_far ?_ (by dsimp only; omega) _)) hb); (try clear HR); have HR := n_; clear n_; have n_ := Aside0.mk (Kd.R_below (R_out HO0.out (fun k hk => by repeat (with_reducible refine (Below.heap_setCell _ _ _ _ (by dsimp only; omega)).trans ?_); rfl)) hb); clear HO0; have HO0 := n_; clear n_; have n_ := Aside0.mk (Kd.R_below (R_out HO1.out (fun k hk => by repeat (with_reducible refine (Below.heap_setCell _ _ _ _ (by dsimp only; omega)).trans ?_); rfl)) hb); clear HO1; have HO1 := n_; clear n_; have n_ := Aside0.mk (Kd.R_below (R_out HO2.out (fun k hk => by repeat (with_reducible refine (Below.heap_setCell _ _ _ _ (by dsimp only; omega)).trans ?_); rfl)) hb); clear HO2; have HO2 := n_; clear n_; have HO3 := Aside0.mk (Kd.R_lower (base' := w.heap.size + 3) ho (by first | (simp; done) | (simp; omega) | omega)); clear ho; obtain ⟨hc, hf⟩ := bcell hb; have hz : w.heap.size + 1 + 1 < w2.heap.size := (by have := hb.size; (try simp at this); omega); have hz0 : w.heap.size < w2.heap.size := (by omega); have hz1 : w.heap.size + 1 < w2.heap.size := (by omega); clear hb))
  refine bodyPost_ret (v := .agg #[.slice B0 x0.length d0, .slice B1 x1.length d1, .slice B2 x2.length d2, .slice B3 x3.length d3, .int .i64 x4]) ?_ rfl ⟨B0, d0, B1, d1, B2, d2, B3, d3, rfl, ?_, ?_, ?_, ?_, ?_⟩
  · refine results_cell_row rfl _ _ (w.heap.size + 1) 48 #[.slice B0 x0.length d0, .slice B1 x1.length d1, .slice B2 x2.length d2, .slice B3 x3.length d3, .int .i64 x4] (0, 0) _ rfl ?_ hu rfl (by kernel_rfl)
    refine res5 (z0 := .slice none 0 0) (z1 := .slice none 0 0) (z2 := .slice none 0 0) (z3 := .slice none 0 0) (z4 := .int .i64 0) ?_
    repeat' (with_reducible first | exact HR.out | refine blk_far ?_ (by dsimp only; omega) _)
  · refine Kd.R_lower (base := w.heap.size + 3) ?_ (by omega)
    refine R_out HO0.out (fun k hk => ?_)
    repeat (with_reducible refine (Below.heap_setCell _ _ _ _ (by dsimp only; omega)).trans ?_)
    rfl
  · refine Kd.R_lower (base := w.heap.size + 3) ?_ (by omega)
    refine R_out HO1.out (fun k hk => ?_)
    repeat (with_reducible refine (Below.heap_setCell _ _ _ _ (by dsimp only; omega)).trans ?_)
    rfl
  · refine Kd.R_lower (base := w.heap.size + 3) ?_ (by omega)
    refine R_out HO2.out (fun k hk => ?_)
    repeat (with_reducible refine (Below.heap_setCell _ _ _ _ (by dsimp only; omega)).trans ?_)
    rfl
  · refine Kd.R_lower (base := w.heap.size + 3) ?_ (by omega)
    refine R_out HO3.out (fun k hk => ?_)
    repeat (with_reducible refine (Below.heap_setCell _ _ _ _ (by dsimp only; omega)).trans ?_)
    rfl
  · repeat' (with_reducible first | exact HB.out | refine below_set ?_ (by omega))
end
section
-- NEEDS laws.eqConfig laws.szConfig laws.toConfig
theorem eqConfigN (ip b gate : Int) (gm wm : ByteArray) (res : Int) (A6 V6 : Option Addr) (c6 v6 : Nat) (g : List S140) (A7 V7 : Option Addr) (c7 v7 : Nat) (l : List S145) (w : World) (q6 q7 : Nat) (e6 : g.length = q6) (e7 : l.length = q7) (h6 : Kd.C k140 w A6 g.length g) (g6 : Kd.C k140 w V6 g.length g) (z6 : g.length ≤ 1152921504606846976) (h7 : Kd.C k145 w A7 l.length l) (g7 : Kd.C k145 w V7 l.length l) (z7 : l.length ≤ 1152921504606846976) (y7 : ∀ r ∈ l, r.f1.length ≤ 1152921504606846976) :
    Calls Tryz.prog 13 #[.agg #[.int .i64 ip, .int .i64 b, .int .i64 gate, .string gm, .string wm, .int .i64 res, .slice A6 q6 c6, .slice A7 q7 c7], .agg #[.int .i64 ip, .int .i64 b, .int .i64 gate, .string gm, .string wm, .int .i64 res, .slice V6 q6 v6, .slice V7 q7 v7]] w fun e w' => e = .returned (.bool true) ∧ Below w.heap.size w w' := by
  subst e6 e7
  exact eqConfig1 ip b gate gm wm res A6 V6 c6 v6 g A7 V7 c7 v7 l w h6 g6 z6 h7 g7 z7 y7
theorem eqGuestsN (B0 B1 B2 B3 V0 V1 V2 V3 : Option Addr) (d0 d1 d2 d3 v0 v1 v2 v3 : Nat) (us : List S92) (ss : List S76) (fs : List S81) (rs : List S83) (nx : Int) (w : World) (q0 q1 q2 q3 : Nat) (e0 : us.length = q0) (e1 : ss.length = q1) (e2 : fs.length = q2) (e3 : rs.length = q3) (h0 : Kd.C k92 w B0 us.length us) (g0 : Kd.C k92 w V0 us.length us) (z0 : us.length ≤ 1152921504606846976) (h1 : Kd.C k76 w B1 ss.length ss) (g1 : Kd.C k76 w V1 ss.length ss) (z1 : ss.length ≤ 1152921504606846976) (h2 : Kd.C k81 w B2 fs.length fs) (g2 : Kd.C k81 w V2 fs.length fs) (z2 : fs.length ≤ 1152921504606846976) (h3 : Kd.C k83 w B3 rs.length rs) (g3 : Kd.C k83 w V3 rs.length rs) (z3 : rs.length ≤ 1152921504606846976) :
    Calls Tryz.prog 14 #[.agg #[.slice B0 q0 d0, .slice B1 q1 d1, .slice B2 q2 d2, .slice B3 q3 d3, .int .i64 nx], .agg #[.slice V0 q0 v0, .slice V1 q1 v1, .slice V2 q2 v2, .slice V3 q3 v3, .int .i64 nx]] w fun e w' => e = .returned (.bool true) ∧ Below w.heap.size w w' := by
  subst e0 e1 e2 e3
  exact eqGuests1 B0 V0 d0 v0 us B1 V1 d1 v1 ss B2 V2 d2 v2 fs B3 V3 d3 v3 rs nx w h0 g0 z0 h1 g1 z1 h2 g2 z2 h3 g3 z3
theorem R_toC {β : Type} {d : Kd β} {e base n c : Nat} {ok : Nat → Prop} {w : World} {A : Option Addr} {xs : List β} (h : d.R e w base ok (.slice A n c) xs) : n ≤ c ∧ d.C w A xs.length xs := by
  obtain ⟨A2, c2, e2, h2, h3⟩ := Kd.R_reads h
  simp only [Value.slice.injEq] at e2
  obtain ⟨rfl, rfl, rfl⟩ := e2
  exact ⟨h2, h3⟩
theorem IsB.as {P : Prop} {w w' : World} {e : Ending} (h : IsB P w e w') {v : Bool} (hv : v = true ↔ P) : e = .returned (.bool v) ∧ Below w.heap.size w w' := by
  cases v
  · exact h.no (fun hp => absurd (hv.2 hp) (by decide))
  · exact h.yes (hv.1 rfl)
def LawG (gm wm : ByteArray) (g : List S151) (l : List S129) (us : List S131) (ss : List S133) (fs : List S135) (rs : List S157) : Prop := gm.size ≤ 140737488351232 ∧ wm.size ≤ 140737488351232 ∧ g.length ≤ 140737488351232 ∧ l.length ≤ 140737488351232 ∧ (∀ y ∈ l, y.f0.size ≤ 140737488351232 ∧ y.f1.length ≤ 140737488351232) ∧ us.length ≤ 140737488351232 ∧ (∀ y ∈ us, y.f0.size ≤ 140737488351232 ∧ y.f1.size ≤ 140737488351232 ∧ y.f2.size ≤ 140737488351232 ∧ y.f3.size ≤ 140737488351232) ∧ ss.length ≤ 140737488351232 ∧ (∀ y ∈ ss, y.f2.size ≤ 140737488351232) ∧ fs.length ≤ 140737488351232 ∧ (∀ y ∈ fs, y.f0.size ≤ 140737488351232) ∧ rs.length ≤ 140737488351232
theorem zmap {α β : Type} {f : α → β} {l : List α} {P : β → Prop} (h : ∀ x ∈ l, P (f x)) : ∀ y ∈ l.map f, P y := by
  intro y hy
  obtain ⟨x, hx, rfl⟩ := List.mem_map.1 hy
  exact h x hx
end
end Go.Proofs.YtkklokkldgkacaaGreat.X
