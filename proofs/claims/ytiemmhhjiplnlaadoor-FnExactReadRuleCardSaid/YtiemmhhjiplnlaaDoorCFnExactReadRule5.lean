/- The program's ReadRule returns what the reference's ReadRule returns, for all arguments. Conditions: the package-level variables that the row lists read as the program's own text lays them (tied by the card). -/
import Derived.Test.YtiemmhhjiplnlaaDoorCFnExactReadRule4
import Derived.Test.YtiemmhhjiplnlaaDoorRows
import Derived.Test.YtiemmhhjiplnlaaDoorCards
import Derived.Test.YtiemmhhjiplnlaaDoorTie
namespace Go.Proofs.YtiemmhhjiplnlaaDoor.X
open Go.RowKit Go.Proofs.YtiemmhhjiplnlaaDoorW.PrintWords Go.Proofs.YtiemmhhjiplnlaaDoorW.PrintLast Go.Proofs.YtiemmhhjiplnlaaDoorW.PrintMore
attribute [local go_sem] max2_int min2_int max_two min_two max_three min_three max_four min_four   -- for this text's walks alone
set_option linter.unusedVariables false
set_option linter.unusedSimpArgs false
open Go.Proofs.YtiemmhhjiplnlaaDoorW.PrintWords renaming blk_drewN -> bDn
open Go.Proofs.YtiemmhhjiplnlaaDoorW.PrintWords renaming blk_drew -> bDr
open Go.Proofs.YtiemmhhjiplnlaaDoorW.PrintWords renaming blk_alloc -> bAl
open Go.Proofs.YtiemmhhjiplnlaaDoorW.PrintWords renaming blk_frozen -> bFr
open Go.Proofs.YtiemmhhjiplnlaaDoorW.PrintWords renaming blk_cell -> bCe
open Go.Proofs.YtiemmhhjiplnlaaDoorW.PrintWords.Aside0 renaming mk -> aMk
open Go.World renaming block_lt_of_cell? -> wLt
open Go.Proofs.YtiemmhhjiplnlaaDoorW.PrintWords renaming pw_below_drewN -> bwN
open Go.Proofs.YtiemmhhjiplnlaaDoorW.PrintWords renaming below_drew1 -> bw1
open Go.Proofs.YtiemmhhjiplnlaaDoorW.PrintWords renaming below_alloc -> bwA
section
-- NEEDS spec.l00Number impl.number spec.l00Cut strings.Split
-- IMPORT Derived.Lib.AtoiAllCases
def digs : Nat → List UInt8 → Option Nat
 | n,[] => some n
 | n,c :: r => if 48 ≤ c.toNat ∧ c.toNat ≤ 57 then digs (n * 10 + (c.toNat - 48)) r else none
theorem digs_append : ∀ (a b : List UInt8) (n : Nat),digs n (a ++ b) = (digs n a).bind fun m => digs m b
 | [],b,n => rfl
 | c :: a,b,n => by
  rw [List.cons_append,digs,digs]
  split
  ·exact digs_append a b _
  ·rfl
theorem digs_lt : ∀ (l : List UInt8) (n m j : Nat),n < 10 ^ j → digs n l = some m → m < 10 ^ (j + l.length)
 | [],n,m,j,hn,h => by
  rw [digs] at h
  obtain rfl:=Option.some.inj h
  exact hn
 | c :: r,n,m,j,hn,h => by
  rw [digs] at h
  split at h
  ·have h2:=digs_lt r _ m (j + 1) (by rw [Nat.pow_succ];omega) h
   rw [List.length_cons,show j + (r.length + 1) = j + 1 + r.length by omega]
   exact h2
  ·cases h
theorem parse_digs : ∀ (l : List UInt8) (n j m : Nat),n < 10 ^ j → j + l.length ≤ 18 → digs n l = some m → Lib.parseUint10 n l = .ok m
 | [],n,j,m,_,_,h => by
  rw [digs] at h
  rw [Lib.parseUint10,Option.some.inj h]
 | c :: r,n,j,m,hn,hl,h => by
  rw [List.length_cons] at hl
  have hb : n < 100000000000000000:=Nat.lt_of_lt_of_le hn (Nat.pow_le_pow_right (show 0 < 10 by decide) (show j ≤ 17 by omega))
  rw [digs] at h
  split at h
  ·rename_i hc
   rw [Lib.parseUint10,if_pos hc,if_neg (by omega),if_neg (by omega)]
   exact parse_digs r _ (j + 1) m (by rw [Nat.pow_succ];omega) (by omega) h
  ·cases h
theorem dig_of (n : Nat) (h : n < 10) : (UInt8.ofNat (48 + n)).toNat = 48 + n:=by
 rw [UInt8.toNat_ofNat']
 omega
theorem digs_dec : ∀ (b m : Nat),m < b → digs 0 (Lib.decDigits m) = some m:=by
 intro b
 induction b with
 | zero => intro m h;omega
 | succ b ih =>
  intro m h
  rw [Lib.decDigits]
  split
  ·rename_i h10
   rw [digs,dig_of m h10,if_pos (by omega),digs]
   congr 1;omega
  ·rw [digs_append,ih (m / 10) (by omega),Option.bind_some,digs,dig_of (m % 10) (by omega),if_pos (by omega),digs]
   congr 1;omega
theorem dec_ne (m : Nat) : Lib.decDigits m ≠ []:=by
 rw [Lib.decDigits]
 split <;> simp
theorem dec_head : ∀ (b m : Nat),m < b → (∃ c,(Lib.decDigits m).head? = some c ∧ 48 ≤ c.toNat ∧ c.toNat ≤ 57) ∧ ((Lib.decDigits m).head? = some 48 → m = 0):=by
 intro b
 induction b with
 | zero => intro m h;omega
 | succ b ih =>
  intro m h
  rw [Lib.decDigits]
  split
  ·rename_i h10
   refine ⟨⟨_,rfl,by rw [dig_of m h10];omega⟩,fun hh => ?_⟩
   have h2 : UInt8.ofNat (48 + m) = 48:=Option.some.inj hh
   have h3:=congrArg UInt8.toNat h2
   rw [dig_of m h10] at h3
   have h4 : (48 : UInt8).toNat = 48:=rfl
   omega
  ·obtain ⟨⟨c,h1,h2,h3⟩,h4⟩:=ih (m / 10) (by omega)
   have hh : (Lib.decDigits (m / 10) ++ [UInt8.ofNat (48 + m % 10)]).head? = (Lib.decDigits (m / 10)).head?:=by
    rw [List.head?_append,h1];rfl
   rw [hh]
   exact ⟨⟨c,h1,h2,h3⟩,fun e => by have:=h4 e;omega⟩
theorem dec_zero : Lib.decDigits 0 = [48]:=by rw [Lib.decDigits];rfl
theorem dec_canon : ∀ (b : Nat) (l : List UInt8) (m : Nat),l.length < b → l ≠ [] → (l.head? = some 48 → l.length = 1) → digs 0 l = some m → Lib.decDigits m = l:=by
 intro b
 induction b with
 | zero => intro l m h;omega
 | succ b ih =>
  intro l m hb hne hz hd
  rcases List.eq_nil_or_concat l with e | ⟨a,c,e⟩
  ·exact absurd e hne
  ·subst e
   rw [List.concat_eq_append] at *
   rw [digs_append] at hd
   cases ha : digs 0 a with
   | none => rw [ha] at hd;cases hd
   | some m1 =>
    rw [ha,Option.bind_some,digs] at hd
    split at hd
    ·rename_i hc
     rw [digs] at hd
     have hm:=Option.some.inj hd
     have hcc : UInt8.ofNat (48 + (c.toNat - 48)) = c:=by
      apply UInt8.toNat_inj.1
      rw [dig_of _ (by omega)]
      omega
     by_cases han : a = []
     ·subst han
      rw [digs] at ha
      obtain rfl:=Option.some.inj ha
      rw [Lib.decDigits,dif_pos (by omega),List.nil_append,show 48 + m = 48 + (c.toNat - 48) by omega,hcc]
     ·have hlen : 1 ≤ a.length:=by
       rcases a with _ | ⟨x,a⟩
       ·exact absurd rfl han
       ·simp
      have hh : (a ++ [c]).head? = a.head?:=by
       rcases a with _ | ⟨x,a⟩
       ·exact absurd rfl han
       ·rfl
      have hnz : a.head? ≠ some 48:=by
       intro e
       have:=hz (hh.trans e)
       rw [List.length_append,List.length_singleton] at this
       omega
      have hi:=ih a m1 (by rw [List.length_append,List.length_singleton] at hb;omega) han (fun e => absurd e hnz) ha
      have hm1 : m1 ≠ 0:=by
       intro e
       subst e
       rw [dec_zero] at hi
       exact hnz (by rw [← hi];rfl)
      rw [Lib.decDigits,dif_neg (by omega),show m / 10 = m1 by omega,hi,show m % 10 = c.toNat - 48 by omega,hcc]
    ·cases hd
def specD (d : List UInt8) (s : Int) : Int × Bool:=if d = [] ∨ 18 < d.length ∨ (d.head? = some 48 ∧ (1 < d.length ∨ s < 0)) then (0,false) else match digs 0 d with | some m => (s * m,true) | none => (0,false)
theorem num_step (n c : Nat) (hn : n < 100000000000000000) (h1 : 48 ≤ c) (h2 : c ≤ 57) : wrap64 (wrap64 (wrap64 ((n : Int) * 10) + wrap64 (c : Int)) - 48) = ((n * 10 + (c - 48) : Nat) : Int):=by
 rw [wrap_id (n:=(n : Int) * 10) (by omega) (by omega),wrap_id (n:=(c : Int)) (by omega) (by omega),wrap_id (n:=(n : Int) * 10 + (c : Int)) (by omega) (by omega),wrap_id (by omega) (by omega)]
 omega
theorem num_sign (s : Int) (hs : s = 1 ∨ s = -1) (n : Nat) (hn : n < 1000000000000000000) : wrap64 (s * (n : Int)) = s * (n : Int):=by
 rcases hs with rfl | rfl
 ·rw [Int.one_mul,wrap_id (by omega) (by omega)]
 ·rw [Int.neg_mul,Int.one_mul,wrap_id (by omega) (by omega)]
theorem idx_step (i : Nat) (h : i ≤ 18) : wrap64 ((i : Int) + 1) = ((i + 1 : Nat) : Int):=by
 rw [wrap_id (by omega) (by omega)];omega
theorem num_run (x : ByteArray) (s : Int) (hx : x.size ≤ 18) (hs : s = 1 ∨ s = -1) : ∀ (d i n : Nat),i + d = x.size → n < 10 ^ i → ∀ k,d < k →
  spec_l00Number.l0 k x s (n : Int) (i : Int) = some (match digs n (x.data.toList.drop i) with | some m => (s * m,true) | none => (0,false)):=by
 have hsz:=Lib.size_eq x
 intro d
 induction d with
 | zero =>
  intro i n hi hn k hk
  obtain ⟨k,rfl⟩ : ∃ q,k = q + 1:=⟨k - 1,by omega⟩
  have hb : n < 1000000000000000000:=Nat.lt_of_lt_of_le hn (Nat.pow_le_pow_right (show 0 < 10 by decide) (show i ≤ 18 by omega))
  rw [spec_l00Number.l0,if_neg (by omega),List.drop_of_length_le (by omega : x.data.toList.length ≤ i),digs,num_sign s hs n hb]
 | succ d ih =>
  intro i n hi hn k hk
  obtain ⟨k,rfl⟩ : ∃ q,k = q + 1:=⟨k - 1,by omega⟩
  have hlt : i < x.data.toList.length:=by omega
  have hb : n < 100000000000000000:=Nat.lt_of_lt_of_le hn (Nat.pow_le_pow_right (show 0 < 10 by decide) (show i ≤ 17 by omega))
  have hdrop : x.data.toList.drop i = x.data.toList[i] :: x.data.toList.drop (i + 1):=List.drop_eq_getElem_cons hlt
  obtain ⟨c,hc⟩ : ∃ c,x.data.toList[i] = c:=⟨_,rfl⟩
  have hcl:=c.toNat_lt
  rw [spec_l00Number.l0,if_pos (by omega),if_pos (by omega),bt_data x i hlt,idx_step i (by omega),hdrop,hc,digs]
  by_cases h48 : c.toNat < 48
  ·rw [if_pos (by omega),if_neg (by omega)]
  ·rw [if_neg (by omega)]
   by_cases h57 : 57 < c.toNat
   ·rw [if_pos (by omega),if_neg (by omega)]
   ·rw [if_neg (by omega),if_pos (by omega)]
    rw [num_step n c.toNat hb (by omega) (by omega)]
    have hn2 : n * 10 + (c.toNat - 48) < 10 ^ (i + 1):=by
     clear ih
     rw [Nat.pow_succ];omega
    exact ih (i + 1) _ (by omega) hn2 k (by omega)
theorem num_j1 (x : ByteArray) (s : Int) (hs : s = 1 ∨ s = -1) (k : Nat) (hk : 22 ≤ k) : spec_l00Number.j1 k x s = some (specD x.data.toList s):=by
 have hsz:=Lib.size_eq x
 obtain ⟨k,rfl⟩ : ∃ q,k = q + 1 + 1:=⟨k - 2,by omega⟩
 obtain ⟨d,hd⟩ : ∃ d,x.data.toList = d:=⟨_,rfl⟩
 have hl : x.size = d.length:=by rw [hsz,hd]
 have bad : spec_l00Number.j2 (k + 1) x s true = some (0,false):=by rw [spec_l00Number.j2,if_pos rfl]
 have good : x.size ≤ 18 → spec_l00Number.j2 (k + 1) x s false = some (match digs 0 d with | some m => (s * m,true) | none => (0,false)):=by
  intro h18
  rw [spec_l00Number.j2,if_neg (by decide)]
  have h:=num_run x s h18 hs x.size 0 0 (by omega) (by decide) k (by omega)
  rw [List.drop_zero,hd] at h
  exact h
 rw [spec_l00Number.j1,hd,specD]
 rcases d with _ | ⟨c,r⟩
 ·rw [if_pos (by rw [hl];rfl),bad,if_pos (Or.inl rfl)]
 ·have hl2 : x.size = r.length + 1:=by rw [hl,List.length_cons]
  rw [if_neg (by omega)]
  by_cases h18 : 18 < x.size
  ·rw [if_pos (by omega),bad,if_pos (Or.inr (Or.inl (by omega)))]
  ·rw [if_neg (by omega),if_pos (by omega)]
   have hb : bt x 0 = (c.toNat : Int):=by
    have h1:=bt_data x 0 (by omega)
    rw [show ((0 : Nat) : Int) = 0 from rfl] at h1
    rw [h1]
    congr 2
    simp only [hd,List.getElem_cons_zero]
   rw [hb]
   by_cases hc : c = 48
   ·subst hc
    rw [if_pos (show (((48 : UInt8).toNat : Nat) : Int) = 48 from rfl)]
    by_cases h1 : 1 < x.size
    ·rw [if_pos (by omega),bad,if_pos (Or.inr (Or.inr ⟨rfl,Or.inl (by omega)⟩))]
    ·rw [if_neg (by omega)]
     by_cases hn : s < 0
     ·rw [decide_eq_true hn,bad,if_pos (Or.inr (Or.inr ⟨rfl,Or.inr hn⟩))]
     ·rw [decide_eq_false hn,good (by omega),if_neg]
      rintro (h | h | ⟨_,h | h⟩)
      ·cases h
      ·omega
      ·omega
      ·exact hn h
   ·have hne : ¬ ((c.toNat : Int) = 48):=fun e => hc (UInt8.toNat_inj.1 (by rw [show (48 : UInt8).toNat = 48 from rfl];omega))
    rw [if_neg hne,good (by omega),if_neg]
    rintro (h | h | ⟨h,_⟩)
    ·cases h
    ·omega
    ·exact hc (Option.some.inj h)
def specN : List UInt8 → Int × Bool
 | 45 :: d => specD d (-1)
 | l => specD l 1
theorem specN_minus (d : List UInt8) : specN (45 :: d) = specD d (-1):=rfl
theorem specN_other (l : List UInt8) (h : l.head? ≠ some 45) : specN l = specD l 1:=by
 unfold specN
 split
 ·exact absurd rfl h
 ·rfl
theorem num_spec (x : ByteArray) (k : Nat) (hk : 24 ≤ k) : spec_l00Number.f k x = some (specN x.data.toList):=by
 have hsz:=Lib.size_eq x
 obtain ⟨k,rfl⟩ : ∃ q,k = q + 1:=⟨k - 1,by omega⟩
 rw [spec_l00Number.f]
 cases hd : x.data.toList with
 | nil =>
  have h0 : x.size = 0:=by rw [hsz,hd];rfl
  rw [if_neg (by omega),spec_l00Number.j0,if_neg (by decide),num_j1 x 1 (Or.inl rfl) k (by omega),hd,specN_other _ (by simp)]
 | cons c r =>
  have h0 : x.size = r.length + 1:=by rw [hsz,hd];rfl
  have hb : bt x 0 = (c.toNat : Int):=by
   have h1:=bt_data x 0 (by omega)
   rw [show ((0 : Nat) : Int) = 0 from rfl] at h1
   rw [h1]
   congr 2
   simp only [hd,List.getElem_cons_zero]
  rw [if_pos (by omega),if_pos (by omega),hb,spec_l00Number.j0]
  by_cases hc : c = 45
  ·subst hc
   rw [if_pos (by rfl),if_pos (by omega),num_j1 _ (-1) (Or.inr rfl) k (by omega),Lib.extract_data,hd,specN_minus]
   congr 2
   simp only [List.drop_succ_cons,List.drop_zero]
   exact List.take_of_length_le (by omega)
  ·have hne : ((c.toNat : Int) == 45) = false:=by
    rw [beq_eq_false_iff_ne]
    exact fun e => hc (UInt8.toNat_inj.1 (by rw [show (45 : UInt8).toNat = 45 from rfl];omega))
   rw [hne,if_neg (by decide),num_j1 x 1 (Or.inl rfl) k (by omega),hd,specN_other _ (by intro e;exact hc (Option.some.inj e))]
theorem specD_true {d : List UInt8} {s v : Int} (h : specD d s = (v,true)) : ∃ m,digs 0 d = some m ∧ v = s * m ∧ d ≠ [] ∧ d.length ≤ 18 ∧ (d.head? = some 48 → d.length = 1 ∧ ¬ s < 0):=by
 rw [specD] at h
 split at h
 ·cases h
 ·rename_i hn
  cases hd : digs 0 d with
  | none => rw [hd] at h;cases h
  | some m =>
   rw [hd] at h
   have h1:=congrArg Prod.fst h
   have hne : d ≠ []:=fun e => hn (Or.inl e)
   have hp : 1 ≤ d.length:=by
    rcases d with _ | ⟨x,d⟩
    ·exact absurd rfl hne
    ·simp
   refine ⟨m,rfl,h1.symm,hne,?_,fun e => ⟨?_,?_⟩⟩
   ·rcases Nat.lt_or_ge 18 d.length with h | h
    ·exact absurd (Or.inr (Or.inl h)) hn
    ·exact h
   ·rcases Nat.lt_or_ge 1 d.length with h | h
    ·exact absurd (Or.inr (Or.inr ⟨e,Or.inl h⟩)) hn
    ·omega
   ·exact fun h => hn (Or.inr (Or.inr ⟨e,Or.inr h⟩))
theorem specD_of {m : Nat} {s : Int} (hl : (Lib.decDigits m).length ≤ 18) (h0 : m = 0 → ¬ s < 0) : specD (Lib.decDigits m) s = (s * m,true):=by
 have hh:=(dec_head (m + 1) m (Nat.lt_succ_self _)).2
 rw [specD,if_neg,digs_dec (m + 1) m (Nat.lt_succ_self _)]
 rintro (h | h | ⟨h,h' | h'⟩)
 ·exact dec_ne m h
 ·omega
 ·rw [hh h,dec_zero] at h'
  exact absurd h' (by decide)
 ·exact h0 (hh h) h'
theorem parse_ok {d : List UInt8} {m : Nat} (hne : d ≠ []) (hl : d.length ≤ 18) (h : digs 0 d = some m) : Lib.parseMag d = .ok m ∧ m < 1000000000000000000:=by
 refine ⟨?_,?_⟩
 ·rw [Lib.parseMag,if_neg hne,parse_digs d 0 0 m (by decide) (by omega) h]
 ·have h1:=digs_lt d 0 m 0 (by decide) h
  have h18 : 10 ^ (0 + d.length) ≤ 10 ^ 18:=Nat.pow_le_pow_right (by decide) (by omega)
  have h18' : (10 : Nat) ^ 18 = 1000000000000000000:=by decide
  omega
theorem trim_minus (d : List UInt8) : Lib.trimPrefix (45 :: d) [45] = d:=by
 simp [Lib.trimPrefix,Lib.hasPrefix]
theorem trim_other (l : List UInt8) (h : l.head? ≠ some 45) : Lib.trimPrefix l [45] = l:=by
 cases l with
 | nil => rfl
 | cons c r =>
  have hc : (45 : UInt8) ≠ c:=fun e => h (by rw [e];rfl)
  simp [Lib.trimPrefix,Lib.hasPrefix,List.isPrefixOf,hc]
theorem spec_to_impl {l : List UInt8} {v : Int} (h : specN l = (v,true)) : Lib.atoiAll l = .ok v ∧ (Lib.trimPrefix l [45]).length ≤ 18 ∧ Lib.itoa v = l:=by
 by_cases hm : l.head? = some 45
 ·obtain ⟨d,rfl⟩ : ∃ d,l = 45 :: d:=by
   cases l with
   | nil => cases hm
   | cons c r => exact ⟨r,by rw [Option.some.inj hm]⟩
  rw [specN_minus] at h
  obtain ⟨m,h1,h2,h3,h4,h5⟩:=specD_true h
  have hc:=dec_canon _ d m (Nat.lt_succ_self _) h3 (fun e => (h5 e).1) h1
  obtain ⟨hp,hb⟩:=parse_ok h3 h4 h1
  have hm0 : 1 ≤ m:=by
   rcases Nat.eq_zero_or_pos m with e | e
   ·subst e
    rw [dec_zero] at hc
    exact absurd (h5 (by rw [← hc];rfl)).2 (by simp)
   ·exact e
  have hv : v = -(m : Int):=by rw [h2];omega
  refine ⟨?_,by rw [trim_minus];exact h4,?_⟩
  ·rw [Lib.atoiAll_minus,hp,Lib.signed,if_neg (by omega),hv]
  ·rw [hv,Lib.itoa,if_pos (by omega),show (-(m : Int)).natAbs = m by omega,hc]
 ·rw [specN_other l hm] at h
  obtain ⟨m,h1,h2,h3,h4,h5⟩:=specD_true h
  have hc:=dec_canon _ l m (Nat.lt_succ_self _) h3 (fun e => (h5 e).1) h1
  obtain ⟨hp,hb⟩:=parse_ok h3 h4 h1
  have hv : v = (m : Int):=by rw [h2];omega
  refine ⟨?_,by rw [trim_other l hm];exact h4,?_⟩
  ·cases l with
   | nil => exact absurd rfl h3
   | cons c r =>
    have h43 : c.toNat ≠ 43:=by
     intro e
     rw [digs,if_neg (by omega)] at h1
     cases h1
    have h45 : c.toNat ≠ 45:=by
     intro e
     rw [digs,if_neg (by omega)] at h1
     cases h1
    rw [Lib.atoiAll_plain c r h43 h45,hp,Lib.signless,if_neg (by omega),hv]
  ·rw [hv,Lib.itoa,if_neg (by omega),Int.toNat_natCast,hc]
theorem impl_to_spec {l : List UInt8} {v : Int} (hl : (Lib.trimPrefix l [45]).length ≤ 18) (hi : Lib.itoa v = l) : specN l = (v,true):=by
 by_cases hv : v < 0
 ·obtain ⟨m,rfl⟩ : ∃ m : Nat,v = -(m : Int):=⟨v.natAbs,by omega⟩
  rw [Lib.itoa,if_pos hv,show (-(m : Int)).natAbs = m by omega] at hi
  subst hi
  rw [trim_minus] at hl
  rw [specN_minus,specD_of hl (by omega)]
  congr 1
  omega
 ·obtain ⟨m,rfl⟩ : ∃ m : Nat,v = (m : Int):=⟨v.toNat,by omega⟩
  rw [Lib.itoa,if_neg hv,Int.toNat_natCast] at hi
  subst hi
  obtain ⟨c,h1,h2,h3⟩:=(dec_head (m + 1) m (Nat.lt_succ_self _)).1
  have hne : (Lib.decDigits m).head? ≠ some 45:=by
   rw [h1]
   intro e
   have e2 : c = 45:=Option.some.inj e
   subst e2
   exact absurd h2 (by decide)
  rw [trim_other _ hne] at hl
  rw [specN_other _ hne,specD_of hl (by omega)]
  congr 1
  omega
theorem number_both (t : ByteArray) (ht : t.size ≤ 65536) : ∃ (vs vi : Int) (ok : Bool),(ok = true → vs = vi) ∧ impl_number.f t = some (vi,ok) ∧ ∀ k,24 ≤ k → spec_l00Number.f k t = some (vs,ok):=by
 obtain ⟨l,hl⟩ : ∃ l,t.data.toList = l:=⟨_,rfl⟩
 have hs : ∀ k,24 ≤ k → spec_l00Number.f k t = some (specN l):=fun k hk => by rw [num_spec t k hk,hl]
 rw [impl_number.f,if_pos (by omega),hl]
 rcases hN : specN l with ⟨v,ok⟩
 cases ok with
 | true =>
  obtain ⟨h1,h2,h3⟩:=spec_to_impl hN
  refine ⟨v,v,true,fun _ => rfl,?_,fun k hk => by rw [hs k hk,hN]⟩
  rw [h1]
  show some (v,numOk t v) = _
  rw [numOk,hl,decide_eq_true h2,h3,Bool.true_and,beq_self_eq_true]
 | false =>
  cases hA : Lib.atoiAll l with
  | ok u =>
   refine ⟨v,u,false,fun h => (by cases h),?_,fun k hk => by rw [hs k hk,hN]⟩
   show some (u,numOk t u) = _
   have hf : numOk t u = false:=by
    cases hq : numOk t u with
    | false => rfl
    | true =>
     rw [numOk,hl,Bool.and_eq_true,decide_eq_true_eq,beq_iff_eq] at hq
     have:=impl_to_spec hq.1 hq.2
     rw [hN] at this
     cases this
   rw [hf]
  | range => exact ⟨v,Lib.atoiSat l,false,fun h => (by cases h),rfl,fun k hk => by rw [hs k hk,hN]⟩
  | _ => exact ⟨v,0,false,fun h => (by cases h),rfl,fun k hk => by rw [hs k hk,hN]⟩
theorem digs_clean : ∀ (l : List UInt8) (n m : Nat),digs n l = some m → ∀ c ∈ l,48 ≤ c.toNat
 | [],_,_,_,c,hc => by cases hc
 | b :: l,n,m,h,c,hc => by
  rw [digs] at h
  split at h
  ·rename_i hb
   rcases List.mem_cons.1 hc with rfl | h2
   ·exact hb.1
   ·exact digs_clean l _ m h c h2
  ·cases h
theorem specN_clean {l : List UInt8} {v : Int} (h : specN l = (v,true)) (c : UInt8) (hc : c ∈ l) : c = 45 ∨ 48 ≤ c.toNat:=by
 by_cases hm : l.head? = some 45
 ·obtain ⟨d,rfl⟩ : ∃ d,l = 45 :: d:=by
   cases l with
   | nil => cases hm
   | cons c r => exact ⟨r,by rw [Option.some.inj hm]⟩
  rw [specN_minus] at h
  obtain ⟨m,h1,_⟩:=specD_true h
  rcases List.mem_cons.1 hc with rfl | h2
  ·exact Or.inl rfl
  ·exact Or.inr (digs_clean d 0 m h1 c h2)
 ·rw [specN_other l hm] at h
  obtain ⟨m,h1,_⟩:=specD_true h
  exact Or.inr (digs_clean l 0 m h1 c hc)
theorem num_slash {t : ByteArray} {v : Int} (h : spec_l00Number.f 24 t = some (v,true)) : (47 : UInt8) ∉ t.data.toList:=by
 intro hc
 rw [num_spec t 24 (Nat.le_refl _)] at h
 rcases specN_clean (Option.some.inj h) 47 hc with h | h
 ·exact absurd h (by decide)
 ·exact absurd h (by decide)
end
section
-- NEEDS strings.Cut strings.Split
-- IMPORT Derived.Lib.SplitLaws
theorem cut_two (p : ByteArray) (c : UInt8) (h : Lib.countB p ⟨#[c]⟩ = 1) : ∃ a b,splitOn1 p ⟨#[c]⟩ = [a,b] ∧ cutAt p ⟨#[c]⟩ = (a,b,true):=by
 rcases Lib.indexB_cases p ⟨#[c]⟩ with hix | ⟨i,hix,hroom⟩
 ·rw [Lib.countB_miss p _ hix] at h
  omega
 ·refine ⟨p.extract 0 i,p.extract (i + (⟨#[c]⟩ : ByteArray).size) p.size,?_,?_⟩
  ·rw [splitOn1,h,Lib.splitB_hit _ 0 0 p i hix,Lib.splitB_zero,Nat.add_zero]
  ·rw [cutAt,if_pos (by omega),hix,Int.toNat_natCast]
theorem cutAt_le (p sep : ByteArray) : (cutAt p sep).1.size ≤ p.size ∧ (cutAt p sep).2.1.size ≤ p.size:=by
 unfold cutAt
 split
 ·refine ⟨?_,?_⟩ <;> rw [ByteArray.size_extract] <;> omega
 ·exact ⟨Nat.le_refl _,by simp⟩
theorem rdOf_at (l : List ByteArray) (i : Nat) (h : i < l.length) : rdOf ByteArray.empty l (i : Int) = l[i]:=by
 rw [rdOf,Int.toNat_natCast,List.getD_eq_getElem?_getD,List.getElem?_eq_getElem h]
 rfl
end
section
-- NEEDS spec.l05Read impl.readNet spec.l01ReadAddress impl.readAddress impl.numberIn spec.l00Number impl.number strings.Cut strings.Split spec.l00Cut spec.NetOK impl.NetOK
theorem numberIn_eq {t : ByteArray} {v : Int} {ok : Bool} (h : impl_number.f t = some (v,ok)) (lo hi : Int) : impl_numberIn.f t lo hi = some (v,ok && decide (lo ≤ v ∧ v ≤ hi)):=by
 rw [impl_numberIn.f,h,Option.bind_some]
 cases ok with
 | true => rw [if_pos rfl,within_eq,Option.bind_some,Bool.true_and]
 | false => rw [if_neg Bool.false_ne_true,Bool.false_and]
theorem addr_run (P : List ByteArray) (hP : ∀ p ∈ P,p.size ≤ 65536) (hl : P.length = 4) : ∀ (d i : Nat) (n : Int),i + d = 4 → ∃ r : Int × Bool,∀ k,30 + d ≤ k → spec_l01ReadAddress.l0 k P n (i : Int) = some r ∧ impl_readAddress.l0 k n P 4 (i : Int) = some r:=by
 intro d
 induction d with
 | zero =>
  intro i n hi
  refine ⟨(n,true),fun k hk => ?_⟩
  obtain ⟨k,rfl⟩ : ∃ q,k = q + 1:=⟨k - 1,by omega⟩
  rw [spec_l01ReadAddress.l0,impl_readAddress.l0,if_neg (by omega),if_neg (by omega)]
  exact ⟨rfl,rfl⟩
 | succ d ih =>
  intro i n hi
  have hlt : i < P.length:=by omega
  obtain ⟨vs,vi,ok,hv,h1,h2⟩:=number_both P[i] (hP _ (List.getElem_mem hlt))
  have hw : wrap64 ((i : Int) + 1) = ((i + 1 : Nat) : Int):=by rw [wrap_id (by omega) (by omega)];omega
  have hin:=numberIn_eq h1 0 255
  cases ok with
  | false =>
   refine ⟨(0,false),fun k hk => ?_⟩
   obtain ⟨k,rfl⟩ : ∃ q,k = q + 1:=⟨k - 1,by omega⟩
   rw [spec_l01ReadAddress.l0,impl_readAddress.l0,if_pos (by omega),if_pos (by omega),if_pos (by omega),if_pos (by omega),if_pos (by omega),if_pos (by omega),rdOf_at P i hlt,h2 k (by omega),hin]
   exact ⟨rfl,rfl⟩
  | true =>
   obtain rfl:=hv rfl
   by_cases hb : 0 ≤ vs ∧ vs ≤ 255
   ·obtain ⟨r,hr⟩:=ih (i + 1) (wrap64 ((wrap64 (n * 256)) + vs)) (by omega)
    refine ⟨r,fun k hk => ?_⟩
    obtain ⟨k,rfl⟩ : ∃ q,k = q + 1:=⟨k - 1,by omega⟩
    rw [spec_l01ReadAddress.l0,impl_readAddress.l0,if_pos (by omega),if_pos (by omega),if_pos (by omega),if_pos (by omega),if_pos (by omega),if_pos (by omega),rdOf_at P i hlt,h2 k (by omega),hin]
    rw [Option.bind_some,Option.bind_some,if_pos rfl,l01In_eq,Option.bind_some,decide_eq_true hb,if_pos rfl,Bool.true_and,if_pos rfl,hw]
    exact hr k (by omega)
   ·refine ⟨(0,false),fun k hk => ?_⟩
    obtain ⟨k,rfl⟩ : ∃ q,k = q + 1:=⟨k - 1,by omega⟩
    rw [spec_l01ReadAddress.l0,impl_readAddress.l0,if_pos (by omega),if_pos (by omega),if_pos (by omega),if_pos (by omega),if_pos (by omega),if_pos (by omega),rdOf_at P i hlt,h2 k (by omega),hin]
    rw [Option.bind_some,Option.bind_some,if_pos rfl,l01In_eq,Option.bind_some,decide_eq_false hb,if_neg Bool.false_ne_true,Bool.true_and,if_neg Bool.false_ne_true]
    exact ⟨rfl,rfl⟩
theorem readAddress_both (t : ByteArray) (ht : t.size ≤ 65536) : ∃ r : Int × Bool,∀ k,70000 ≤ k → spec_l01ReadAddress.f k t = some r ∧ impl_readAddress.f k t = some r:=by
 have hfs : strings_Split.f t (⟨#[46]⟩ : ByteArray) = some (splitOn1 t ⟨#[46]⟩):=if_pos ⟨rfl,by omega⟩
 have hcut : ∀ k,70000 ≤ k → spec_l00Cut.f k t 46 = some (splitOn1 t ⟨#[46]⟩):=fun k hk => l00Cut_f t 46 (by omega) k (by omega)
 have hP : ∀ p ∈ splitOn1 t ⟨#[46]⟩,p.size ≤ 65536:=fun p hp => Nat.le_trans (splitOn1_le t 46 p hp) ht
 obtain ⟨P,hPe⟩ : ∃ P,splitOn1 t ⟨#[46]⟩ = P:=⟨_,rfl⟩
 rw [hPe] at hfs hcut hP
 by_cases h4 : (P.length : Int) = 4
 ·obtain ⟨r,hr⟩:=addr_run P hP (by omega) 4 0 0 (by omega)
  refine ⟨r,fun k hk => ?_⟩
  rw [spec_l01ReadAddress.f,impl_readAddress.f,hfs,hcut k hk,Option.bind_some,Option.bind_some,if_pos h4,if_pos h4,h4]
  exact hr k (by omega)
 ·refine ⟨(0,false),fun k hk => ?_⟩
  rw [spec_l01ReadAddress.f,impl_readAddress.f,hfs,hcut k hk,Option.bind_some,Option.bind_some,if_neg h4,if_neg h4]
  exact ⟨rfl,rfl⟩
theorem count_notin (c : UInt8) : ∀ l : List UInt8,c ∉ l → Lib.count l [c] = 0
 | [],_ => Lib.count_miss (by simp [Lib.index])
 | b :: l,h => by
  rw [Lib.count_cons_ne b c l (fun e => h (by rw [e];exact List.mem_cons_self))]
  exact count_notin c l (fun e => h (List.mem_cons_of_mem _ e))
theorem cut_many (p : ByteArray) (c : UInt8) (h : 2 ≤ Lib.countB p ⟨#[c]⟩) : c ∈ (cutAt p ⟨#[c]⟩).2.1.data.toList:=by
 rcases Lib.indexB_cases p ⟨#[c]⟩ with hix | ⟨i,hix,hroom⟩
 ·rw [Lib.countB_miss p _ hix] at h
  omega
 ·rw [Lib.countB_hit p ⟨#[c]⟩ i (Nat.le_refl _) hix] at h
  rw [cutAt,if_pos (by omega),hix,Int.toNat_natCast]
  refine Classical.byContradiction fun hn => ?_
  have h0 : Lib.countB (p.extract (i + (⟨#[c]⟩ : ByteArray).size) p.size) ⟨#[c]⟩ = 0:=count_notin c _ hn
  omega
theorem cut_none (p : ByteArray) (c : UInt8) (h : Lib.countB p ⟨#[c]⟩ = 0) : (cutAt p ⟨#[c]⟩).2.2 = false:=by
 rcases Lib.indexB_cases p ⟨#[c]⟩ with hix | ⟨i,hix,hroom⟩
 ·rw [cutAt,if_neg (by omega)]
 ·rw [Lib.countB_hit p ⟨#[c]⟩ i (Nat.le_refl _) hix] at h
  omega
theorem readNet_impl {t : ByteArray} (ht : t.size ≤ 65536) {k : Nat} {x : Int × Bool} {v : Int} {ok : Bool} (h1 : impl_readAddress.f k (cutAt t ⟨#[47]⟩).1 = some x) (h2 : impl_number.f (cutAt t ⟨#[47]⟩).2.1 = some (v,ok)) :
  impl_readNet.f k t = some (x.1,v,(cutAt t ⟨#[47]⟩).2.2 && (x.2 && (ok && (decide (0 ≤ v ∧ v ≤ 32) && netb x.1 v)))):=by
 have hcf : strings_Cut.f t (⟨#[47]⟩ : ByteArray) = some (cutAt t ⟨#[47]⟩):=if_pos ⟨rfl,by omega⟩
 rw [impl_readNet.f,hcf,Option.bind_some,h1,Option.bind_some,numberIn_eq h2 0 32,Option.bind_some,impl_NetOK_eq,Option.bind_some]
 cases (cutAt t ⟨#[47]⟩).2.2 <;> cases x.2 <;> cases ok <;> cases decide (0 ≤ v ∧ v ≤ 32) <;> rfl
theorem readNet_both (t : ByteArray) (ht : t.size ≤ 65536) : ∃ rs ri : Int × Int × Bool,rs.2.2 = ri.2.2 ∧ (rs.2.2 = true → rs = ri) ∧ ∀ k,70000 ≤ k → spec_l05Read.f k t = some rs ∧ impl_readNet.f k t = some ri:=by
 have hcut : ∀ k,70000 ≤ k → spec_l00Cut.f k t 47 = some (splitOn1 t ⟨#[47]⟩):=fun k hk => l00Cut_f t 47 (by omega) k (by omega)
 have hle:=cutAt_le t ⟨#[47]⟩
 have hln:=splitOn1_length t 47
 obtain ⟨x,hx⟩:=readAddress_both (cutAt t ⟨#[47]⟩).1 (by omega)
 obtain ⟨vs,vi,ok,hv,n1,n2⟩:=number_both (cutAt t ⟨#[47]⟩).2.1 (by omega)
 have hI : ∀ k,70000 ≤ k → impl_readNet.f k t = some (x.1,vi,(cutAt t ⟨#[47]⟩).2.2 && (x.2 && (ok && (decide (0 ≤ vi ∧ vi ≤ 32) && netb x.1 vi)))):=fun k hk => readNet_impl ht (hx k hk).2 n1
 by_cases h1 : Lib.countB t ⟨#[47]⟩ = 1
 ·obtain ⟨a,b,e1,e2⟩:=cut_two t 47 h1
  rw [e2] at hx n1 n2 hI
  dsimp only at hx n1 n2 hI
  rw [e1] at hcut
  have hS : ∀ k,70000 ≤ k → spec_l05Read.f k t = some (x.1,vs,x.2 && (ok && netb x.1 vs)):=fun k hk => by
   rw [spec_l05Read.f,hcut k hk,Option.bind_some,if_pos (by rfl),if_pos (by simp),show rdOf ByteArray.empty [a,b] 0 = a from rfl,(hx k hk).1,Option.bind_some,if_pos (by simp),show rdOf ByteArray.empty [a,b] 1 = b from rfl,n2 k (by omega),Option.bind_some,spec_NetOK_eq,Option.bind_some]
   cases x.2 <;> cases ok <;> rfl
  cases ok with
  | false => exact ⟨_,_,by simp,by simp,fun k hk => ⟨hS k hk,hI k hk⟩⟩
  | true =>
   obtain rfl:=hv rfl
   by_cases hb : 0 ≤ vs ∧ vs ≤ 32
   ·refine ⟨_,_,?_,?_,fun k hk => ⟨hS k hk,hI k hk⟩⟩
    ·simp [hb]
    ·simp [hb]
   ·have hn : netb x.1 vs = false:=by
     cases hq : netb x.1 vs with
     | false => rfl
     | true => exact absurd (netb_bits hq) hb
    refine ⟨_,_,?_,?_,fun k hk => ⟨hS k hk,hI k hk⟩⟩
    ·simp [hn]
    ·simp [hn]
 ·have hS : ∀ k,70000 ≤ k → spec_l05Read.f k t = some (0,0,false):=fun k hk => by
   rw [spec_l05Read.f,hcut k hk,Option.bind_some,if_neg (by omega)]
  have hF : ((cutAt t ⟨#[47]⟩).2.2 && (x.2 && (ok && (decide (0 ≤ vi ∧ vi ≤ 32) && netb x.1 vi)))) = false:=by
   rcases Nat.eq_zero_or_pos (Lib.countB t ⟨#[47]⟩) with h0 | h0
   ·rw [cut_none t 47 h0,Bool.false_and]
   ·have hm:=cut_many t 47 (by omega)
    have hk : ok = false:=by
     cases ok with
     | false => rfl
     | true => exact absurd hm (num_slash (n2 24 (Nat.le_refl _)))
    rw [hk,Bool.false_and,Bool.and_false,Bool.and_false]
  rw [hF] at hI
  exact ⟨(0,0,false),(x.1,vi,false),rfl,fun h => (by cases h),fun k hk => ⟨hS k hk,hI k hk⟩⟩
end
section
/-! ### strings_Join: function 19 -/
-- IMPORT Derived.Shelf.Strings.OnBuilder
-- IMPORT Derived.Lib.Join
def joinRen : Go.Shelf.Ren:=⟨fun x => match x with | 156 => 19 | 165 => 35 | 166 => 36 | 169 => 37 | 240 => 56 | 241 => 57 | 276 => 67 | 277 => 68 | n => n,fun x => match x with | 31 => 43 | 9 => 9 | 3 => 3 | 4 => 4 | 0 => 0 | 20 => 20 | 72 => 66 | 76 => 70 | 70 => 64 | 37 => 62 | 75 => 69 | 127 => 82 | 164 => 88 | 5 => 5 | 80 => 72 | n => n,fun n => n⟩
set_option maxRecDepth 100000 in
theorem joinLays : Go.Proofs.Lays.n156 Tryd.prog joinRen:={ mixed:=by kernel_rfl,f156:=Tryd.func19.trans (congrArg some (by kernel_rfl)),f165:=Tryd.func35.trans (congrArg some (by kernel_rfl)),f166:=Tryd.func36.trans (congrArg some (by kernel_rfl)),f169:=Tryd.func37.trans (congrArg some (by kernel_rfl)),f240:=Tryd.func56.trans (congrArg some (by kernel_rfl)),f241:=Tryd.func57.trans (congrArg some (by kernel_rfl)),f276:=Tryd.func67.trans (congrArg some (by kernel_rfl)),f277:=Tryd.func68.trans (congrArg some (by kernel_rfl)),t0:=Tryd.underlying0,a0:=Tryd.isAgg0,z0:=Tryd.sizeOf0,v0:=Tryd.zeroValue0,t3:=Tryd.underlying3,a3:=Tryd.isAgg3,z3:=Tryd.sizeOf3,v3:=Tryd.zeroValue3,t4:=Tryd.underlying4,a4:=Tryd.isAgg4,z4:=Tryd.sizeOf4,v4:=Tryd.zeroValue4,t9:=Tryd.underlying9,a9:=Tryd.isAgg9,z9:=Tryd.sizeOf9,v9:=Tryd.zeroValue9,t20:=Tryd.underlying20,a20:=Tryd.isAgg20,z20:=Tryd.sizeOf20,v20:=Tryd.zeroValue20,t31:=Tryd.underlying43,a31:=Tryd.isAgg43,z31:=Tryd.sizeOf43,v31:=Tryd.zeroValue43,t37:=Tryd.underlying62,a37:=Tryd.isAgg62,z37:=Tryd.sizeOf62,v37:=Tryd.zeroValue62,t70:=Tryd.underlying64,a70:=Tryd.isAgg64,z70:=Tryd.sizeOf64,v70:=Tryd.zeroValue64,t72:=Tryd.underlying66,a72:=Tryd.isAgg66,z72:=Tryd.sizeOf66,v72:=Tryd.zeroValue66,t75:=Tryd.underlying69,a75:=Tryd.isAgg69,z75:=Tryd.sizeOf69,v75:=Tryd.zeroValue69,t76:=Tryd.underlying70,a76:=Tryd.isAgg70,z76:=Tryd.sizeOf70,v76:=Tryd.zeroValue70,t127:=Tryd.underlying82,a127:=Tryd.isAgg82,z127:=Tryd.sizeOf82,v127:=Tryd.zeroValue82,t164:=Tryd.underlying88,a164:=Tryd.isAgg88,z164:=Tryd.sizeOf88,v164:=Tryd.zeroValue88 }
theorem joinExtra : Go.Proofs.Builder.Extra Tryd.prog joinRen:={ sizeBuilder:=by kernel_rfl,liesBuilder:=by kernel_rfl,t5:=Tryd.underlying5,a5:=Tryd.isAgg5,z5:=Tryd.sizeOf5,v5:=Tryd.zeroValue5,infoByte:=by kernel_rfl,cellsByte:=by kernel_rfl,sizeByte:=by kernel_rfl,neB5:=by decide }
def joinB (l : List ByteArray) (sep : ByteArray) : List UInt8:=Lib.join (l.map (·.data.toList)) sep.data.toList
def strings_Join.f (l0 : List ByteArray) (a1 : ByteArray) : Option ByteArray:=if (joinB l0 a1).length ≤ 140737488355328 ∧ l0.length ≤ 140737488355328 then some ⟨(joinB l0 a1).toArray⟩ else none
theorem strings_Join.calls (A0 : Option Addr) (c0 : Nat) (l0 : List ByteArray) (a1 : ByteArray) (r : ByteArray) (w : World) (hr0 : Kd.C Kd.string w A0 l0.length l0) (hc0 : l0.length ≤ c0) (h : strings_Join.f l0 a1 = some r) :
  Calls Tryd.prog 19 #[.slice A0 l0.length c0,.string a1] w fun e w' => e = .returned (.string r) ∧ Below w.heap.size w w':=by
 by_cases hb : (joinB l0 a1).length ≤ 140737488355328 ∧ l0.length ≤ 140737488355328
 ·rw [strings_Join.f,if_pos hb] at h
  obtain rfl:=Option.some.inj h
  rcases Nat.eq_zero_or_pos l0.length with h0 | h0
  ·obtain rfl:=List.eq_nil_of_length_eq_zero h0
   refine (Any.strings_Join_none joinLays joinExtra A0 c0 a1 w).mono fun e w' hh => ?_
   obtain ⟨he,rfl⟩:=hh
   exact ⟨he,Below.refl _ _⟩
  ·obtain ⟨ad,rfl,hc⟩:=Kd.at_string hr0 0 (by omega) (by omega)
   have hspot : ad.spot = none:=by
    rw [show ((0 : Int)).toNat = 0 from rfl,Addr.add_zero'] at hc
    cases hs : ad.spot with
    | none => rfl
    | some q =>
     exfalso
     unfold World.cell? at hc
     rw [hs] at hc
     split at hc
     ·simp at hc
     ·cases hc
   have hlt : ad.block < w.heap.size:=Kd.C_lt hr0 h0 (by decide)
   obtain ⟨bk,o,sp⟩:=ad
   have hsp : sp = none:=hspot
   subst hsp
   refine (Any.strings_Join joinLays joinExtra bk o c0 l0 a1 w (fun j x hj => ?_) hlt hb.2 hc0 hb.1).mono fun e w' hh => hh
   have hjl : j < l0.length:=(List.getElem?_eq_some_iff.1 hj).1
   obtain ⟨ad2,he2,hc2⟩:=Kd.at_string hr0 (j : Int) (by omega) (by omega)
   obtain rfl:=Option.some.inj he2
   have ea : (⟨bk,o,none⟩ : Addr).add j = ⟨bk,o + j,none⟩:=by unfold Addr.add;split <;> simp_all
   rw [Int.toNat_natCast,ea] at hc2
   rw [hc2,rdOf,Int.toNat_natCast,List.getD_eq_getElem?_getD,hj]
   rfl
 ·rw [strings_Join.f,if_neg hb] at h
  cases h
end
section
/-! ### impl_addressText: function 38 -/
def impl_addressText.l0 : Nat → Int → List ByteArray → Int → Option (ByteArray)
 | 0,_,_,_ => none
 | k + 1,x0,x3,x4 => if x4 ≥ 0 then (if 0 ≤ x4 then ((strconv_Itoa_22.f (Go.bits .and .i64 (shr .i64 x0 x4) 255)).bind fun t199 => (if x3.length < 8796093022208 then (impl_addressText.l0 k x0 (x3 ++ [t199]) (wrap64 (x4 - 8))) else (none))) else (none)) else ((strings_Join.f x3 (⟨#[46]⟩ : ByteArray)).bind fun t203 => (some t203))
def impl_addressText.f (k : Nat) (a0 : Int) : Option (ByteArray):=impl_addressText.l0 k a0 (([] : List ByteArray)) 24
theorem impl_addressText.mono_l : ∀ k,(∀ y0 y1 y2,LeO (impl_addressText.l0 k y0 y1 y2) (impl_addressText.l0 (k + 1) y0 y1 y2))
 | 0 => fun _ _ _ r h => by simp [impl_addressText.l0] at h
 | k + 1 => by
  have ih0:=impl_addressText.mono_l k
  ·intro y0 y1 y2
   unfold impl_addressText.l0
   repeat' first
   | (with_reducible exact ih0 _ _ _)
   | (with_reducible exact LeO.refl _)
   | (with_reducible exact LeO.none _)
   | (with_reducible refine LeO.ite ?_ ?_)
   | (with_reducible refine LeO.bind ?_ (fun _ => ?_))
   | exact ih0 _ _ _
   | exact LeO.none _
   | refine LeO.ite ?_ ?_
   | refine LeO.bind ?_ (fun _ => ?_)
theorem impl_addressText.mono : ∀ a0 k,LeO (impl_addressText.f k a0) (impl_addressText.f (k + 1) a0):=by
 intro a0 k
 have ih0:=impl_addressText.mono_l k
 unfold impl_addressText.f
 repeat' first
   | (with_reducible exact ih0 _ _ _)
   | (with_reducible exact LeO.refl _)
   | (with_reducible exact LeO.none _)
   | (with_reducible refine LeO.ite ?_ ?_)
   | (with_reducible refine LeO.bind ?_ (fun _ => ?_))
   | exact ih0 _ _ _
   | exact LeO.none _
   | refine LeO.ite ?_ ?_
   | refine LeO.bind ?_ (fun _ => ?_)
set_option maxHeartbeats 8000000 in
set_option maxRecDepth 100000 in
theorem impl_addressText.calls (k : Nat) (a0 : Int) (r : ByteArray) (w : World) (hGp : GLp w) (h : impl_addressText.f k a0 = some r) :
  Calls Tryd.prog 38 #[.int .i64 a0] w fun e w' => e = .returned (.string r) ∧ Below w.heap.size w w':=by
 have HGp_:=aMk hGp
 clear hGp
 have HB:=aMk (Below.refl w.heap.size w)
 have H : (impl_addressText.l0 k a0 (([] : List ByteArray)) 24) = some r:=h
 clear h
 obtain ⟨y196,hy196⟩ : ∃ y_ : List ByteArray,y_ = (([] : List ByteArray)):=⟨_,rfl⟩
 replace H : (impl_addressText.l0 k a0 y196 24) = some r:=by first|(rw [hy196];with_reducible exact H)|(have H2_:=(Option.bind_some _ _).symm.trans H;rw [hy196];with_reducible exact H2_)|(have H2_:=(Option.bind_some _ _).symm.trans H;with_reducible exact H2_) | with_reducible exact H|(rw [hy196];exact H)|exact H
 have Ny196:=aMk hy196
 clear hy196
 have H':=aMk H
 clear H
 go_enter Tryd.func38,Tryd.ntmps38
 go_wp2_with (first|((with_reducible refine gate_dst (N:=5) rfl ?_);refine Kd.R_lit Kd.string _ 9 ?hg (N:=5) ?hd (xs:=([] : List ByteArray)) (inner:=[]) (ok:=fun _ => True) (okp:=fun _ => True) ?hr ?hp (fun _ hk => hk) trivial (Below.refl _ _) (Nat.le_refl _) (by simp) ?_;(case hd => rfl);(case hg => rfl);(case hr => first|(go_simp;done)|(go_simp;rfl));(case hp => exact (Reps.none _ _));intro v197 w2 ho3 hb hg_ hnew_;clear hg_ hnew_;(first|rw [← Ny196.out] at ho3|(simp only [Int.reduceToNat] at ho3;rw [← Ny196.out] at ho3));have n0_:=aMk (Kd.R_lower ho3 (below_size (by repeat first|exact HB.out|apply bwA|apply bwN|apply bw1)));have n1_:=aMk (below_step (by repeat first|exact HB.out|apply bwA|apply bwN|apply bw1) hb);clear HB;have HO198:=n0_;have HB:=n1_;clear n0_ n1_;clear hb ho3))
 go_loopg [3,4] k (fun kq v3 v4 w' => ∃ (x3_1 : List ByteArray) (x4_1 : Int),v4 = .int .i64 x4_1 ∧ Aside0 (impl_addressText.l0 kq a0 x3_1 x4_1 = some r) ∧ Aside0 (kq ≤ k) ∧ Aside0 (Kd.R Kd.string 9 w' w.heap.size (fun _ => True) v3 x3_1) ∧ Aside0 (Below w.heap.size w w'))
 case atStart => exact ⟨(y196),(24),(by first | rfl|(simp;done)|(simp [*];done)|(simp [ne_nil_b];done)|(simp [ne_nil_b, *];done)),H',⟨Nat.le_refl _⟩,⟨by (with_reducible repeat (first|apply Kd.R_alloc|apply Kd.R_drewN|apply Kd.R_drew));exact HO198.out⟩,⟨by repeat (first|(with_reducible first|exact HB.out|apply bwA|apply bwN|apply bw1)|exact HB.out)⟩⟩
 case round =>
  clear H'
  try clear p2
  try clear c3
  obtain ⟨x3_1,x4_1,rfl,HA,HK1,HO_3,HB⟩:=hrel
  cases gk with
  | zero => exact absurd HA.out (by simp [impl_addressText.l0])
  | succ k1 =>
   have H:=HA.out
   clear HA
   simp only [impl_addressText.l0] at H
   by_cases c4 : x4_1 ≥ 0
   ·rw [if_pos c4] at H
    have c4b0 : decide (0 ≤ x4_1) = true:=decide_eq_true c4
    clear c4
    by_cases c5 : 0 ≤ x4_1
    ·rw [if_pos c5] at H
     have c5b0:=eq_true c5
     have c5b1 : decide (0 ≤ x4_1) = true:=decide_eq_true c5
     clear c5
     obtain ⟨ji6,hji6⟩ : ∃ j_ : Int,(shr .i64 a0 x4_1) = j_:=⟨_,rfl⟩
     replace H : ((strconv_Itoa_22.f (Go.bits .and .i64 (ji6) 255)).bind fun t199 => (if x3_1.length < 8796093022208 then (impl_addressText.l0 k1 a0 (x3_1 ++ [t199]) (wrap64 (x4_1 - 8))) else (none))) = some r:=by first|(rw [hji6] at H;exact H)|(simp only [hji6] at H ⊢;exact H)
     have hji6_ : (a0 / 2 ^ min x4_1.toNat 64) = ji6:=hji6
     have hji6z : x4_1 ≤ 64 → (a0 / 2 ^ x4_1.toNat) = ji6:=shr_small hji6
     replace H:=Option.bind_eq_some_iff.mp H
     obtain ⟨t199,A70,H⟩:=H
     replace H : (if x3_1.length < 8796093022208 then (impl_addressText.l0 k1 a0 (x3_1 ++ [t199]) (wrap64 (x4_1 - 8))) else (none)) = some r:=H
     have A7:=aMk A70
     clear A70
     by_cases c8 : x3_1.length < 8796093022208
     ·rw [if_pos c8] at H
      have LMc8:=aMk c8
      clear c8
      obtain ⟨y200,hy200⟩ : ∃ y_ : List ByteArray,y_ = (x3_1 ++ [t199]):=⟨_,rfl⟩
      replace H : (impl_addressText.l0 k1 a0 y200 (wrap64 (x4_1 - 8))) = some r:=by first|(rw [hy200];with_reducible exact H)|(have H2_:=(Option.bind_some _ _).symm.trans H;rw [hy200];with_reducible exact H2_)|(have H2_:=(Option.bind_some _ _).symm.trans H;with_reducible exact H2_) | with_reducible exact H|(rw [hy200];exact H)|exact H
      have Ny200:=aMk hy200
      clear hy200
      have H':=aMk H
      clear H
      go_wp2_with (first|((with_reducible refine gate_callee (f:=22) rfl ?_);refine goesL_ (some 15) rfl rfl Tryd.func22 (by kernel_rfl) rfl #[.int .i64 (Go.bits .and .i64 (ji6) 255)] rfl (by (try simp only [List.map_toArray,List.map_cons,List.map_nil]);first | done|(simp only [hji6];rfl) | rfl|(simp only [List.length_drop,List.length_take];rfl)) ?_;(with_reducible refine (strconv_Itoa_22.calls (Go.bits .and .i64 (ji6) 255) t199 _ ?sideGp A7.out).mono ?_);(case sideGp => exact GLp_below HGp_.out (by repeat (first|(with_reducible first|exact HB.out|apply bwA|apply bwN|apply bw1|refine below_set ?_ (Aside0.out (by assumption)))|exact HB.out)));rintro e w9 ⟨rfl,hb⟩;refine ⟨_,rfl,?_⟩;have n0_:=aMk (Kd.R_below (by (with_reducible repeat (first|apply Kd.R_alloc|apply Kd.R_drewN|apply Kd.R_drew));exact HO_3.out) hb);have n1_:=aMk (below_step (by repeat first|exact HB.out|apply bwA|apply bwN|apply bw1) hb);clear HO_3;clear HB;have HO_3:=n0_;have HB:=n1_;clear n0_ n1_;(try clear hb);(try clear hb2);(try clear hk);(try clear hi))|((with_reducible refine gate_builtin (b:=.append) (xs:=#[.tmp 10,.tmp 16]) rfl ?_);at_builtin;refine Kd.R_append Kd.string (w0:=w) w.heap.size rfl (.tmp 10) (.tmp 16) 43 9 (.string ⟨#[]⟩) 16 rfl Tryd.underlying43 info9 rfl (by decide) (by omega) u3 x3_1 t199 [.string t199] (fun _ => True) (fun _ => False) rfl rfl ?aP (fun _ hk => hk.elim) ?aF ?aO ?aB ?aS ?aL ?_;(case aP => exact rfl);(case aB => exact (by repeat first|exact HB.out|apply bwA|apply bwN|apply bw1));(case aF => exact (fun _ _ => trivial));(case aO => exact (by (with_reducible repeat (first|apply Kd.R_alloc|apply Kd.R_drewN|apply Kd.R_drew));exact HO_3.out));(case aS => exact (below_size (by repeat first|exact HB.out|apply bwA|apply bwN|apply bw1)));(case aL => have:=LMc8.out;omega);intro v201 w10 ho hb hg hat;rw [← Ny200.out] at ho;have n0_:=aMk (hb);have n1_:=aMk (ho);clear HB;clear HO_3;have HB:=n0_;have HO202:=n1_;clear n0_ n1_;clear ho hb hg hat))
      go_roundg k1
      case measure => have:=HK1.out;omega
      case rel => exact ⟨(y200),(wrap64 (x4_1 - 8)),(by first | rfl|(simp;done)|(simp [*];done)|(simp [ne_nil_b];done)|(simp [ne_nil_b, *];done)),H',⟨by have:=HK1.out;omega⟩,⟨by (with_reducible repeat (first|apply Kd.R_alloc|apply Kd.R_drewN|apply Kd.R_drew));exact HO202.out⟩,⟨by repeat (first|(with_reducible first|exact HB.out|apply bwA|apply bwN|apply bw1)|exact HB.out)⟩⟩
     ·rw [if_neg c8] at H
      exact absurd H (by simp)
    ·rw [if_neg c5] at H
     exact absurd H (by simp)
   ·rw [if_neg c4] at H
    have c4b0 : decide (0 ≤ x4_1) = false:=decide_eq_false c4
    clear c4
    replace H:=Option.bind_eq_some_iff.mp H
    obtain ⟨t203,A110,H⟩:=H
    replace H : (some t203) = some r:=H
    have A11:=aMk A110
    clear A110
    obtain rfl:=Option.some.inj H
    obtain ⟨Ao12,co12,eo12⟩:=Kd.R_slice HO_3.out
    subst eo12
    go_wp2_with (first|((with_reducible refine gate_callee (f:=19) rfl ?_);refine goesL_ (some 19) rfl rfl Tryd.func19 (by kernel_rfl) rfl #[.slice Ao12 x3_1.length co12,.string (⟨#[46]⟩ : ByteArray)] rfl (by (try simp only [List.map_toArray,List.map_cons,List.map_nil]);first | done | rfl|(simp only [List.length_drop,List.length_take];rfl)) ?_;(with_reducible refine (strings_Join.calls _ _ x3_1 (⟨#[46]⟩ : ByteArray) t203 _ ?side1 ?side2 A11.out).mono ?_);(case side1 => repeat (first|exact (Kd.R_reads' HO_3.out).2.2|(with_reducible refine Kd.C_alloc ?_ _)|(with_reducible refine Kd.C_drewN ?_ _)|(with_reducible refine Kd.C_drew ?_)));(case side2 => exact (Kd.R_reads' HO_3.out).2.1);rintro e w13 ⟨rfl,hb⟩;refine ⟨_,rfl,?_⟩;have n0_:=aMk (Kd.R_below (by (with_reducible repeat (first|apply Kd.R_alloc|apply Kd.R_drewN|apply Kd.R_drew));exact HO_3.out) hb);have n1_:=aMk (below_step (by repeat first|exact HB.out|apply bwA|apply bwN|apply bw1) hb);clear HO_3;clear HB;have HO_3:=n0_;have HB:=n1_;clear n0_ n1_;(try clear hb);(try clear hb2);(try clear hk);(try clear hi)))
    go_ret
    exact ⟨by first | rfl|(simp [errW_none,errW_some] <;> rfl)|(simp [*,errW_none,errW_some] <;> rfl),by repeat (first|(with_reducible first|exact HB.out|apply bwA|apply bwN|apply bw1)|exact HB.out)⟩
end
section
/-! ### impl_netText: function 21 -/
def impl_netText.f (k : Nat) (a0_0 : Int) (a0_1 : Int) : Option (ByteArray):=(impl_addressText.f k a0_0).bind fun t205 => (if t205.size + 1 ≤ 9223372036854775807 then ((strconv_Itoa_22.f a0_1).bind fun t206 => (if (t205 ++ (⟨#[47]⟩ : ByteArray)).size + t206.size ≤ 9223372036854775807 then (some ((t205 ++ (⟨#[47]⟩ : ByteArray)) ++ t206)) else (none))) else (none))
theorem impl_netText.mono : ∀ a0 a1 k,LeO (impl_netText.f k a0 a1) (impl_netText.f (k + 1) a0 a1):=by
 intro a0 a1 k
 unfold impl_netText.f
 repeat' first
   | (with_reducible exact impl_addressText.mono ..)
   | (with_reducible exact LeO.refl _)
   | (with_reducible exact LeO.none _)
   | (with_reducible refine LeO.ite ?_ ?_)
   | (with_reducible refine LeO.bind ?_ (fun _ => ?_))
   | exact impl_addressText.mono ..
   | exact LeO.none _
   | refine LeO.ite ?_ ?_
   | refine LeO.bind ?_ (fun _ => ?_)
def impl_netText.T1 : Bool × List (List Nat × List Nat):=(true,[([],[]),([0],[0]),([1],[1]),([2],[2]),([],[]),([4],[4]),([5,2],[5]),([3,6],[3,6]),([7,6,0,1,2,3,4,5,6,7],[7])])
def impl_netText.B1 : List Nat:=[0,1,3,7,0,16,55,127,255]
theorem impl_netText.tab1 : rtab .any (opsOf Tryd.f21 1) = impl_netText.T1:=by kernel_rfl
theorem impl_netText.bits1 : waitsOk impl_netText.T1.2 impl_netText.B1 = true:=by kernel_rfl
set_option maxHeartbeats 8000000 in
set_option maxRecDepth 100000 in
theorem impl_netText.calls (k : Nat) (a0_0 : Int) (a0_1 : Int) (r : ByteArray) (w : World) (hGp : GLp w) (h : impl_netText.f k a0_0 a0_1 = some r) :
  Calls Tryd.prog 21 #[.agg #[.int .i64 a0_0,.int .i64 a0_1]] w fun e w' => e = .returned (.string r) ∧ Below w.heap.size w w':=by
 have HGp_:=aMk hGp
 clear hGp
 have hu30:=Tryd.underlying30
 have HB:=aMk (Below.refl w.heap.size w)
 have H : ((impl_addressText.f k a0_0).bind fun t205 => (if t205.size + 1 ≤ 9223372036854775807 then ((strconv_Itoa_22.f a0_1).bind fun t206 => (if (t205 ++ (⟨#[47]⟩ : ByteArray)).size + t206.size ≤ 9223372036854775807 then (some ((t205 ++ (⟨#[47]⟩ : ByteArray)) ++ t206)) else (none))) else (none))) = some r:=h
 clear h
 replace H:=Option.bind_eq_some_iff.mp H
 obtain ⟨t205,A20,H⟩:=H
 replace H : (if t205.size + 1 ≤ 9223372036854775807 then ((strconv_Itoa_22.f a0_1).bind fun t206 => (if (t205 ++ (⟨#[47]⟩ : ByteArray)).size + t206.size ≤ 9223372036854775807 then (some ((t205 ++ (⟨#[47]⟩ : ByteArray)) ++ t206)) else (none))) else (none)) = some r:=H
 have A2:=aMk A20
 clear A20
 by_cases c3 : t205.size + 1 ≤ 9223372036854775807
 ·rw [if_pos c3] at H
  have c3b0:=eq_true c3
  have c3b1 : decide (t205.size + 1 ≤ 9223372036854775807) = true:=decide_eq_true c3
  try have c3b2 : (9223372036854775807 < t205.size + 1) = False:=eq_false (Nat.not_lt.2 c3)
  replace H:=Option.bind_eq_some_iff.mp H
  obtain ⟨t206,A40,H⟩:=H
  replace H : (if (t205 ++ (⟨#[47]⟩ : ByteArray)).size + t206.size ≤ 9223372036854775807 then (some ((t205 ++ (⟨#[47]⟩ : ByteArray)) ++ t206)) else (none)) = some r:=H
  have A4:=aMk A40
  clear A40
  by_cases c5 : (t205 ++ (⟨#[47]⟩ : ByteArray)).size + t206.size ≤ 9223372036854775807
  ·rw [if_pos c5] at H
   have c5b0:=eq_true c5
   have c5b1 : decide ((t205 ++ (⟨#[47]⟩ : ByteArray)).size + t206.size ≤ 9223372036854775807) = true:=decide_eq_true c5
   try have c5b2 : (9223372036854775807 < (t205 ++ (⟨#[47]⟩ : ByteArray)).size + t206.size) = False:=eq_false (Nat.not_lt.2 c5)
   try have c5b3 : (9223372036854775807 < t205.size + 1 + t206.size) = False:=by rw [← show (t205 ++ (⟨#[47]⟩ : ByteArray)).size = t205.size + 1 from by (simp only [ByteArray.size_append];rfl)];exact c5b2
   obtain rfl:=Option.some.inj H
   go_enter Tryd.func21,Tryd.ntmps21
   try go_wp2_with (first|((with_reducible refine gate_dst (N:=1) rfl ?_);refine box_event ?hg (N:=1) ?hd (cs:=#[.int .i64 a0_0,.int .i64 a0_1]) (t:=30) ?hr ?_;(case hd => rfl);(case hg => rfl);(case hr => first|(go_simp;done)|(go_simp;rfl));intro gb204 hg w6 hbox hb;have n0_:=aMk (below_step (by repeat first|exact HB.out|apply bwA|apply bwN|apply bw1) hb);have n1_:=aMk (hbox);have n2_:=aMk ((by rw [hg];exact (below_size (by repeat first|exact HB.out|apply bwA|apply bwN|apply bw1)) : w.heap.size ≤ gb204));have n3_:=aMk ((by rw [hg];exact (below_size (by repeat first|exact HB.out|apply bwA|apply bwN|apply bw1)) : w.heap.size ≤ gb204));clear HB;have HB:=n0_;have BK204:=n1_;have GW204:=n2_;have GE204:=n3_;clear n0_ n1_ n2_ n3_;clear hb hbox hg))
   have n0_:=aMk (bDr BK204.out)
   have n1_:=aMk (bw1 HB.out)
   clear BK204
   clear HB
   have BK204:=n0_
   have HB:=n1_
   clear n0_ n1_
   refine start_ (n:=9) (S:=fun w' => w'.cell? ⟨gb204,0,none⟩ = some (.int .i64 a0_0) ∧ w'.cell? ⟨gb204,1,none⟩ = some (.int .i64 a0_1)) (ds:=[]) #[false,false,false,false,false,false,false,false,false] (by kernel_rfl) rfl rfl ⟨(bCe BK204.out 0).trans rfl,(bCe BK204.out 1).trans rfl⟩ (fun hHeld => ?_);refine with_tabW impl_netText.tab1 impl_netText.bits1 (fun HT_ HW_ => ?_)
   generalize w6.drew = w7 at BK204 HB hHeld ⊢
   refine pure_ (i:=0) (N:=some 3) (v:=?_) (a':=?_) #[true,false,false,false,false,false,false,false,false] rfl rfl (any_of HT_.out (by kernel_rfl)) (fun _ _ _ h => h) (Or.inl ⟨by rfl,?_⟩) ?_ ?_
   rotate_left
   ·intro w'
    go_simp
    with_reducible rfl
   rotate_left
   ·simp only [Act.put,List.setIfInBounds_toArray,List.set_cons_zero,List.set_cons_succ,i64_w,i32_w]
    rfl
   refine pure_ (i:=4) (N:=some 7) (v:=?_) (a':=?_) #[true,false,false,false,true,false,false,false,false] rfl rfl (any_of HT_.out (by kernel_rfl)) (fun _ _ _ h => h) (Or.inl ⟨by rfl,?_⟩) ?_ ?_
   rotate_left
   ·intro w'
    go_simp
    with_reducible rfl
   rotate_left
   ·simp only [Act.put,List.setIfInBounds_toArray,List.set_cons_zero,List.set_cons_succ,i64_w,i32_w]
    rfl
   refine take_ (i:=1) (N:=some 4) (v:=?_) (a':=?_) #[true,true,false,false,true,false,false,false,false] rfl rfl (take_ofW HT_.out HW_.out (by kernel_rfl)) (fun _ _ _ h => h) (Or.inl ⟨by rfl,?_⟩) hHeld ?_ ?_
   rotate_left
   ·rintro w' ⟨s0,s1⟩
    go_simp
    with_reducible rfl
   rotate_left
   ·simp only [Act.put,List.setIfInBounds_toArray,List.set_cons_zero,List.set_cons_succ,i64_w,i32_w]
    rfl
   refine take_ (i:=5) (N:=some 8) (v:=?_) (a':=?_) #[true,true,false,false,true,true,false,false,false] rfl rfl (take_ofW HT_.out HW_.out (by kernel_rfl)) (fun _ _ _ h => h) (Or.inl ⟨by rfl,?_⟩) hHeld ?_ ?_
   rotate_left
   ·rintro w' ⟨s0,s1⟩
    go_simp
    with_reducible rfl
   rotate_left
   ·simp only [Act.put,List.setIfInBounds_toArray,List.set_cons_zero,List.set_cons_succ,i64_w,i32_w]
    rfl
   refine one_ (i:=2) (N:=some 5) #[true,true,true,false,true,true,false,false,false] rfl rfl (one_of HT_.out (by kernel_rfl)) (by decide) (fun K hK => ?_)
   refine goes_ Tryd.func38 (by kernel_rfl) rfl #[.int .i64 a0_0] (by rfl) rfl rfl (by (try simp only [List.map_toArray,List.map_cons,List.map_nil]);first | done | rfl|(simp only [List.length_drop,List.length_take];rfl)) ?_
   with_reducible refine (impl_addressText.calls k a0_0 t205 _ ?sideGp A2.out).mono ?_
   case sideGp => exact GLp_below HGp_.out (by repeat (first|(with_reducible first|exact HB.out|apply bwA|apply bwN|apply bw1|refine below_set ?_ (Aside0.out (by assumption)))|exact HB.out))
   rintro e w8 ⟨rfl,hb⟩
   refine ⟨_,rfl,?_⟩
   have n0_:=aMk (blk_below (g:=gb204) (o:=.cells #[.int .i64 a0_0,.int .i64 a0_1] 30 (0,0)) (by (with_reducible repeat (first|refine bDn ?_ _|refine bDr ?_|refine bAl ?_ _));exact BK204.out) hb)
   have n1_:=aMk (below_step (by repeat (first|(with_reducible first|exact HB.out|apply bwA|apply bwN|apply bw1|refine below_set ?_ GE204.out)|exact HB.out)) hb)
   clear BK204
   clear HB
   have BK204:=n0_
   have HB:=n1_
   clear n0_ n1_
   (try clear hb)
   (try clear hb2)
   (try clear hk)
   (try clear hi)
   refine hK.out _ _ ⟨(bCe BK204.out 0).trans rfl,(bCe BK204.out 1).trans rfl⟩ (fun hHeld => ?_)
   clear hK K
   refine norm_ (a':=?_) ?_ ?_
   rotate_left
   ·show Act.put _ (some 5) _ = _
    simp only [Act.put,List.setIfInBounds_toArray,List.set_cons_zero,List.set_cons_succ,i64_w,i32_w]
    rfl
   refine pure_ (i:=3) (N:=some 6) (v:=?_) (a':=?_) #[true,true,true,true,true,true,false,false,false] rfl rfl (any_of HT_.out (by kernel_rfl)) (fun _ _ _ h => h) (Or.inl ⟨by rfl,?_⟩) ?_ ?_
   rotate_left
   ·intro w'
    go_simp
    with_reducible rfl
   rotate_left
   ·simp only [Act.put,List.setIfInBounds_toArray,List.set_cons_zero,List.set_cons_succ,i64_w,i32_w]
    rfl
   refine one_ (i:=6) (N:=some 9) #[true,true,true,true,true,true,true,false,false] rfl rfl (one_of HT_.out (by kernel_rfl)) (by decide) (fun K hK => ?_)
   refine goes_ Tryd.func22 (by kernel_rfl) rfl #[.int .i64 a0_1] (by rfl) rfl rfl (by (try simp only [List.map_toArray,List.map_cons,List.map_nil]);first | done | rfl|(simp only [List.length_drop,List.length_take];rfl)) ?_
   with_reducible refine (strconv_Itoa_22.calls a0_1 t206 _ ?sideGp A4.out).mono ?_
   case sideGp => exact GLp_below HGp_.out (by repeat (first|(with_reducible first|exact HB.out|apply bwA|apply bwN|apply bw1|refine below_set ?_ (Aside0.out (by assumption)))|exact HB.out))
   rintro e w9 ⟨rfl,hb⟩
   refine ⟨_,rfl,?_⟩
   have n0_:=aMk (blk_below (g:=gb204) (o:=.cells #[.int .i64 a0_0,.int .i64 a0_1] 30 (0,0)) (by (with_reducible repeat (first|refine bDn ?_ _|refine bDr ?_|refine bAl ?_ _));exact BK204.out) hb)
   have n1_:=aMk (below_step (by repeat (first|(with_reducible first|exact HB.out|apply bwA|apply bwN|apply bw1|refine below_set ?_ GE204.out)|exact HB.out)) hb)
   clear BK204
   clear HB
   have BK204:=n0_
   have HB:=n1_
   clear n0_ n1_
   (try clear hb)
   (try clear hb2)
   (try clear hk)
   (try clear hi)
   refine hK.out _ _ ⟨(bCe BK204.out 0).trans rfl,(bCe BK204.out 1).trans rfl⟩ (fun hHeld => ?_)
   clear hK K
   refine norm_ (a':=?_) ?_ ?_
   rotate_left
   ·show Act.put _ (some 9) _ = _
    simp only [Act.put,List.setIfInBounds_toArray,List.set_cons_zero,List.set_cons_succ,i64_w,i32_w]
    rfl
   refine pure_ (i:=7) (N:=some 10) (v:=?_) (a':=?_) #[true,true,true,true,true,true,true,true,false] rfl rfl (any_of HT_.out (by kernel_rfl)) (fun _ _ _ h => h) (Or.inl ⟨by rfl,?_⟩) ?_ ?_
   rotate_left
   ·intro w'
    go_simp
    with_reducible rfl
   rotate_left
   ·simp only [Act.put,List.setIfInBounds_toArray,List.set_cons_zero,List.set_cons_succ,i64_w,i32_w]
    rfl
   refine pure_ (i:=8) (N:=some 2) (v:=?_) (a':=?_) #[true,true,true,true,true,true,true,true,true] rfl rfl (any_of HT_.out (by kernel_rfl)) (fun _ _ _ h => h) (Or.inl ⟨by rfl,?_⟩) ?_ ?_
   rotate_left
   ·intro w'
    go_simp
    with_reducible rfl
   rotate_left
   ·simp only [Act.put,List.setIfInBounds_toArray,List.set_cons_zero,List.set_cons_succ,i64_w,i32_w]
    rfl
   refine done_ (done_of HT_.out (by kernel_rfl)) ?_
   try go_wp2
   go_ret
   exact ⟨by first | rfl|(simp [errW_none,errW_some] <;> rfl)|(simp [*,errW_none,errW_some] <;> rfl),by repeat (first|(with_reducible first|exact HB.out|apply bwA|apply bwN|apply bw1|refine below_set ?_ GE204.out)|exact HB.out)⟩
  ·rw [if_neg c5] at H
   exact absurd H (by simp)
 ·rw [if_neg c3] at H
  exact absurd H (by simp)
end
section
/-! ### spec_l00Digits: function 15 -/
def spec_l00Digits.f : Nat → Int → Option (ByteArray)
 | 0,_ => none
 | k + 1,a0 => if a0 = (-9223372036854775808) then (some (⟨#[45,57,50,50,51,51,55,50,48,51,54,56,53,52,55,55,53,56,48,56]⟩ : ByteArray)) else (if a0 < 0 then ((spec_l00Digits.f k (wrap64 (-a0))).bind fun t123 => (if 1 + t123.size ≤ 9223372036854775807 then (some ((⟨#[45]⟩ : ByteArray) ++ t123)) else (none))) else (if a0 < 10 then (some (strOfNums (([(wrap64 (48 + a0)) % 256] : List Int)))) else ((spec_l00Digits.f k (wrap64 (Int.tdiv a0 10))).bind fun t127 => ((some (([(wrap64 (48 + (Int.tmod a0 10))) % 256] : List Int) : List Int)).bind fun y128 => (if t127.size + (strOfNums y128).size ≤ 9223372036854775807 then (some (t127 ++ (strOfNums y128))) else (none))))))
theorem spec_l00Digits.mono_l : ∀ k,(∀ y0,LeO (spec_l00Digits.f k y0) (spec_l00Digits.f (k + 1) y0))
 | 0 => fun _ r h => by simp [spec_l00Digits.f] at h
 | k + 1 => by
  have ih0:=spec_l00Digits.mono_l k
  ·intro y0
   unfold spec_l00Digits.f
   repeat' first
   | (with_reducible exact ih0 _)
   | (with_reducible exact LeO.refl _)
   | (with_reducible exact LeO.none _)
   | (with_reducible refine LeO.ite ?_ ?_)
   | (with_reducible refine LeO.bind ?_ (fun _ => ?_))
   | exact ih0 _
   | exact LeO.none _
   | refine LeO.ite ?_ ?_
   | refine LeO.bind ?_ (fun _ => ?_)
theorem spec_l00Digits.mono : ∀ a0 k,LeO (spec_l00Digits.f k a0) (spec_l00Digits.f (k + 1) a0):=by
 intro a0 k
 have ih0:=spec_l00Digits.mono_l k
 exact ih0 a0
def spec_l00Digits.T7 : Bool × List (List Nat × List Nat):=(true,[([],[]),([0],[0]),([1],[1]),([],[]),([3],[3]),([4],[4]),([5],[5]),([6],[6]),([7],[7]),([2,8],[2,8]),([9,2,0,1,2,3,4,5,6,7,8,9],[9])])
def spec_l00Digits.B7 : List Nat:=[0,1,3,0,8,24,56,120,248,511,1023]
theorem spec_l00Digits.tab7 : rtab .any (opsOf Tryd.f15 7) = spec_l00Digits.T7:=by kernel_rfl
theorem spec_l00Digits.bits7 : waitsOk spec_l00Digits.T7.2 spec_l00Digits.B7 = true:=by kernel_rfl
set_option maxHeartbeats 8000000 in
set_option maxRecDepth 100000 in
theorem spec_l00Digits.calls (k : Nat) : ∀ (a0 : Int) (r : ByteArray) (w : World) (h : spec_l00Digits.f k a0 = some r),
  Calls Tryd.prog 15 #[.int .i64 a0] w fun e w' => e = .returned (.string r) ∧ Below w.heap.size w w':=by
 induction k using Nat.strongRecOn with
 | _ k ih =>
 intro a0 r w h
 cases k with
 | zero => exact absurd h (by simp [spec_l00Digits.f])
 | succ k =>
 simp only [spec_l00Digits.f] at h
 have HB:=aMk (Below.refl w.heap.size w)
 have H : (if a0 = (-9223372036854775808) then (some (⟨#[45,57,50,50,51,51,55,50,48,51,54,56,53,52,55,55,53,56,48,56]⟩ : ByteArray)) else (if a0 < 0 then ((spec_l00Digits.f k (wrap64 (-a0))).bind fun t123 => (if 1 + t123.size ≤ 9223372036854775807 then (some ((⟨#[45]⟩ : ByteArray) ++ t123)) else (none))) else (if a0 < 10 then (some (strOfNums (([(wrap64 (48 + a0)) % 256] : List Int)))) else ((spec_l00Digits.f k (wrap64 (Int.tdiv a0 10))).bind fun t127 => ((some (([(wrap64 (48 + (Int.tmod a0 10))) % 256] : List Int) : List Int)).bind fun y128 => (if t127.size + (strOfNums y128).size ≤ 9223372036854775807 then (some (t127 ++ (strOfNums y128))) else (none))))))) = some r:=h
 clear h
 by_cases c2 : a0 = (-9223372036854775808)
 ·rw [if_pos c2] at H
  have c2b0 : (a0 == (-9223372036854775808)) = true:=beq_iff_eq.mpr c2
  have c2b1 : (a0 != (-9223372036854775808)) = false:=bne_eq_false_iff_eq.mpr c2
  clear c2
  obtain rfl:=Option.some.inj H
  go_enter Tryd.func15,Tryd.ntmps15
  go_wp2
  go_ret
  exact ⟨by first | rfl|(simp [errW_none,errW_some] <;> rfl)|(simp [*,errW_none,errW_some] <;> rfl),by repeat (first|(with_reducible first|exact HB.out|apply bwA|apply bwN|apply bw1)|exact HB.out)⟩
 ·rw [if_neg c2] at H
  have c2b0 : (a0 == (-9223372036854775808)) = false:=beq_eq_false_iff_ne.mpr c2
  have c2b1 : (a0 != (-9223372036854775808)) = true:=bne_iff_ne.mpr c2
  by_cases c3 : a0 < 0
  ·rw [if_pos c3] at H
   have c3b0 : decide (a0 < 0) = true:=decide_eq_true c3
   clear c3
   replace H:=Option.bind_eq_some_iff.mp H
   obtain ⟨t123,A40,H⟩:=H
   replace H : (if 1 + t123.size ≤ 9223372036854775807 then (some ((⟨#[45]⟩ : ByteArray) ++ t123)) else (none)) = some r:=H
   have A4:=aMk A40
   clear A40
   by_cases c5 : 1 + t123.size ≤ 9223372036854775807
   ·rw [if_pos c5] at H
    have c5b0:=eq_true c5
    have c5b1 : decide (1 + t123.size ≤ 9223372036854775807) = true:=decide_eq_true c5
    try have c5b2 : (9223372036854775807 < 1 + t123.size) = False:=eq_false (Nat.not_lt.2 c5)
    obtain rfl:=Option.some.inj H
    go_enter Tryd.func15,Tryd.ntmps15
    go_wp2_with (first|((with_reducible refine gate_callee (f:=15) rfl ?_);refine goesL_ (some 9) rfl rfl Tryd.func15 (by kernel_rfl) rfl #[.int .i64 (wrap64 (-a0))] rfl (by (try simp only [List.map_toArray,List.map_cons,List.map_nil]);first | done | rfl|(simp only [List.length_drop,List.length_take];rfl)) ?_;(with_reducible refine (ih k (by omega) (wrap64 (-a0)) t123 _ A4.out).mono ?_);rintro e w6 ⟨rfl,hb⟩;refine ⟨_,rfl,?_⟩;have n0_:=aMk (below_step (by repeat first|exact HB.out|apply bwA|apply bwN|apply bw1) hb);clear HB;have HB:=n0_;clear n0_;(try clear hb);(try clear hb2);(try clear hk);(try clear hi)))
    go_ret
    exact ⟨by first | rfl|(simp [errW_none,errW_some] <;> rfl)|(simp [*,errW_none,errW_some] <;> rfl),by repeat (first|(with_reducible first|exact HB.out|apply bwA|apply bwN|apply bw1)|exact HB.out)⟩
   ·rw [if_neg c5] at H
    exact absurd H (by simp)
  ·rw [if_neg c3] at H
   have c3b0 : decide (a0 < 0) = false:=decide_eq_false c3
   clear c3
   by_cases c7 : a0 < 10
   ·rw [if_pos c7] at H
    have c7b0 : decide (a0 < 10) = true:=decide_eq_true c7
    clear c7
    obtain ⟨y124,hy124⟩ : ∃ y_ : List Int,y_ = (([(wrap64 (48 + a0)) % 256] : List Int)):=⟨_,rfl⟩
    replace H : (some (strOfNums y124)) = some r:=by first|(rw [hy124];with_reducible exact H)|(have H2_:=(Option.bind_some _ _).symm.trans H;rw [hy124];with_reducible exact H2_)|(have H2_:=(Option.bind_some _ _).symm.trans H;with_reducible exact H2_) | with_reducible exact H|(rw [hy124];exact H)|exact H
    have Ny124:=aMk hy124
    clear hy124
    obtain rfl:=Option.some.inj H
    go_enter Tryd.func15,Tryd.ntmps15
    go_wp2_with (first|((with_reducible refine gate_dst (N:=16) rfl ?_);refine Kd.R_lit (Kd.int .u8) _ 5 ?hg (N:=16) ?hd (xs:=([(wrap64 (48 + a0)) % 256] : List Int)) (inner:=[.int .u8 ((wrap64 (48 + a0)) % 256)]) (ok:=fun _ => True) (okp:=fun _ => True) ?hr ?hp (fun _ hk => hk) trivial (Below.refl _ _) (Nat.le_refl _) (by simp) ?_;(case hd => rfl);(case hg => rfl);(case hr => first|(go_simp;done)|(go_simp;rfl));(case hp => exact (Reps.one (show Kd.M (Kd.int .u8) _ _ _ ((wrap64 (48 + a0)) % 256) [.int .u8 ((wrap64 (48 + a0)) % 256)] from rfl) (Reps.none _ _)));intro v125 w8 ho9 hb hg_ hnew_;clear hg_ hnew_;(first|rw [← Ny124.out] at ho9|(simp only [Int.reduceToNat] at ho9;rw [← Ny124.out] at ho9));have n0_:=aMk (Kd.R_lower ho9 (below_size (by repeat first|exact HB.out|apply bwA|apply bwN|apply bw1)));have n1_:=aMk (below_step (by repeat first|exact HB.out|apply bwA|apply bwN|apply bw1) hb);clear HB;have HO126:=n0_;have HB:=n1_;clear n0_ n1_;clear hb ho9;have hcv10:=own_string (P:=Tryd.prog) Tryd.underlying62 Tryd.underlying5 Tryd.underlying9 (Kd.own_of_R HO126.out)))
    go_ret
    exact ⟨by first | rfl|(simp [errW_none,errW_some] <;> rfl)|(simp [*,errW_none,errW_some] <;> rfl),by repeat (first|(with_reducible first|exact HB.out|apply bwA|apply bwN|apply bw1)|exact HB.out)⟩
   ·rw [if_neg c7] at H
    have c7b0 : decide (a0 < 10) = false:=decide_eq_false c7
    clear c7
    replace H:=Option.bind_eq_some_iff.mp H
    obtain ⟨t127,A110,H⟩:=H
    replace H : ((some (([(wrap64 (48 + (Int.tmod a0 10))) % 256] : List Int) : List Int)).bind fun y128 => (if t127.size + (strOfNums y128).size ≤ 9223372036854775807 then (some (t127 ++ (strOfNums y128))) else (none))) = some r:=H
    have A11:=aMk A110
    clear A110
    obtain ⟨y128,hy128⟩ : ∃ y_ : List Int,y_ = (([(wrap64 (48 + (Int.tmod a0 10))) % 256] : List Int)):=⟨_,rfl⟩
    replace H : (if t127.size + (strOfNums y128).size ≤ 9223372036854775807 then (some (t127 ++ (strOfNums y128))) else (none)) = some r:=by first|(rw [hy128];with_reducible exact H)|(have H2_:=(Option.bind_some _ _).symm.trans H;rw [hy128];with_reducible exact H2_)|(have H2_:=(Option.bind_some _ _).symm.trans H;with_reducible exact H2_) | with_reducible exact H|(rw [hy128];exact H)|exact H
    have Ny128:=aMk hy128
    clear hy128
    by_cases c12 : t127.size + (strOfNums y128).size ≤ 9223372036854775807
    ·rw [if_pos c12] at H
     have c12b0:=eq_true c12
     have c12b1 : decide (t127.size + (strOfNums y128).size ≤ 9223372036854775807) = true:=decide_eq_true c12
     try have c12b2 : (9223372036854775807 < t127.size + (strOfNums y128).size) = False:=eq_false (Nat.not_lt.2 c12)
     obtain rfl:=Option.some.inj H
     go_enter Tryd.func15,Tryd.ntmps15
     try go_wp2
     have n0_:=aMk (bw1 HB.out)
     clear HB
     have HB:=n0_
     clear n0_
     refine start_ (n:=11) (S:=fun w' => True) (ds:=[]) #[false,false,false,false,false,false,false,false,false,false,false] (by kernel_rfl) rfl rfl trivial (fun hHeld => ?_);refine with_tabW spec_l00Digits.tab7 spec_l00Digits.bits7 (fun HT_ HW_ => ?_)
     generalize w.drew = w13 at HB hHeld ⊢
     refine pure_ (i:=0) (N:=some 18) (v:=?_) (a':=?_) #[true,false,false,false,false,false,false,false,false,false,false] rfl rfl (any_of HT_.out (by kernel_rfl)) (fun _ _ _ h => h) (Or.inl ⟨by rfl,?_⟩) ?_ ?_
     rotate_left
     ·intro w'
      go_simp
      with_reducible rfl
     rotate_left
     ·simp only [Act.put,List.setIfInBounds_toArray,List.set_cons_zero,List.set_cons_succ,i64_w,i32_w]
      rfl
     refine pure_ (i:=1) (N:=some 19) (v:=?_) (a':=?_) #[true,true,false,false,false,false,false,false,false,false,false] rfl rfl (any_of HT_.out (by kernel_rfl)) (fun _ _ _ h => h) (Or.inl ⟨by rfl,?_⟩) ?_ ?_
     rotate_left
     ·intro w'
      go_simp
      with_reducible rfl
     rotate_left
     ·simp only [Act.put,List.setIfInBounds_toArray,List.set_cons_zero,List.set_cons_succ,i64_w,i32_w]
      rfl
     refine pure_ (i:=3) (N:=some 21) (v:=?_) (a':=?_) #[true,true,false,true,false,false,false,false,false,false,false] rfl rfl (any_of HT_.out (by kernel_rfl)) (fun _ _ _ h => h) (Or.inl ⟨by rfl,?_⟩) ?_ ?_
     rotate_left
     ·intro w'
      go_simp
      with_reducible rfl
     rotate_left
     ·simp only [Act.put,List.setIfInBounds_toArray,List.set_cons_zero,List.set_cons_succ,i64_w,i32_w]
      rfl
     refine pure_ (i:=4) (N:=some 22) (v:=?_) (a':=?_) #[true,true,false,true,true,false,false,false,false,false,false] rfl rfl (any_of HT_.out (by kernel_rfl)) (fun _ _ _ h => h) (Or.inl ⟨by rfl,?_⟩) ?_ ?_
     rotate_left
     ·intro w'
      go_simp
      with_reducible rfl
     rotate_left
     ·simp only [Act.put,List.setIfInBounds_toArray,List.set_cons_zero,List.set_cons_succ,i64_w,i32_w]
      rfl
     refine pure_ (i:=5) (N:=some 23) (v:=?_) (a':=?_) #[true,true,false,true,true,true,false,false,false,false,false] rfl rfl (any_of HT_.out (by kernel_rfl)) (fun _ _ _ h => h) (Or.inl ⟨by rfl,?_⟩) ?_ ?_
     rotate_left
     ·intro w'
      go_simp
      with_reducible rfl
     rotate_left
     ·simp only [Act.put,List.setIfInBounds_toArray,List.set_cons_zero,List.set_cons_succ,i64_w,i32_w]
      rfl
     refine pure_ (i:=6) (N:=some 24) (v:=?_) (a':=?_) #[true,true,false,true,true,true,true,false,false,false,false] rfl rfl (any_of HT_.out (by kernel_rfl)) (fun _ _ _ h => h) (Or.inl ⟨by rfl,?_⟩) ?_ ?_
     rotate_left
     ·intro w'
      go_simp
      with_reducible rfl
     rotate_left
     ·simp only [Act.put,List.setIfInBounds_toArray,List.set_cons_zero,List.set_cons_succ,i64_w,i32_w]
      rfl
     refine join_ (σ:=Value) 2 #[true,true,true,true,true,true,true,true,true,false,false] (fun s_ => [(20,.string t127),(25,s_),(26,.string (strOfNums y128))]) (fun s_ w' => (Kd.R (Kd.int .u8) 5 w' w.heap.size (fun _ => True) s_ y128) ∧ (Below w.heap.size w w')) ?_ ?_
     rotate_left
     ·intro hCont
      refine two_ (i:=2) (j:=7) (Ni:=some 20) (Nj:=some 25) #[true,true,true,true,true,true,true,false,false,false,false] #[true,true,false,true,true,true,true,true,false,false,false] rfl rfl rfl rfl (two_of HT_.out (by kernel_rfl)) (by decide) (by decide) (fun K hK => ?_) (fun K hK => ?_)
      ·skip
       refine goes_ Tryd.func15 (by kernel_rfl) rfl #[.int .i64 (wrap64 (Int.tdiv a0 10))] (by rfl) rfl rfl (by (try simp only [List.map_toArray,List.map_cons,List.map_nil]);first | done | rfl|(simp only [List.length_drop,List.length_take];rfl)) ?_
       with_reducible refine (ih k (by omega) (wrap64 (Int.tdiv a0 10)) t127 _ A11.out).mono ?_
       rintro e w14 ⟨rfl,hb⟩
       refine ⟨_,rfl,?_⟩
       have n0_:=aMk (below_step (by repeat first|exact HB.out|apply bwA|apply bwN|apply bw1) hb)
       clear HB
       have HB:=n0_
       clear n0_
       (try clear hb)
       (try clear hb2)
       (try clear hk)
       (try clear hi)
       refine hK.out _ _ trivial (fun hHeld => ?_)
       clear hK K
       refine norm_ (a':=?_) ?_ ?_
       rotate_left
       ·show Act.put _ (some 20) _ = _
        simp only [Act.put,List.setIfInBounds_toArray,List.set_cons_zero,List.set_cons_succ,i64_w,i32_w]
        rfl
       refine one_ (i:=7) (N:=some 25) #[true,true,true,true,true,true,true,true,false,false,false] rfl rfl (one_of HT_.out (by kernel_rfl)) (by decide) (fun K hK => ?_)
       refine Kd.R_lit_step (Kd.int .u8) _ 5 ?hg (N:=25) ?hd (xs:=([(wrap64 (48 + (Int.tmod a0 10))) % 256] : List Int)) (inner:=[.int .u8 ((wrap64 (48 + (Int.tmod a0 10))) % 256)]) (ok:=fun _ => True) (okp:=fun _ => True) ?hr ?hp (fun _ hk => hk) trivial (Below.refl _ _) (Nat.le_refl _) (by simp) ?_;(case hd => rfl);(case hg => rfl);(case hr => first|(go_simp;done)|(go_simp;rfl));(case hp => exact (Reps.one (show Kd.M (Kd.int .u8) _ _ _ ((wrap64 (48 + (Int.tmod a0 10))) % 256) [.int .u8 ((wrap64 (48 + (Int.tmod a0 10))) % 256)] from rfl) (Reps.none _ _)))
       intro v129 w15 ho16 hb hg_ hnew_
       clear hg_ hnew_
       (first|rw [← Ny128.out] at ho16|(simp only [Int.reduceToNat] at ho16;rw [← Ny128.out] at ho16))
       have n0_:=aMk (Kd.R_lower ho16 (below_size (by repeat first|exact HB.out|apply bwA|apply bwN|apply bw1)))
       have n1_:=aMk (below_step (by repeat first|exact HB.out|apply bwA|apply bwN|apply bw1) hb)
       clear HB
       have HO130:=n0_
       have HB:=n1_
       clear n0_ n1_
       clear hb ho16
       refine hK.out _ _ trivial (fun hHeld => ?_)
       clear hK K
       refine norm_ (a':=?_) ?_ ?_
       rotate_left
       ·show Act.put _ (some 25) _ = _
        simp only [Act.put,List.setIfInBounds_toArray,List.set_cons_zero,List.set_cons_succ,i64_w,i32_w]
        rfl
       refine one_ (i:=8) (N:=some 26) #[true,true,true,true,true,true,true,true,true,false,false] rfl rfl (one_of HT_.out (by kernel_rfl)) (by decide) (fun K hK => ?_)
       have hcv17:=own_string (P:=Tryd.prog) Tryd.underlying62 Tryd.underlying5 Tryd.underlying9 (Kd.own_of_R HO130.out)
       refine value_ (w1:=?_) (v:=?_) (by rfl) rfl ?_ ?_
       rotate_left 2
       ·go_simp
        constructor
        ·rfl
        ·rfl
       clear hcv17
       refine hK.out _ _ trivial (fun hHeld => ?_)
       clear hK K
       refine norm_ (a':=?_) ?_ ?_
       rotate_left
       ·show Act.put _ (some 26) _ = _
        simp only [Act.put,List.setIfInBounds_toArray,List.set_cons_zero,List.set_cons_succ,i64_w,i32_w]
        rfl
       exact norm_ (by simp only [putAll,Act.put,List.setIfInBounds_toArray,List.set_cons_zero,List.set_cons_succ]) (hCont (v129) _ ⟨(by (with_reducible repeat (first|apply Kd.R_alloc|apply Kd.R_drewN|apply Kd.R_drew));exact HO130.out),(by repeat first|exact HB.out|apply bwA|apply bwN|apply bw1)⟩)
      ·skip
       refine Kd.R_lit_step (Kd.int .u8) _ 5 ?hg (N:=25) ?hd (xs:=([(wrap64 (48 + (Int.tmod a0 10))) % 256] : List Int)) (inner:=[.int .u8 ((wrap64 (48 + (Int.tmod a0 10))) % 256)]) (ok:=fun _ => True) (okp:=fun _ => True) ?hr ?hp (fun _ hk => hk) trivial (Below.refl _ _) (Nat.le_refl _) (by simp) ?_;(case hd => rfl);(case hg => rfl);(case hr => first|(go_simp;done)|(go_simp;rfl));(case hp => exact (Reps.one (show Kd.M (Kd.int .u8) _ _ _ ((wrap64 (48 + (Int.tmod a0 10))) % 256) [.int .u8 ((wrap64 (48 + (Int.tmod a0 10))) % 256)] from rfl) (Reps.none _ _)))
       intro v129 w14 ho15 hb hg_ hnew_
       clear hg_ hnew_
       (first|rw [← Ny128.out] at ho15|(simp only [Int.reduceToNat] at ho15;rw [← Ny128.out] at ho15))
       have n0_:=aMk (Kd.R_lower ho15 (below_size (by repeat first|exact HB.out|apply bwA|apply bwN|apply bw1)))
       have n1_:=aMk (below_step (by repeat first|exact HB.out|apply bwA|apply bwN|apply bw1) hb)
       clear HB
       have HO130:=n0_
       have HB:=n1_
       clear n0_ n1_
       clear hb ho15
       refine hK.out _ _ trivial (fun hHeld => ?_)
       clear hK K
       refine norm_ (a':=?_) ?_ ?_
       rotate_left
       ·show Act.put _ (some 25) _ = _
        simp only [Act.put,List.setIfInBounds_toArray,List.set_cons_zero,List.set_cons_succ,i64_w,i32_w]
        rfl
       refine two_ (i:=2) (j:=8) (Ni:=some 20) (Nj:=some 26) #[true,true,true,true,true,true,true,true,false,false,false] #[true,true,false,true,true,true,true,true,true,false,false] rfl rfl rfl rfl (two_of HT_.out (by kernel_rfl)) (by decide) (by decide) (fun K hK => ?_) (fun K hK => ?_)
       ·skip
        refine goes_ Tryd.func15 (by kernel_rfl) rfl #[.int .i64 (wrap64 (Int.tdiv a0 10))] (by rfl) rfl rfl (by (try simp only [List.map_toArray,List.map_cons,List.map_nil]);first | done | rfl|(simp only [List.length_drop,List.length_take];rfl)) ?_
        with_reducible refine (ih k (by omega) (wrap64 (Int.tdiv a0 10)) t127 _ A11.out).mono ?_
        rintro e w16 ⟨rfl,hb⟩
        refine ⟨_,rfl,?_⟩
        have n0_:=aMk (Kd.R_below (by (with_reducible repeat (first|apply Kd.R_alloc|apply Kd.R_drewN|apply Kd.R_drew));exact HO130.out) hb)
        have n1_:=aMk (below_step (by repeat first|exact HB.out|apply bwA|apply bwN|apply bw1) hb)
        clear HO130
        clear HB
        have HO130:=n0_
        have HB:=n1_
        clear n0_ n1_
        (try clear hb)
        (try clear hb2)
        (try clear hk)
        (try clear hi)
        refine hK.out _ _ trivial (fun hHeld => ?_)
        clear hK K
        refine norm_ (a':=?_) ?_ ?_
        rotate_left
        ·show Act.put _ (some 20) _ = _
         simp only [Act.put,List.setIfInBounds_toArray,List.set_cons_zero,List.set_cons_succ,i64_w,i32_w]
         rfl
        refine one_ (i:=8) (N:=some 26) #[true,true,true,true,true,true,true,true,true,false,false] rfl rfl (one_of HT_.out (by kernel_rfl)) (by decide) (fun K hK => ?_)
        have hcv17:=own_string (P:=Tryd.prog) Tryd.underlying62 Tryd.underlying5 Tryd.underlying9 (Kd.own_of_R HO130.out)
        refine value_ (w1:=?_) (v:=?_) (by rfl) rfl ?_ ?_
        rotate_left 2
        ·go_simp
         constructor
         ·rfl
         ·rfl
        clear hcv17
        refine hK.out _ _ trivial (fun hHeld => ?_)
        clear hK K
        refine norm_ (a':=?_) ?_ ?_
        rotate_left
        ·show Act.put _ (some 26) _ = _
         simp only [Act.put,List.setIfInBounds_toArray,List.set_cons_zero,List.set_cons_succ,i64_w,i32_w]
         rfl
        exact norm_ (by simp only [putAll,Act.put,List.setIfInBounds_toArray,List.set_cons_zero,List.set_cons_succ]) (hCont (v129) _ ⟨(by (with_reducible repeat (first|apply Kd.R_alloc|apply Kd.R_drewN|apply Kd.R_drew));exact HO130.out),(by repeat first|exact HB.out|apply bwA|apply bwN|apply bw1)⟩)
       ·skip
        have hcv16:=own_string (P:=Tryd.prog) Tryd.underlying62 Tryd.underlying5 Tryd.underlying9 (Kd.own_of_R HO130.out)
        refine value_ (w1:=?_) (v:=?_) (by rfl) rfl ?_ ?_
        rotate_left 2
        ·go_simp
         constructor
         ·rfl
         ·rfl
        clear hcv16
        refine hK.out _ _ trivial (fun hHeld => ?_)
        clear hK K
        refine norm_ (a':=?_) ?_ ?_
        rotate_left
        ·show Act.put _ (some 26) _ = _
         simp only [Act.put,List.setIfInBounds_toArray,List.set_cons_zero,List.set_cons_succ,i64_w,i32_w]
         rfl
        refine one_ (i:=2) (N:=some 20) #[true,true,true,true,true,true,true,true,true,false,false] rfl rfl (one_of HT_.out (by kernel_rfl)) (by decide) (fun K hK => ?_)
        refine goes_ Tryd.func15 (by kernel_rfl) rfl #[.int .i64 (wrap64 (Int.tdiv a0 10))] (by rfl) rfl rfl (by (try simp only [List.map_toArray,List.map_cons,List.map_nil]);first | done | rfl|(simp only [List.length_drop,List.length_take];rfl)) ?_
        with_reducible refine (ih k (by omega) (wrap64 (Int.tdiv a0 10)) t127 _ A11.out).mono ?_
        rintro e w17 ⟨rfl,hb⟩
        refine ⟨_,rfl,?_⟩
        have n0_:=aMk (Kd.R_below (by (with_reducible repeat (first|apply Kd.R_alloc|apply Kd.R_drewN|apply Kd.R_drew));exact HO130.out) hb)
        have n1_:=aMk (below_step (by repeat first|exact HB.out|apply bwA|apply bwN|apply bw1) hb)
        clear HO130
        clear HB
        have HO130:=n0_
        have HB:=n1_
        clear n0_ n1_
        (try clear hb)
        (try clear hb2)
        (try clear hk)
        (try clear hi)
        refine hK.out _ _ trivial (fun hHeld => ?_)
        clear hK K
        refine norm_ (a':=?_) ?_ ?_
        rotate_left
        ·show Act.put _ (some 20) _ = _
         simp only [Act.put,List.setIfInBounds_toArray,List.set_cons_zero,List.set_cons_succ,i64_w,i32_w]
         rfl
        exact norm_ (by simp only [putAll,Act.put,List.setIfInBounds_toArray,List.set_cons_zero,List.set_cons_succ]) (hCont (v129) _ ⟨(by (with_reducible repeat (first|apply Kd.R_alloc|apply Kd.R_drewN|apply Kd.R_drew));exact HO130.out),(by repeat first|exact HB.out|apply bwA|apply bwN|apply bw1)⟩)
     rintro v129 w18 ⟨h0_,h1_⟩
     have n0_ : Aside0 (Kd.R (Kd.int .u8) 5 w18 w.heap.size (fun _ => True) v129 y128):=⟨h0_⟩
     have n1_ : Aside0 (Below w.heap.size w w18):=⟨h1_⟩
     clear HB
     clear h0_ h1_
     have HO130:=n0_
     have HB:=n1_
     clear n0_ n1_
     have hHeld:=trivial
     refine norm_ (a':=?_) ?_ ?_
     rotate_left
     ·simp only [putAll,Act.put,List.setIfInBounds_toArray,List.set_cons_zero,List.set_cons_succ]
      rfl
     refine pure_ (i:=9) (N:=some 27) (v:=?_) (a':=?_) #[true,true,true,true,true,true,true,true,true,true,false] rfl rfl (any_of HT_.out (by kernel_rfl)) (fun _ _ _ h => h) (Or.inl ⟨by rfl,?_⟩) ?_ ?_
     rotate_left
     ·intro w'
      go_simp
      with_reducible rfl
     rotate_left
     ·simp only [Act.put,List.setIfInBounds_toArray,List.set_cons_zero,List.set_cons_succ,i64_w,i32_w]
      rfl
     refine pure_ (i:=10) (N:=some 2) (v:=?_) (a':=?_) #[true,true,true,true,true,true,true,true,true,true,true] rfl rfl (any_of HT_.out (by kernel_rfl)) (fun _ _ _ h => h) (Or.inl ⟨by rfl,?_⟩) ?_ ?_
     rotate_left
     ·intro w'
      go_simp
      with_reducible rfl
     rotate_left
     ·simp only [Act.put,List.setIfInBounds_toArray,List.set_cons_zero,List.set_cons_succ,i64_w,i32_w]
      rfl
     refine done_ (done_of HT_.out (by kernel_rfl)) ?_
     try go_wp2
     go_ret
     exact ⟨by first | rfl|(simp [errW_none,errW_some] <;> rfl)|(simp [*,errW_none,errW_some] <;> rfl),by repeat (first|(with_reducible first|exact HB.out|apply bwA|apply bwN|apply bw1)|exact HB.out)⟩
    ·rw [if_neg c12] at H
     exact absurd H (by simp)
end
section
/-! ### spec_l01Address: function 14 -/
def spec_l01Address.f (k : Nat) (a0 : Int) : Option (ByteArray):=(spec_l00Digits.f k (a0 / 16777216)).bind fun t131 => (if t131.size + 1 ≤ 9223372036854775807 then ((spec_l00Digits.f k (Go.bits .and .i64 (a0 / 65536) 255)).bind fun t132 => (if (t131 ++ (⟨#[46]⟩ : ByteArray)).size + t132.size ≤ 9223372036854775807 then (if ((t131 ++ (⟨#[46]⟩ : ByteArray)) ++ t132).size + 1 ≤ 9223372036854775807 then ((spec_l00Digits.f k (Go.bits .and .i64 (a0 / 256) 255)).bind fun t133 => (if (((t131 ++ (⟨#[46]⟩ : ByteArray)) ++ t132) ++ (⟨#[46]⟩ : ByteArray)).size + t133.size ≤ 9223372036854775807 then (if ((((t131 ++ (⟨#[46]⟩ : ByteArray)) ++ t132) ++ (⟨#[46]⟩ : ByteArray)) ++ t133).size + 1 ≤ 9223372036854775807 then ((spec_l00Digits.f k (Go.bits .and .i64 a0 255)).bind fun t134 => (if (((((t131 ++ (⟨#[46]⟩ : ByteArray)) ++ t132) ++ (⟨#[46]⟩ : ByteArray)) ++ t133) ++ (⟨#[46]⟩ : ByteArray)).size + t134.size ≤ 9223372036854775807 then (some ((((((t131 ++ (⟨#[46]⟩ : ByteArray)) ++ t132) ++ (⟨#[46]⟩ : ByteArray)) ++ t133) ++ (⟨#[46]⟩ : ByteArray)) ++ t134)) else (none))) else (none)) else (none))) else (none)) else (none))) else (none))
theorem spec_l01Address.mono : ∀ a0 k,LeO (spec_l01Address.f k a0) (spec_l01Address.f (k + 1) a0):=by
 intro a0 k
 unfold spec_l01Address.f
 repeat' first
   | (with_reducible exact spec_l00Digits.mono ..)
   | (with_reducible exact LeO.refl _)
   | (with_reducible exact LeO.none _)
   | (with_reducible refine LeO.ite ?_ ?_)
   | (with_reducible refine LeO.bind ?_ (fun _ => ?_))
   | exact spec_l00Digits.mono ..
   | exact LeO.none _
   | refine LeO.ite ?_ ?_
   | refine LeO.bind ?_ (fun _ => ?_)
set_option maxHeartbeats 8000000 in
set_option maxRecDepth 100000 in
theorem spec_l01Address.calls (k : Nat) (a0 : Int) (r : ByteArray) (w : World) (h : spec_l01Address.f k a0 = some r) :
  Calls Tryd.prog 14 #[.int .i64 a0] w fun e w' => e = .returned (.string r) ∧ Below w.heap.size w w':=by
 have HB:=aMk (Below.refl w.heap.size w)
 have H : ((spec_l00Digits.f k (a0 / 16777216)).bind fun t131 => (if t131.size + 1 ≤ 9223372036854775807 then ((spec_l00Digits.f k (Go.bits .and .i64 (a0 / 65536) 255)).bind fun t132 => (if (t131 ++ (⟨#[46]⟩ : ByteArray)).size + t132.size ≤ 9223372036854775807 then (if ((t131 ++ (⟨#[46]⟩ : ByteArray)) ++ t132).size + 1 ≤ 9223372036854775807 then ((spec_l00Digits.f k (Go.bits .and .i64 (a0 / 256) 255)).bind fun t133 => (if (((t131 ++ (⟨#[46]⟩ : ByteArray)) ++ t132) ++ (⟨#[46]⟩ : ByteArray)).size + t133.size ≤ 9223372036854775807 then (if ((((t131 ++ (⟨#[46]⟩ : ByteArray)) ++ t132) ++ (⟨#[46]⟩ : ByteArray)) ++ t133).size + 1 ≤ 9223372036854775807 then ((spec_l00Digits.f k (Go.bits .and .i64 a0 255)).bind fun t134 => (if (((((t131 ++ (⟨#[46]⟩ : ByteArray)) ++ t132) ++ (⟨#[46]⟩ : ByteArray)) ++ t133) ++ (⟨#[46]⟩ : ByteArray)).size + t134.size ≤ 9223372036854775807 then (some ((((((t131 ++ (⟨#[46]⟩ : ByteArray)) ++ t132) ++ (⟨#[46]⟩ : ByteArray)) ++ t133) ++ (⟨#[46]⟩ : ByteArray)) ++ t134)) else (none))) else (none)) else (none))) else (none)) else (none))) else (none))) = some r:=h
 clear h
 replace H:=Option.bind_eq_some_iff.mp H
 obtain ⟨t131,A20,H⟩:=H
 replace H : (if t131.size + 1 ≤ 9223372036854775807 then ((spec_l00Digits.f k (Go.bits .and .i64 (a0 / 65536) 255)).bind fun t132 => (if (t131 ++ (⟨#[46]⟩ : ByteArray)).size + t132.size ≤ 9223372036854775807 then (if ((t131 ++ (⟨#[46]⟩ : ByteArray)) ++ t132).size + 1 ≤ 9223372036854775807 then ((spec_l00Digits.f k (Go.bits .and .i64 (a0 / 256) 255)).bind fun t133 => (if (((t131 ++ (⟨#[46]⟩ : ByteArray)) ++ t132) ++ (⟨#[46]⟩ : ByteArray)).size + t133.size ≤ 9223372036854775807 then (if ((((t131 ++ (⟨#[46]⟩ : ByteArray)) ++ t132) ++ (⟨#[46]⟩ : ByteArray)) ++ t133).size + 1 ≤ 9223372036854775807 then ((spec_l00Digits.f k (Go.bits .and .i64 a0 255)).bind fun t134 => (if (((((t131 ++ (⟨#[46]⟩ : ByteArray)) ++ t132) ++ (⟨#[46]⟩ : ByteArray)) ++ t133) ++ (⟨#[46]⟩ : ByteArray)).size + t134.size ≤ 9223372036854775807 then (some ((((((t131 ++ (⟨#[46]⟩ : ByteArray)) ++ t132) ++ (⟨#[46]⟩ : ByteArray)) ++ t133) ++ (⟨#[46]⟩ : ByteArray)) ++ t134)) else (none))) else (none)) else (none))) else (none)) else (none))) else (none)) = some r:=H
 have A2:=aMk A20
 clear A20
 by_cases c3 : t131.size + 1 ≤ 9223372036854775807
 ·rw [if_pos c3] at H
  have c3b0:=eq_true c3
  have c3b1 : decide (t131.size + 1 ≤ 9223372036854775807) = true:=decide_eq_true c3
  try have c3b2 : (9223372036854775807 < t131.size + 1) = False:=eq_false (Nat.not_lt.2 c3)
  replace H:=Option.bind_eq_some_iff.mp H
  obtain ⟨t132,A40,H⟩:=H
  replace H : (if (t131 ++ (⟨#[46]⟩ : ByteArray)).size + t132.size ≤ 9223372036854775807 then (if ((t131 ++ (⟨#[46]⟩ : ByteArray)) ++ t132).size + 1 ≤ 9223372036854775807 then ((spec_l00Digits.f k (Go.bits .and .i64 (a0 / 256) 255)).bind fun t133 => (if (((t131 ++ (⟨#[46]⟩ : ByteArray)) ++ t132) ++ (⟨#[46]⟩ : ByteArray)).size + t133.size ≤ 9223372036854775807 then (if ((((t131 ++ (⟨#[46]⟩ : ByteArray)) ++ t132) ++ (⟨#[46]⟩ : ByteArray)) ++ t133).size + 1 ≤ 9223372036854775807 then ((spec_l00Digits.f k (Go.bits .and .i64 a0 255)).bind fun t134 => (if (((((t131 ++ (⟨#[46]⟩ : ByteArray)) ++ t132) ++ (⟨#[46]⟩ : ByteArray)) ++ t133) ++ (⟨#[46]⟩ : ByteArray)).size + t134.size ≤ 9223372036854775807 then (some ((((((t131 ++ (⟨#[46]⟩ : ByteArray)) ++ t132) ++ (⟨#[46]⟩ : ByteArray)) ++ t133) ++ (⟨#[46]⟩ : ByteArray)) ++ t134)) else (none))) else (none)) else (none))) else (none)) else (none)) = some r:=H
  have A4:=aMk A40
  clear A40
  by_cases c5 : (t131 ++ (⟨#[46]⟩ : ByteArray)).size + t132.size ≤ 9223372036854775807
  ·rw [if_pos c5] at H
   have c5b0:=eq_true c5
   have c5b1 : decide ((t131 ++ (⟨#[46]⟩ : ByteArray)).size + t132.size ≤ 9223372036854775807) = true:=decide_eq_true c5
   try have c5b2 : (9223372036854775807 < (t131 ++ (⟨#[46]⟩ : ByteArray)).size + t132.size) = False:=eq_false (Nat.not_lt.2 c5)
   try have c5b3 : (9223372036854775807 < t131.size + 1 + t132.size) = False:=by rw [← show (t131 ++ (⟨#[46]⟩ : ByteArray)).size = t131.size + 1 from by (simp only [ByteArray.size_append];rfl)];exact c5b2
   by_cases c6 : ((t131 ++ (⟨#[46]⟩ : ByteArray)) ++ t132).size + 1 ≤ 9223372036854775807
   ·rw [if_pos c6] at H
    have c6b0:=eq_true c6
    have c6b1 : decide (((t131 ++ (⟨#[46]⟩ : ByteArray)) ++ t132).size + 1 ≤ 9223372036854775807) = true:=decide_eq_true c6
    try have c6b2 : (9223372036854775807 < ((t131 ++ (⟨#[46]⟩ : ByteArray)) ++ t132).size + 1) = False:=eq_false (Nat.not_lt.2 c6)
    try have c6b3 : (9223372036854775807 < t131.size + 1 + t132.size + 1) = False:=by rw [← show ((t131 ++ (⟨#[46]⟩ : ByteArray)) ++ t132).size = t131.size + 1 + t132.size from by (simp only [ByteArray.size_append];rfl)];exact c6b2
    replace H:=Option.bind_eq_some_iff.mp H
    obtain ⟨t133,A70,H⟩:=H
    replace H : (if (((t131 ++ (⟨#[46]⟩ : ByteArray)) ++ t132) ++ (⟨#[46]⟩ : ByteArray)).size + t133.size ≤ 9223372036854775807 then (if ((((t131 ++ (⟨#[46]⟩ : ByteArray)) ++ t132) ++ (⟨#[46]⟩ : ByteArray)) ++ t133).size + 1 ≤ 9223372036854775807 then ((spec_l00Digits.f k (Go.bits .and .i64 a0 255)).bind fun t134 => (if (((((t131 ++ (⟨#[46]⟩ : ByteArray)) ++ t132) ++ (⟨#[46]⟩ : ByteArray)) ++ t133) ++ (⟨#[46]⟩ : ByteArray)).size + t134.size ≤ 9223372036854775807 then (some ((((((t131 ++ (⟨#[46]⟩ : ByteArray)) ++ t132) ++ (⟨#[46]⟩ : ByteArray)) ++ t133) ++ (⟨#[46]⟩ : ByteArray)) ++ t134)) else (none))) else (none)) else (none)) = some r:=H
    have A7:=aMk A70
    clear A70
    by_cases c8 : (((t131 ++ (⟨#[46]⟩ : ByteArray)) ++ t132) ++ (⟨#[46]⟩ : ByteArray)).size + t133.size ≤ 9223372036854775807
    ·rw [if_pos c8] at H
     have c8b0:=eq_true c8
     have c8b1 : decide ((((t131 ++ (⟨#[46]⟩ : ByteArray)) ++ t132) ++ (⟨#[46]⟩ : ByteArray)).size + t133.size ≤ 9223372036854775807) = true:=decide_eq_true c8
     try have c8b2 : (9223372036854775807 < (((t131 ++ (⟨#[46]⟩ : ByteArray)) ++ t132) ++ (⟨#[46]⟩ : ByteArray)).size + t133.size) = False:=eq_false (Nat.not_lt.2 c8)
     try have c8b3 : (9223372036854775807 < t131.size + 1 + t132.size + 1 + t133.size) = False:=by rw [← show (((t131 ++ (⟨#[46]⟩ : ByteArray)) ++ t132) ++ (⟨#[46]⟩ : ByteArray)).size = t131.size + 1 + t132.size + 1 from by (simp only [ByteArray.size_append];rfl)];exact c8b2
     by_cases c9 : ((((t131 ++ (⟨#[46]⟩ : ByteArray)) ++ t132) ++ (⟨#[46]⟩ : ByteArray)) ++ t133).size + 1 ≤ 9223372036854775807
     ·rw [if_pos c9] at H
      have c9b0:=eq_true c9
      have c9b1 : decide (((((t131 ++ (⟨#[46]⟩ : ByteArray)) ++ t132) ++ (⟨#[46]⟩ : ByteArray)) ++ t133).size + 1 ≤ 9223372036854775807) = true:=decide_eq_true c9
      try have c9b2 : (9223372036854775807 < ((((t131 ++ (⟨#[46]⟩ : ByteArray)) ++ t132) ++ (⟨#[46]⟩ : ByteArray)) ++ t133).size + 1) = False:=eq_false (Nat.not_lt.2 c9)
      try have c9b3 : (9223372036854775807 < t131.size + 1 + t132.size + 1 + t133.size + 1) = False:=by rw [← show ((((t131 ++ (⟨#[46]⟩ : ByteArray)) ++ t132) ++ (⟨#[46]⟩ : ByteArray)) ++ t133).size = t131.size + 1 + t132.size + 1 + t133.size from by (simp only [ByteArray.size_append];rfl)];exact c9b2
      replace H:=Option.bind_eq_some_iff.mp H
      obtain ⟨t134,A100,H⟩:=H
      replace H : (if (((((t131 ++ (⟨#[46]⟩ : ByteArray)) ++ t132) ++ (⟨#[46]⟩ : ByteArray)) ++ t133) ++ (⟨#[46]⟩ : ByteArray)).size + t134.size ≤ 9223372036854775807 then (some ((((((t131 ++ (⟨#[46]⟩ : ByteArray)) ++ t132) ++ (⟨#[46]⟩ : ByteArray)) ++ t133) ++ (⟨#[46]⟩ : ByteArray)) ++ t134)) else (none)) = some r:=H
      have A10:=aMk A100
      clear A100
      by_cases c11 : (((((t131 ++ (⟨#[46]⟩ : ByteArray)) ++ t132) ++ (⟨#[46]⟩ : ByteArray)) ++ t133) ++ (⟨#[46]⟩ : ByteArray)).size + t134.size ≤ 9223372036854775807
      ·rw [if_pos c11] at H
       have c11b0:=eq_true c11
       have c11b1 : decide ((((((t131 ++ (⟨#[46]⟩ : ByteArray)) ++ t132) ++ (⟨#[46]⟩ : ByteArray)) ++ t133) ++ (⟨#[46]⟩ : ByteArray)).size + t134.size ≤ 9223372036854775807) = true:=decide_eq_true c11
       try have c11b2 : (9223372036854775807 < (((((t131 ++ (⟨#[46]⟩ : ByteArray)) ++ t132) ++ (⟨#[46]⟩ : ByteArray)) ++ t133) ++ (⟨#[46]⟩ : ByteArray)).size + t134.size) = False:=eq_false (Nat.not_lt.2 c11)
       try have c11b3 : (9223372036854775807 < t131.size + 1 + t132.size + 1 + t133.size + 1 + t134.size) = False:=by rw [← show (((((t131 ++ (⟨#[46]⟩ : ByteArray)) ++ t132) ++ (⟨#[46]⟩ : ByteArray)) ++ t133) ++ (⟨#[46]⟩ : ByteArray)).size = t131.size + 1 + t132.size + 1 + t133.size + 1 from by (simp only [ByteArray.size_append];rfl)];exact c11b2
       obtain rfl:=Option.some.inj H
       go_enter Tryd.func14,Tryd.ntmps14
       go_wp2_with (first|((with_reducible refine gate_callee (f:=15) rfl ?_);refine goesL_ (some 5) rfl rfl Tryd.func15 (by kernel_rfl) rfl #[.int .i64 (a0 / 16777216)] rfl (by (try simp only [List.map_toArray,List.map_cons,List.map_nil]);first | done | rfl|(simp only [List.length_drop,List.length_take];rfl)) ?_;(with_reducible refine (spec_l00Digits.calls k (a0 / 16777216) t131 _ A2.out).mono ?_);rintro e w12 ⟨rfl,hb⟩;refine ⟨_,rfl,?_⟩;have n0_:=aMk (below_step (by repeat first|exact HB.out|apply bwA|apply bwN|apply bw1) hb);clear HB;have HB:=n0_;clear n0_;(try clear hb);(try clear hb2);(try clear hk);(try clear hi))|((with_reducible refine gate_callee (f:=15) rfl ?_);refine goesL_ (some 10) rfl rfl Tryd.func15 (by kernel_rfl) rfl #[.int .i64 (Go.bits .and .i64 (a0 / 65536) 255)] rfl (by (try simp only [List.map_toArray,List.map_cons,List.map_nil]);first | done | rfl|(simp only [List.length_drop,List.length_take];rfl)) ?_;(with_reducible refine (spec_l00Digits.calls k (Go.bits .and .i64 (a0 / 65536) 255) t132 _ A4.out).mono ?_);rintro e w13 ⟨rfl,hb⟩;refine ⟨_,rfl,?_⟩;have n0_:=aMk (below_step (by repeat first|exact HB.out|apply bwA|apply bwN|apply bw1) hb);clear HB;have HB:=n0_;clear n0_;(try clear hb);(try clear hb2);(try clear hk);(try clear hi))|((with_reducible refine gate_callee (f:=15) rfl ?_);refine goesL_ (some 16) rfl rfl Tryd.func15 (by kernel_rfl) rfl #[.int .i64 (Go.bits .and .i64 (a0 / 256) 255)] rfl (by (try simp only [List.map_toArray,List.map_cons,List.map_nil]);first | done | rfl|(simp only [List.length_drop,List.length_take];rfl)) ?_;(with_reducible refine (spec_l00Digits.calls k (Go.bits .and .i64 (a0 / 256) 255) t133 _ A7.out).mono ?_);rintro e w14 ⟨rfl,hb⟩;refine ⟨_,rfl,?_⟩;have n0_:=aMk (below_step (by repeat first|exact HB.out|apply bwA|apply bwN|apply bw1) hb);clear HB;have HB:=n0_;clear n0_;(try clear hb);(try clear hb2);(try clear hk);(try clear hi))|((with_reducible refine gate_callee (f:=15) rfl ?_);refine goesL_ (some 21) rfl rfl Tryd.func15 (by kernel_rfl) rfl #[.int .i64 (Go.bits .and .i64 a0 255)] rfl (by (try simp only [List.map_toArray,List.map_cons,List.map_nil]);first | done | rfl|(simp only [List.length_drop,List.length_take];rfl)) ?_;(with_reducible refine (spec_l00Digits.calls k (Go.bits .and .i64 a0 255) t134 _ A10.out).mono ?_);rintro e w15 ⟨rfl,hb⟩;refine ⟨_,rfl,?_⟩;have n0_:=aMk (below_step (by repeat first|exact HB.out|apply bwA|apply bwN|apply bw1) hb);clear HB;have HB:=n0_;clear n0_;(try clear hb);(try clear hb2);(try clear hk);(try clear hi)))
       go_ret
       exact ⟨by first | rfl|(simp [errW_none,errW_some] <;> rfl)|(simp [*,errW_none,errW_some] <;> rfl),by repeat (first|(with_reducible first|exact HB.out|apply bwA|apply bwN|apply bw1)|exact HB.out)⟩
      ·rw [if_neg c11] at H
       exact absurd H (by simp)
     ·rw [if_neg c9] at H
      exact absurd H (by simp)
    ·rw [if_neg c8] at H
     exact absurd H (by simp)
   ·rw [if_neg c6] at H
    exact absurd H (by simp)
  ·rw [if_neg c5] at H
   exact absurd H (by simp)
 ·rw [if_neg c3] at H
  exact absurd H (by simp)
end
section
theorem fix_ {P : Program} {ops : Array Oper} {Q : Exit → Act → World → Prop} {md : Region.Mode} {S : World → Prop} : ∀ {fuel : Nat} {l : Array Bool} {a : Act} {w : World},wpAnyLast P md ops Q (fun w' => w' = w) [] fuel l a w → wpAnyLast P md ops Q S [] fuel l a w
 | 0,_,_,_,h => h
 | fuel + 1,l,a,w,h => ⟨h.1,fun i hi => wpOp_mono (fun a' w' h' => by
   have e : w' = w:=h'.1 (by simp) rfl
   subst e
   exact ⟨fun _ hs => hs,fix_ h'.2⟩) (h.2 i hi)⟩
end
section
/-! ### spec_RuleText: function 5 -/
mutual
def spec_RuleText.j0 : Nat → ByteArray → Int → Int → Int → Int → Int → Bool → Option (ByteArray × Int)
 | 0,_,_,_,_,_,_,_ => none
 | k + 1,x4,x136000,x136001,x136002,x136003,x136004,x136005 => spec_RuleText.l0 k x4 0 x136000 x136001 x136002 x136003 x136004 x136005
def spec_RuleText.l0 : Nat → ByteArray → Int → Int → Int → Int → Int → Int → Bool → Option (ByteArray × Int)
 | 0,_,_,_,_,_,_,_,_ => none
 | k + 1,x4,x5,x136000,x136001,x136002,x136003,x136004,x136005 => if x5 < 4 then ((spec_l07ProtoNumbers.f).bind fun t137 => (if 0 ≤ x5 then (if x5 < (t137.length : Int) then (if (rd t137 x5) = x136000 then ((spec_l07Protos.f).bind fun t141 => (if x5 < (t141.length : Int) then (if x4.size + (rdOf ByteArray.empty t141 x5).size ≤ 9223372036854775807 then (spec_RuleText.l0 k (x4 ++ (rdOf ByteArray.empty t141 x5)) (wrap64 (x5 + 1)) x136000 x136001 x136002 x136003 x136004 x136005) else (none)) else (none))) else (spec_RuleText.l0 k x4 (wrap64 (x5 + 1)) x136000 x136001 x136002 x136003 x136004 x136005)) else (none)) else (none))) else (if x4.size + 1 ≤ 9223372036854775807 then ((spec_l01Address.f k x136001).bind fun t145 => (if (x4 ++ (⟨#[32]⟩ : ByteArray)).size + t145.size ≤ 9223372036854775807 then (if ((x4 ++ (⟨#[32]⟩ : ByteArray)) ++ t145).size + 1 ≤ 9223372036854775807 then ((spec_l00Digits.f k x136002).bind fun t146 => (if (((x4 ++ (⟨#[32]⟩ : ByteArray)) ++ t145) ++ (⟨#[47]⟩ : ByteArray)).size + t146.size ≤ 9223372036854775807 then (if ((((x4 ++ (⟨#[32]⟩ : ByteArray)) ++ t145) ++ (⟨#[47]⟩ : ByteArray)) ++ t146).size + 1 ≤ 9223372036854775807 then ((spec_l00Digits.f k x136003).bind fun t147 => (if (((((x4 ++ (⟨#[32]⟩ : ByteArray)) ++ t145) ++ (⟨#[47]⟩ : ByteArray)) ++ t146) ++ (⟨#[32]⟩ : ByteArray)).size + t147.size ≤ 9223372036854775807 then (if ((((((x4 ++ (⟨#[32]⟩ : ByteArray)) ++ t145) ++ (⟨#[47]⟩ : ByteArray)) ++ t146) ++ (⟨#[32]⟩ : ByteArray)) ++ t147).size + 1 ≤ 9223372036854775807 then ((spec_l00Digits.f k x136004).bind fun t148 => (if (((((((x4 ++ (⟨#[32]⟩ : ByteArray)) ++ t145) ++ (⟨#[47]⟩ : ByteArray)) ++ t146) ++ (⟨#[32]⟩ : ByteArray)) ++ t147) ++ (⟨#[32]⟩ : ByteArray)).size + t148.size ≤ 9223372036854775807 then (some ((((((((x4 ++ (⟨#[32]⟩ : ByteArray)) ++ t145) ++ (⟨#[47]⟩ : ByteArray)) ++ t146) ++ (⟨#[32]⟩ : ByteArray)) ++ t147) ++ (⟨#[32]⟩ : ByteArray)) ++ t148,0)) else (none))) else (none)) else (none))) else (none)) else (none))) else (none)) else (none))) else (none))
end
def spec_RuleText.f (k : Nat) (a0_0 : Int) (a0_1 : Int) (a0_2 : Int) (a0_3 : Int) (a0_4 : Int) (a0_5 : Bool) : Option (ByteArray × Int):=(spec_RuleOK.f a0_0 a0_1 a0_2 a0_3 a0_4 a0_5).bind fun t136 => (if t136 = true then (if a0_5 = true then (spec_RuleText.j0 k (⟨#[97,108,108,111,119,32]⟩ : ByteArray) a0_0 a0_1 a0_2 a0_3 a0_4 a0_5) else (spec_RuleText.j0 k (⟨#[100,101,110,121,32]⟩ : ByteArray) a0_0 a0_1 a0_2 a0_3 a0_4 a0_5)) else (some ((⟨#[]⟩ : ByteArray),1)))
theorem spec_RuleText.mono_l : ∀ k,(∀ y0 y1 y2 y3 y4 y5 y6,LeO (spec_RuleText.j0 k y0 y1 y2 y3 y4 y5 y6) (spec_RuleText.j0 (k + 1) y0 y1 y2 y3 y4 y5 y6)) ∧ (∀ y0 y1 y2 y3 y4 y5 y6 y7,LeO (spec_RuleText.l0 k y0 y1 y2 y3 y4 y5 y6 y7) (spec_RuleText.l0 (k + 1) y0 y1 y2 y3 y4 y5 y6 y7))
 | 0 => ⟨fun _ _ _ _ _ _ _ r h => by simp [spec_RuleText.j0] at h,fun _ _ _ _ _ _ _ _ r h => by simp [spec_RuleText.l0] at h⟩
 | k + 1 => by
  obtain ⟨ih0,ih1⟩:=spec_RuleText.mono_l k
  refine ⟨?_,?_⟩
  ·intro y0 y1 y2 y3 y4 y5 y6
   unfold spec_RuleText.j0
   repeat' first
   | (with_reducible exact ih0 _ _ _ _ _ _ _)
   | (with_reducible exact ih1 _ _ _ _ _ _ _ _)
   | (with_reducible exact spec_l00Digits.mono ..)
   | (with_reducible exact spec_l01Address.mono ..)
   | (with_reducible exact LeO.refl _)
   | (with_reducible exact LeO.none _)
   | (with_reducible refine LeO.ite ?_ ?_)
   | (with_reducible refine LeO.bind ?_ (fun _ => ?_))
   | exact ih0 _ _ _ _ _ _ _
   | exact ih1 _ _ _ _ _ _ _ _
   | exact spec_l00Digits.mono ..
   | exact spec_l01Address.mono ..
   | exact LeO.none _
   | refine LeO.ite ?_ ?_
   | refine LeO.bind ?_ (fun _ => ?_)
  ·intro y0 y1 y2 y3 y4 y5 y6 y7
   unfold spec_RuleText.l0
   repeat' first
   | (with_reducible exact ih0 _ _ _ _ _ _ _)
   | (with_reducible exact ih1 _ _ _ _ _ _ _ _)
   | (with_reducible exact spec_l00Digits.mono ..)
   | (with_reducible exact spec_l01Address.mono ..)
   | (with_reducible exact LeO.refl _)
   | (with_reducible exact LeO.none _)
   | (with_reducible refine LeO.ite ?_ ?_)
   | (with_reducible refine LeO.bind ?_ (fun _ => ?_))
   | exact ih0 _ _ _ _ _ _ _
   | exact ih1 _ _ _ _ _ _ _ _
   | exact spec_l00Digits.mono ..
   | exact spec_l01Address.mono ..
   | exact LeO.none _
   | refine LeO.ite ?_ ?_
   | refine LeO.bind ?_ (fun _ => ?_)
theorem spec_RuleText.mono : ∀ a0 a1 a2 a3 a4 a5 k,LeO (spec_RuleText.f k a0 a1 a2 a3 a4 a5) (spec_RuleText.f (k + 1) a0 a1 a2 a3 a4 a5):=by
 intro a0 a1 a2 a3 a4 a5 k
 obtain ⟨ih0,ih1⟩:=spec_RuleText.mono_l k
 unfold spec_RuleText.f
 repeat' first
   | (with_reducible exact ih0 _ _ _ _ _ _ _)
   | (with_reducible exact ih1 _ _ _ _ _ _ _ _)
   | (with_reducible exact spec_l00Digits.mono ..)
   | (with_reducible exact spec_l01Address.mono ..)
   | (with_reducible exact LeO.refl _)
   | (with_reducible exact LeO.none _)
   | (with_reducible refine LeO.ite ?_ ?_)
   | (with_reducible refine LeO.bind ?_ (fun _ => ?_))
   | exact ih0 _ _ _ _ _ _ _
   | exact ih1 _ _ _ _ _ _ _ _
   | exact spec_l00Digits.mono ..
   | exact spec_l01Address.mono ..
   | exact LeO.none _
   | refine LeO.ite ?_ ?_
   | refine LeO.bind ?_ (fun _ => ?_)
def spec_RuleText.T11 : Bool × List (List Nat × List Nat):=(true,[([],[]),([0],[0]),([],[]),([2],[2]),([3],[3]),([4],[4]),([1,5],[1,5]),([6],[6]),([],[]),([8],[8]),([9],[9]),([10,5],[10]),([7,11],[7,11]),([12],[12]),([],[]),([14],[14]),([15],[15]),([16,11],[16]),([13,17],[13,17]),([18],[18]),([],[]),([20],[20]),([21],[21]),([22,17],[22]),([19,23],[19,23]),([24,23,0,1,2,3,4,5,6,7,8,9,10,11,12,13,14,15,16,17,18,19,20,21,22,23,24],[24]),([25,0,1,2,3,4,5,6,7,8,9,10,11,12,13,14,15,16,17,18,19,20,21,22,23,24,25],[])])
def spec_RuleText.B11 : List Nat:=[0,1,0,4,12,28,63,127,0,256,768,1852,4095,8191,0,16384,49152,118588,262143,524287,0,1048576,3145728,7589692,16777215,33554431,67108863]
theorem spec_RuleText.tab11 : rtab .any (opsOf Tryd.f5 11) = spec_RuleText.T11:=by kernel_rfl
theorem spec_RuleText.bits11 : waitsOk spec_RuleText.T11.2 spec_RuleText.B11 = true:=by kernel_rfl
set_option maxHeartbeats 8000000 in
set_option maxRecDepth 100000 in
theorem spec_RuleText.calls (k : Nat) (a0_0 : Int) (a0_1 : Int) (a0_2 : Int) (a0_3 : Int) (a0_4 : Int) (a0_5 : Bool) (r1 : ByteArray) (r2 : Int) (w : World) (h : spec_RuleText.f k a0_0 a0_1 a0_2 a0_3 a0_4 a0_5 = some (r1,r2)) :
  Calls Tryd.prog 5 #[.agg #[.int .i64 a0_0,.int .i64 a0_1,.int .i64 a0_2,.int .i64 a0_3,.int .i64 a0_4,.bool a0_5]] w fun e w' => e = .returned (.tuple #[.string r1,.int .i64 r2]) ∧ Below w.heap.size w w':=by
 have hu33:=Tryd.underlying33
 have HB:=aMk (Below.refl w.heap.size w)
 have H : ((spec_RuleOK.f a0_0 a0_1 a0_2 a0_3 a0_4 a0_5).bind fun t136 => (if t136 = true then (if a0_5 = true then (spec_RuleText.j0 k (⟨#[97,108,108,111,119,32]⟩ : ByteArray) a0_0 a0_1 a0_2 a0_3 a0_4 a0_5) else (spec_RuleText.j0 k (⟨#[100,101,110,121,32]⟩ : ByteArray) a0_0 a0_1 a0_2 a0_3 a0_4 a0_5)) else (some ((⟨#[]⟩ : ByteArray),1)))) = some (r1,r2):=h
 clear h
 replace H:=Option.bind_eq_some_iff.mp H
 obtain ⟨t136,A20,H⟩:=H
 replace H : (if t136 = true then (if a0_5 = true then (spec_RuleText.j0 k (⟨#[97,108,108,111,119,32]⟩ : ByteArray) a0_0 a0_1 a0_2 a0_3 a0_4 a0_5) else (spec_RuleText.j0 k (⟨#[100,101,110,121,32]⟩ : ByteArray) a0_0 a0_1 a0_2 a0_3 a0_4 a0_5)) else (some ((⟨#[]⟩ : ByteArray),1))) = some (r1,r2):=H
 have A2:=aMk A20
 clear A20
 by_cases c3 : t136 = true
 ·subst c3
  have H1 : (if a0_5 = true then (spec_RuleText.j0 k (⟨#[97,108,108,111,119,32]⟩ : ByteArray) a0_0 a0_1 a0_2 a0_3 a0_4 a0_5) else (spec_RuleText.j0 k (⟨#[100,101,110,121,32]⟩ : ByteArray) a0_0 a0_1 a0_2 a0_3 a0_4 a0_5)) = some (r1,r2):=by rw [if_pos rfl] at H;exact H
  clear H
  have H:=H1
  clear H1
  have HC4:=aMk H
  clear H
  go_enter Tryd.func5,Tryd.ntmps5
  go_upto_if 10 with (first|((with_reducible refine gate_dst (N:=1) rfl ?_);refine box_event ?hg (N:=1) ?hd (cs:=#[.int .i64 a0_0,.int .i64 a0_1,.int .i64 a0_2,.int .i64 a0_3,.int .i64 a0_4,.bool a0_5]) (t:=33) ?hr ?_;(case hd => rfl);(case hg => rfl);(case hr => first|(go_simp;done)|(go_simp;rfl));intro gb135 hg w5 hbox hb;have n0_:=aMk (below_step (by repeat first|exact HB.out|apply bwA|apply bwN|apply bw1) hb);have n1_:=aMk (hbox);have n2_:=aMk ((by rw [hg];exact (below_size (by repeat first|exact HB.out|apply bwA|apply bwN|apply bw1)) : w.heap.size ≤ gb135));have n3_:=aMk ((by rw [hg];exact (below_size (by repeat first|exact HB.out|apply bwA|apply bwN|apply bw1)) : w.heap.size ≤ gb135));clear HB;have HB:=n0_;have BK135:=n1_;have GW135:=n2_;have GE135:=n3_;clear n0_ n1_ n2_ n3_;clear hb hbox hg;have hcz6_0 : w5.cell? ⟨gb135,0,none⟩ = some (.int .i64 a0_0):=(bCe BK135.out 0).trans rfl;have hcz6_1 : w5.cell? ⟨gb135,1,none⟩ = some (.int .i64 a0_1):=(bCe BK135.out 1).trans rfl;have hcz6_2 : w5.cell? ⟨gb135,2,none⟩ = some (.int .i64 a0_2):=(bCe BK135.out 2).trans rfl;have hcz6_3 : w5.cell? ⟨gb135,3,none⟩ = some (.int .i64 a0_3):=(bCe BK135.out 3).trans rfl;have hcz6_4 : w5.cell? ⟨gb135,4,none⟩ = some (.int .i64 a0_4):=(bCe BK135.out 4).trans rfl;have hcz6_5 : w5.cell? ⟨gb135,5,none⟩ = some (.bool a0_5):=(bCe BK135.out 5).trans rfl;have hfz6_0:=bFr BK135.out 0;have hfz6_1:=bFr BK135.out 1;have hfz6_2:=bFr BK135.out 2;have hfz6_3:=bFr BK135.out 3;have hfz6_4:=bFr BK135.out 4;have hfz6_5:=bFr BK135.out 5)|((with_reducible refine gate_callee (f:=11) rfl ?_);refine goesL_ (some 7) rfl rfl Tryd.func11 (by kernel_rfl) rfl #[.agg #[.int .i64 a0_0,.int .i64 a0_1,.int .i64 a0_2,.int .i64 a0_3,.int .i64 a0_4,.bool a0_5]] rfl (by (try simp only [List.map_toArray,List.map_cons,List.map_nil]);first | done | rfl|(simp only [List.length_drop,List.length_take];rfl)) ?_;(with_reducible refine (spec_RuleOK.calls a0_0 a0_1 a0_2 a0_3 a0_4 a0_5 true _ A2.out).mono ?_);rintro e w7 ⟨rfl,hb⟩;refine ⟨_,rfl,?_⟩;have n0_:=aMk (blk_below (g:=gb135) (o:=.cells #[.int .i64 a0_0,.int .i64 a0_1,.int .i64 a0_2,.int .i64 a0_3,.int .i64 a0_4,.bool a0_5] 33 (0,0)) (by (with_reducible repeat (first|refine bDn ?_ _|refine bDr ?_|refine bAl ?_ _));exact BK135.out) hb);have n1_:=aMk (below_step (by repeat (first|(with_reducible first|exact HB.out|apply bwA|apply bwN|apply bw1|refine below_set ?_ GE135.out)|exact HB.out)) hb);clear BK135;clear HB;have BK135:=n0_;have HB:=n1_;clear n0_ n1_;(try clear hb);(try clear hb2);(try clear hk);(try clear hi);have hcz8_0 : w7.cell? ⟨gb135,0,none⟩ = some (.int .i64 a0_0):=(bCe BK135.out 0).trans rfl;have hcz8_1 : w7.cell? ⟨gb135,1,none⟩ = some (.int .i64 a0_1):=(bCe BK135.out 1).trans rfl;have hcz8_2 : w7.cell? ⟨gb135,2,none⟩ = some (.int .i64 a0_2):=(bCe BK135.out 2).trans rfl;have hcz8_3 : w7.cell? ⟨gb135,3,none⟩ = some (.int .i64 a0_3):=(bCe BK135.out 3).trans rfl;have hcz8_4 : w7.cell? ⟨gb135,4,none⟩ = some (.int .i64 a0_4):=(bCe BK135.out 4).trans rfl;have hcz8_5 : w7.cell? ⟨gb135,5,none⟩ = some (.bool a0_5):=(bCe BK135.out 5).trans rfl;have hfz8_0:=bFr BK135.out 0;have hfz8_1:=bFr BK135.out 1;have hfz8_2:=bFr BK135.out 2;have hfz8_3:=bFr BK135.out 3;have hfz8_4:=bFr BK135.out 4;have hfz8_5:=bFr BK135.out 5))
  (try simp only [Act.put,List.setIfInBounds_toArray,List.set_cons_zero,List.set_cons_succ])
  go_cut [4] (fun v4 wc => ∃ (kq : Nat) (x4_3 : ByteArray),v4 = .string x4_3 ∧ Aside0 (spec_RuleText.j0 kq x4_3 a0_0 a0_1 a0_2 a0_3 a0_4 a0_5 = some (r1,r2)) ∧ Aside0 (kq ≤ k) ∧ Aside0 (wc.heap[gb135]? = some (.cells #[.int .i64 a0_0,.int .i64 a0_1,.int .i64 a0_2,.int .i64 a0_3,.int .i64 a0_4,.bool a0_5] 33 (0,0))) ∧ Aside0 (Below w.heap.size w wc))
  case first =>
   have H:=HC4.out
   clear HC4
   by_cases c9 : a0_5 = true
   ·subst c9
    have H1 : (spec_RuleText.j0 k (⟨#[97,108,108,111,119,32]⟩ : ByteArray) a0_0 a0_1 a0_2 a0_3 a0_4 true) = some (r1,r2):=by rw [if_pos rfl] at H;exact H
    clear H
    have H:=H1
    clear H1
    have H':=aMk H
    clear H
    go_wp2
    go_meet
    case rel => exact ⟨_,((⟨#[97,108,108,111,119,32]⟩ : ByteArray)),(by first | rfl|(simp;done)|(simp [*];done)|(simp [ne_nil_b];done)|(simp [ne_nil_b, *];done)),H',⟨by first | omega|exact Nat.le_refl _⟩,⟨by (with_reducible repeat (first|refine bDn ?_ _|refine bDr ?_|refine bAl ?_ _));exact BK135.out⟩,⟨by repeat (first|(with_reducible first|exact HB.out|apply bwA|apply bwN|apply bw1|refine below_set ?_ GE135.out)|exact HB.out)⟩⟩
   ·replace c9:=Bool.eq_false_iff.mpr c9
    subst c9
    have H1 : (spec_RuleText.j0 k (⟨#[100,101,110,121,32]⟩ : ByteArray) a0_0 a0_1 a0_2 a0_3 a0_4 false) = some (r1,r2):=by rw [if_neg (show ¬ (false = true) by decide)] at H;exact H
    clear H
    have H:=H1
    clear H1
    have H':=aMk H
    clear H
    go_wp2
    go_meet
    case rel => exact ⟨_,((⟨#[100,101,110,121,32]⟩ : ByteArray)),(by first | rfl|(simp;done)|(simp [*];done)|(simp [ne_nil_b];done)|(simp [ne_nil_b, *];done)),H',⟨by first | omega|exact Nat.le_refl _⟩,⟨by (with_reducible repeat (first|refine bDn ?_ _|refine bDr ?_|refine bAl ?_ _));exact BK135.out⟩,⟨by repeat (first|(with_reducible first|exact HB.out|apply bwA|apply bwN|apply bw1|refine below_set ?_ GE135.out)|exact HB.out)⟩⟩
  case rest =>
   clear HC4
   try clear c1
   try clear p2
   try clear c3
   try clear c5
   try clear c9
   try clear hcz6_0
   try clear hcz6_1
   try clear hcz6_2
   try clear hcz6_3
   try clear hcz6_4
   try clear hcz6_5
   try clear hcz8_0
   try clear hcz8_1
   try clear hcz8_2
   try clear hcz8_3
   try clear hcz8_4
   try clear hcz8_5
   try clear hfz6_0
   try clear hfz6_1
   try clear hfz6_2
   try clear hfz6_3
   try clear hfz6_4
   try clear hfz6_5
   try clear hfz8_0
   try clear hfz8_1
   try clear hfz8_2
   try clear hfz8_3
   try clear hfz8_4
   try clear hfz8_5
   obtain ⟨kq,x4_3,rfl,HA,HJ3,BK135,HB⟩:=hcut
   cases kq with
   | zero => exact absurd HA.out (by simp [spec_RuleText.j0])
   | succ kj3 =>
    have H:=HA.out
    clear HA
    simp only [spec_RuleText.j0] at H
    have H':=aMk H
    clear H
    go_wp2
    go_loopg [4,5] kj3 (fun kq v4 v5 w' => ∃ (x4_2 : ByteArray) (x5_2 : Int),v4 = .string x4_2 ∧ v5 = .int .i64 x5_2 ∧ Aside0 (spec_RuleText.l0 kq x4_2 x5_2 a0_0 a0_1 a0_2 a0_3 a0_4 a0_5 = some (r1,r2)) ∧ Aside0 (kq ≤ kj3) ∧ Aside0 (w'.heap[gb135]? = some (.cells #[.int .i64 a0_0,.int .i64 a0_1,.int .i64 a0_2,.int .i64 a0_3,.int .i64 a0_4,.bool a0_5] 33 (0,0))) ∧ Aside0 (Below w.heap.size w w'))
    case atStart => exact ⟨(x4_3),(0),(by first | rfl|(simp;done)|(simp [*];done)|(simp [ne_nil_b];done)|(simp [ne_nil_b, *];done)),(by first | rfl|(simp;done)|(simp [*];done)|(simp [ne_nil_b];done)|(simp [ne_nil_b, *];done)),H',⟨Nat.le_refl _⟩,⟨by (with_reducible repeat (first|refine bDn ?_ _|refine bDr ?_|refine bAl ?_ _));exact BK135.out⟩,⟨by repeat (first|(with_reducible first|exact HB.out|apply bwA|apply bwN|apply bw1|refine below_set ?_ GE135.out)|exact HB.out)⟩⟩
    case round =>
     clear H'
     try clear c1
     try clear p2
     try clear c3
     try clear c5
     try clear c9
     try clear hcz6_0
     try clear hcz6_1
     try clear hcz6_2
     try clear hcz6_3
     try clear hcz6_4
     try clear hcz6_5
     try clear hcz8_0
     try clear hcz8_1
     try clear hcz8_2
     try clear hcz8_3
     try clear hcz8_4
     try clear hcz8_5
     try clear hfz6_0
     try clear hfz6_1
     try clear hfz6_2
     try clear hfz6_3
     try clear hfz6_4
     try clear hfz6_5
     try clear hfz8_0
     try clear hfz8_1
     try clear hfz8_2
     try clear hfz8_3
     try clear hfz8_4
     try clear hfz8_5
     try clear p2
     obtain ⟨x4_2,x5_2,rfl,rfl,HA,HK2,BK135,HB⟩:=hrel
     cases gk with
     | zero => exact absurd HA.out (by simp [spec_RuleText.l0])
     | succ k2 =>
      have H:=HA.out
      clear HA
      simp only [spec_RuleText.l0] at H
      by_cases c10 : x5_2 < 4
      ·rw [if_pos c10] at H
       have c10b0 : decide (x5_2 < 4) = true:=decide_eq_true c10
       clear c10
       replace H:=Option.bind_eq_some_iff.mp H
       obtain ⟨t137,A110,H⟩:=H
       replace H : (if 0 ≤ x5_2 then (if x5_2 < (t137.length : Int) then (if (rd t137 x5_2) = a0_0 then ((spec_l07Protos.f).bind fun t141 => (if x5_2 < (t141.length : Int) then (if x4_2.size + (rdOf ByteArray.empty t141 x5_2).size ≤ 9223372036854775807 then (spec_RuleText.l0 k2 (x4_2 ++ (rdOf ByteArray.empty t141 x5_2)) (wrap64 (x5_2 + 1)) a0_0 a0_1 a0_2 a0_3 a0_4 a0_5) else (none)) else (none))) else (spec_RuleText.l0 k2 x4_2 (wrap64 (x5_2 + 1)) a0_0 a0_1 a0_2 a0_3 a0_4 a0_5)) else (none)) else (none)) = some (r1,r2):=H
       have A11:=aMk A110
       clear A110
       by_cases c12 : 0 ≤ x5_2
       ·rw [if_pos c12] at H
        have c12b0 : decide (0 ≤ x5_2) = true:=decide_eq_true c12
        clear c12
        by_cases c13 : x5_2 < (t137.length : Int)
        ·rw [if_pos c13] at H
         have c13b0 : decide (x5_2 < (t137.length : Int)) = true:=decide_eq_true c13
         clear c13
         by_cases c14 : (rd t137 x5_2) = a0_0
         ·rw [if_pos c14] at H
          have c14b0 : ((rd t137 x5_2) == a0_0) = true:=beq_iff_eq.mpr c14
          have c14b1 : ((rd t137 x5_2) != a0_0) = false:=bne_eq_false_iff_eq.mpr c14
          clear c14
          replace H:=Option.bind_eq_some_iff.mp H
          obtain ⟨t141,A150,H⟩:=H
          replace H : (if x5_2 < (t141.length : Int) then (if x4_2.size + (rdOf ByteArray.empty t141 x5_2).size ≤ 9223372036854775807 then (spec_RuleText.l0 k2 (x4_2 ++ (rdOf ByteArray.empty t141 x5_2)) (wrap64 (x5_2 + 1)) a0_0 a0_1 a0_2 a0_3 a0_4 a0_5) else (none)) else (none)) = some (r1,r2):=H
          have A15:=aMk A150
          clear A150
          by_cases c16 : x5_2 < (t141.length : Int)
          ·rw [if_pos c16] at H
           have c16b0 : decide (x5_2 < (t141.length : Int)) = true:=decide_eq_true c16
           clear c16
           by_cases c17 : x4_2.size + (rdOf ByteArray.empty t141 x5_2).size ≤ 9223372036854775807
           ·rw [if_pos c17] at H
            have c17b0:=eq_true c17
            have c17b1 : decide (x4_2.size + (rdOf ByteArray.empty t141 x5_2).size ≤ 9223372036854775807) = true:=decide_eq_true c17
            try have c17b2 : (9223372036854775807 < x4_2.size + (rdOf ByteArray.empty t141 x5_2).size) = False:=eq_false (Nat.not_lt.2 c17)
            have H':=aMk H
            clear H
            try go_wp2
            have n0_:=aMk (bDr BK135.out)
            have n1_:=aMk (bw1 HB.out)
            clear BK135
            clear HB
            have BK135:=n0_
            have HB:=n1_
            clear n0_ n1_
            refine start_ (n:=7) (S:=fun w' => w'.cell? ⟨gb135,0,none⟩ = some (.int .i64 a0_0) ∧ w'.cell? ⟨gb135,1,none⟩ = some (.int .i64 a0_1) ∧ w'.cell? ⟨gb135,2,none⟩ = some (.int .i64 a0_2) ∧ w'.cell? ⟨gb135,3,none⟩ = some (.int .i64 a0_3) ∧ w'.cell? ⟨gb135,4,none⟩ = some (.int .i64 a0_4) ∧ w'.cell? ⟨gb135,5,none⟩ = some (.bool a0_5)) (ds:=[]) #[false,false,false,false,false,false,false] (by kernel_rfl) rfl rfl ⟨(bCe BK135.out 0).trans rfl,(bCe BK135.out 1).trans rfl,(bCe BK135.out 2).trans rfl,(bCe BK135.out 3).trans rfl,(bCe BK135.out 4).trans rfl,(bCe BK135.out 5).trans rfl⟩ (fun hHeld => ?_)
            generalize wr.drew = w18 at BK135 HB hHeld ⊢
            refine pure_ (i:=1) (N:=some 16) (v:=?_) (a':=?_) #[false,true,false,false,false,false,false] rfl rfl (by kernel_rfl) (fun _ _ _ h => h) (Or.inl ⟨by rfl,?_⟩) ?_ ?_
            rotate_left
            ·intro w'
             go_simp
             with_reducible rfl
            rotate_left
            ·simp only [Act.put,List.setIfInBounds_toArray,List.set_cons_zero,List.set_cons_succ,i64_w,i32_w]
             rfl
            refine pure_ (i:=4) (N:=some 19) (v:=?_) (a':=?_) #[false,true,false,false,true,false,false] rfl rfl (by kernel_rfl) (fun _ _ _ h => h) (Or.inl ⟨by rfl,?_⟩) ?_ ?_
            rotate_left
            ·intro w'
             go_simp
             with_reducible rfl
            rotate_left
            ·simp only [Act.put,List.setIfInBounds_toArray,List.set_cons_zero,List.set_cons_succ,i64_w,i32_w]
             rfl
            refine take_ (i:=5) (N:=some 20) (v:=?_) (a':=?_) #[false,true,false,false,true,true,false] rfl rfl (by kernel_rfl) (fun _ _ _ h => h) (Or.inl ⟨by rfl,?_⟩) hHeld ?_ ?_
            rotate_left
            ·rintro w' ⟨s0,s1,s2,s3,s4,s5⟩
             go_simp
             with_reducible rfl
            rotate_left
            ·simp only [Act.put,List.setIfInBounds_toArray,List.set_cons_zero,List.set_cons_succ,i64_w,i32_w]
             rfl
            refine one_ (i:=0) (N:=some 15) #[true,true,false,false,true,true,false] rfl rfl (by kernel_rfl) (by decide) (fun K hK => ?_)
            refine goes_ Tryd.func12 (by kernel_rfl) rfl #[] (by rfl) rfl rfl (by (try simp only [List.map_toArray,List.map_cons,List.map_nil]);first | done | rfl|(simp only [List.length_drop,List.length_take];rfl)) ?_
            with_reducible refine (spec_l07ProtoNumbers.calls  t137 _ A11.out).mono ?_
            rintro e w19 ⟨v138,rfl,ho0,hb⟩
            refine ⟨_,rfl,?_⟩
            have n0_:=aMk (Kd.R_lower ho0 (below_size (by repeat (first|(with_reducible first|exact HB.out|apply bwA|apply bwN|apply bw1|refine below_set ?_ GE135.out)|exact HB.out))))
            have n1_:=aMk (blk_below (g:=gb135) (o:=.cells #[.int .i64 a0_0,.int .i64 a0_1,.int .i64 a0_2,.int .i64 a0_3,.int .i64 a0_4,.bool a0_5] 33 (0,0)) (by (with_reducible repeat (first|refine bDn ?_ _|refine bDr ?_|refine bAl ?_ _));exact BK135.out) hb)
            have n2_:=aMk (below_step (by repeat (first|(with_reducible first|exact HB.out|apply bwA|apply bwN|apply bw1|refine below_set ?_ GE135.out)|exact HB.out)) hb)
            clear BK135
            clear HB
            have HO139:=n0_
            have BK135:=n1_
            have HB:=n2_
            clear n0_ n1_ n2_
            (try clear hb)
            (try clear hb2)
            (try clear hk)
            (try clear hi)
            (try clear ho0)
            obtain ⟨Ao20,co20,eo20⟩:=Kd.R_slice HO139.out
            (first|subst eo20|(injection eo20 with f1_ f2_ f3_;have f4_:=f1_.symm;have f5_:=f3_.symm;clear f1_ f2_ f3_;subst f4_;subst f5_))
            have p140 : 0 ≤ (x5_2 : Int):=of_decide_eq_true (by first|(with_reducible assumption) | assumption)
            have q140 : x5_2 < (t137.length : Int):=of_decide_eq_true (by first|(with_reducible assumption) | assumption)
            obtain ⟨ad140,e140,hx140_0⟩:=Kd.at_int (Kd.R_reads' HO139.out).2.2 x5_2 p140 q140
            cases e140
            replace p140:=eq_true p140
            replace q140:=eq_true q140
            refine hK.out _ _ ⟨(bCe BK135.out 0).trans rfl,(bCe BK135.out 1).trans rfl,(bCe BK135.out 2).trans rfl,(bCe BK135.out 3).trans rfl,(bCe BK135.out 4).trans rfl,(bCe BK135.out 5).trans rfl⟩ (fun hHeld => ?_)
            clear hK K
            obtain ⟨s0,s1,s2,s3,s4,s5⟩:=hHeld
            refine fix_ ?_
            refine norm_ (a':=?_) ?_ ?_
            rotate_left
            ·show Act.put _ (some 15) _ = _
             simp only [Act.put,List.setIfInBounds_toArray,List.set_cons_zero,List.set_cons_succ,i64_w,i32_w]
             rfl
            refine pure_ (i:=2) (N:=some 17) (v:=?_) (a':=?_) #[true,true,true,false,true,true,false] rfl rfl (by kernel_rfl) (fun _ _ _ h => h) (Or.inl ⟨by rfl,?_⟩) ?_ ?_
            rotate_left
            ·intro w'
             go_simp
             with_reducible rfl
            rotate_left
            ·simp only [Act.put,List.setIfInBounds_toArray,List.set_cons_zero,List.set_cons_succ,i64_w,i32_w]
             rfl
            refine take_ (i:=3) (N:=some 18) (v:=?_) (a':=?_) #[true,true,true,true,true,true,false] rfl rfl (by kernel_rfl) (fun _ _ _ h => h) (Or.inl ⟨by rfl,?_⟩) rfl ?_ ?_
            rotate_left
            ·rintro w' rfl
             go_simp
             with_reducible rfl
            rotate_left
            ·simp only [Act.put,List.setIfInBounds_toArray,List.set_cons_zero,List.set_cons_succ,i64_w,i32_w]
             rfl
            refine pure_ (i:=6) (N:=some 21) (v:=?_) (a':=?_) #[true,true,true,true,true,true,true] rfl rfl (by kernel_rfl) (fun _ _ _ h => h) (Or.inl ⟨by rfl,?_⟩) ?_ ?_
            rotate_left
            ·intro w'
             go_simp
             with_reducible rfl
            rotate_left
            ·simp only [Act.put,List.setIfInBounds_toArray,List.set_cons_zero,List.set_cons_succ,i64_w,i32_w]
             rfl
            refine done_ (by kernel_rfl) ?_
            try go_wp2_with (first|((with_reducible refine gate_callee (f:=13) rfl ?_);refine goesL_ (some 23) rfl rfl Tryd.func13 (by kernel_rfl) rfl #[] rfl (by (try simp only [List.map_toArray,List.map_cons,List.map_nil]);first | done | rfl|(simp only [List.length_drop,List.length_take];rfl)) ?_;(with_reducible refine (spec_l07Protos.calls  t141 _ A15.out).mono ?_);rintro e w21 ⟨v142,rfl,ho0,hb⟩;refine ⟨_,rfl,?_⟩;have n0_:=aMk (Kd.R_below (by (with_reducible repeat (first|apply Kd.R_alloc|apply Kd.R_drewN|apply Kd.R_drew));exact HO139.out) hb);have n1_:=aMk (Kd.R_lower ho0 (below_size (by repeat (first|(with_reducible first|exact HB.out|apply bwA|apply bwN|apply bw1|refine below_set ?_ GE135.out)|exact HB.out))));have n2_:=aMk (blk_below (g:=gb135) (o:=.cells #[.int .i64 a0_0,.int .i64 a0_1,.int .i64 a0_2,.int .i64 a0_3,.int .i64 a0_4,.bool a0_5] 33 (0,0)) (by (with_reducible repeat (first|refine bDn ?_ _|refine bDr ?_|refine bAl ?_ _));exact BK135.out) hb);have n3_:=aMk (below_step (by repeat (first|(with_reducible first|exact HB.out|apply bwA|apply bwN|apply bw1|refine below_set ?_ GE135.out)|exact HB.out)) hb);clear HO139;clear BK135;clear HB;have HO139:=n0_;have HO143:=n1_;have BK135:=n2_;have HB:=n3_;clear n0_ n1_ n2_ n3_;(try clear hb);(try clear hb2);(try clear hk);(try clear hi);(try clear ho0);obtain ⟨Ao22,co22,eo22⟩:=Kd.R_slice HO143.out;subst eo22;have p144 : 0 ≤ (x5_2 : Int):=of_decide_eq_true (by first|(with_reducible assumption) | assumption);have q144 : x5_2 < (t141.length : Int):=of_decide_eq_true (by first|(with_reducible assumption) | assumption);obtain ⟨ad144,e144,hx144_0⟩:=Kd.at_string (Kd.R_reads' HO143.out).2.2 x5_2 p144 q144;cases e144;replace p144:=eq_true p144;replace q144:=eq_true q144))
            go_roundg k2
            case measure => have:=HJ3.out;have:=HK2.out;omega
            case rel => exact ⟨(x4_2 ++ (rdOf ByteArray.empty t141 x5_2)),(wrap64 (x5_2 + 1)),(by first | rfl|(simp;done)|(simp [*];done)|(simp [ne_nil_b];done)|(simp [ne_nil_b, *];done)),(by first | rfl|(simp;done)|(simp [*];done)|(simp [ne_nil_b];done)|(simp [ne_nil_b, *];done)),H',⟨by have:=HJ3.out;have:=HK2.out;omega⟩,⟨by (with_reducible repeat (first|refine bDn ?_ _|refine bDr ?_|refine bAl ?_ _));exact BK135.out⟩,⟨by repeat (first|(with_reducible first|exact HB.out|apply bwA|apply bwN|apply bw1|refine below_set ?_ GE135.out)|exact HB.out)⟩⟩
           ·rw [if_neg c17] at H
            exact absurd H (by simp)
          ·rw [if_neg c16] at H
           exact absurd H (by simp)
         ·rw [if_neg c14] at H
          have c14b0 : ((rd t137 x5_2) == a0_0) = false:=beq_eq_false_iff_ne.mpr c14
          have c14b1 : ((rd t137 x5_2) != a0_0) = true:=bne_iff_ne.mpr c14
          have H':=aMk H
          clear H
          try go_wp2
          have n0_:=aMk (bDr BK135.out)
          have n1_:=aMk (bw1 HB.out)
          clear BK135
          clear HB
          have BK135:=n0_
          have HB:=n1_
          clear n0_ n1_
          refine start_ (n:=7) (S:=fun w' => w'.cell? ⟨gb135,0,none⟩ = some (.int .i64 a0_0) ∧ w'.cell? ⟨gb135,1,none⟩ = some (.int .i64 a0_1) ∧ w'.cell? ⟨gb135,2,none⟩ = some (.int .i64 a0_2) ∧ w'.cell? ⟨gb135,3,none⟩ = some (.int .i64 a0_3) ∧ w'.cell? ⟨gb135,4,none⟩ = some (.int .i64 a0_4) ∧ w'.cell? ⟨gb135,5,none⟩ = some (.bool a0_5)) (ds:=[]) #[false,false,false,false,false,false,false] (by kernel_rfl) rfl rfl ⟨(bCe BK135.out 0).trans rfl,(bCe BK135.out 1).trans rfl,(bCe BK135.out 2).trans rfl,(bCe BK135.out 3).trans rfl,(bCe BK135.out 4).trans rfl,(bCe BK135.out 5).trans rfl⟩ (fun hHeld => ?_)
          generalize wr.drew = w23 at BK135 HB hHeld ⊢
          refine pure_ (i:=1) (N:=some 16) (v:=?_) (a':=?_) #[false,true,false,false,false,false,false] rfl rfl (by kernel_rfl) (fun _ _ _ h => h) (Or.inl ⟨by rfl,?_⟩) ?_ ?_
          rotate_left
          ·intro w'
           go_simp
           with_reducible rfl
          rotate_left
          ·simp only [Act.put,List.setIfInBounds_toArray,List.set_cons_zero,List.set_cons_succ,i64_w,i32_w]
           rfl
          refine pure_ (i:=4) (N:=some 19) (v:=?_) (a':=?_) #[false,true,false,false,true,false,false] rfl rfl (by kernel_rfl) (fun _ _ _ h => h) (Or.inl ⟨by rfl,?_⟩) ?_ ?_
          rotate_left
          ·intro w'
           go_simp
           with_reducible rfl
          rotate_left
          ·simp only [Act.put,List.setIfInBounds_toArray,List.set_cons_zero,List.set_cons_succ,i64_w,i32_w]
           rfl
          refine take_ (i:=5) (N:=some 20) (v:=?_) (a':=?_) #[false,true,false,false,true,true,false] rfl rfl (by kernel_rfl) (fun _ _ _ h => h) (Or.inl ⟨by rfl,?_⟩) hHeld ?_ ?_
          rotate_left
          ·rintro w' ⟨s0,s1,s2,s3,s4,s5⟩
           go_simp
           with_reducible rfl
          rotate_left
          ·simp only [Act.put,List.setIfInBounds_toArray,List.set_cons_zero,List.set_cons_succ,i64_w,i32_w]
           rfl
          refine one_ (i:=0) (N:=some 15) #[true,true,false,false,true,true,false] rfl rfl (by kernel_rfl) (by decide) (fun K hK => ?_)
          refine goes_ Tryd.func12 (by kernel_rfl) rfl #[] (by rfl) rfl rfl (by (try simp only [List.map_toArray,List.map_cons,List.map_nil]);first | done | rfl|(simp only [List.length_drop,List.length_take];rfl)) ?_
          with_reducible refine (spec_l07ProtoNumbers.calls  t137 _ A11.out).mono ?_
          rintro e w24 ⟨v138,rfl,ho0,hb⟩
          refine ⟨_,rfl,?_⟩
          have n0_:=aMk (Kd.R_lower ho0 (below_size (by repeat (first|(with_reducible first|exact HB.out|apply bwA|apply bwN|apply bw1|refine below_set ?_ GE135.out)|exact HB.out))))
          have n1_:=aMk (blk_below (g:=gb135) (o:=.cells #[.int .i64 a0_0,.int .i64 a0_1,.int .i64 a0_2,.int .i64 a0_3,.int .i64 a0_4,.bool a0_5] 33 (0,0)) (by (with_reducible repeat (first|refine bDn ?_ _|refine bDr ?_|refine bAl ?_ _));exact BK135.out) hb)
          have n2_:=aMk (below_step (by repeat (first|(with_reducible first|exact HB.out|apply bwA|apply bwN|apply bw1|refine below_set ?_ GE135.out)|exact HB.out)) hb)
          clear BK135
          clear HB
          have HO139:=n0_
          have BK135:=n1_
          have HB:=n2_
          clear n0_ n1_ n2_
          (try clear hb)
          (try clear hb2)
          (try clear hk)
          (try clear hi)
          (try clear ho0)
          obtain ⟨Ao25,co25,eo25⟩:=Kd.R_slice HO139.out
          (first|subst eo25|(injection eo25 with f1_ f2_ f3_;have f4_:=f1_.symm;have f5_:=f3_.symm;clear f1_ f2_ f3_;subst f4_;subst f5_))
          have p140 : 0 ≤ (x5_2 : Int):=of_decide_eq_true (by first|(with_reducible assumption) | assumption)
          have q140 : x5_2 < (t137.length : Int):=of_decide_eq_true (by first|(with_reducible assumption) | assumption)
          obtain ⟨ad140,e140,hx140_0⟩:=Kd.at_int (Kd.R_reads' HO139.out).2.2 x5_2 p140 q140
          cases e140
          replace p140:=eq_true p140
          replace q140:=eq_true q140
          refine hK.out _ _ ⟨(bCe BK135.out 0).trans rfl,(bCe BK135.out 1).trans rfl,(bCe BK135.out 2).trans rfl,(bCe BK135.out 3).trans rfl,(bCe BK135.out 4).trans rfl,(bCe BK135.out 5).trans rfl⟩ (fun hHeld => ?_)
          clear hK K
          obtain ⟨s0,s1,s2,s3,s4,s5⟩:=hHeld
          refine fix_ ?_
          refine norm_ (a':=?_) ?_ ?_
          rotate_left
          ·show Act.put _ (some 15) _ = _
           simp only [Act.put,List.setIfInBounds_toArray,List.set_cons_zero,List.set_cons_succ,i64_w,i32_w]
           rfl
          refine pure_ (i:=2) (N:=some 17) (v:=?_) (a':=?_) #[true,true,true,false,true,true,false] rfl rfl (by kernel_rfl) (fun _ _ _ h => h) (Or.inl ⟨by rfl,?_⟩) ?_ ?_
          rotate_left
          ·intro w'
           go_simp
           with_reducible rfl
          rotate_left
          ·simp only [Act.put,List.setIfInBounds_toArray,List.set_cons_zero,List.set_cons_succ,i64_w,i32_w]
           rfl
          refine take_ (i:=3) (N:=some 18) (v:=?_) (a':=?_) #[true,true,true,true,true,true,false] rfl rfl (by kernel_rfl) (fun _ _ _ h => h) (Or.inl ⟨by rfl,?_⟩) rfl ?_ ?_
          rotate_left
          ·rintro w' rfl
           go_simp
           with_reducible rfl
          rotate_left
          ·simp only [Act.put,List.setIfInBounds_toArray,List.set_cons_zero,List.set_cons_succ,i64_w,i32_w]
           rfl
          refine pure_ (i:=6) (N:=some 21) (v:=?_) (a':=?_) #[true,true,true,true,true,true,true] rfl rfl (by kernel_rfl) (fun _ _ _ h => h) (Or.inl ⟨by rfl,?_⟩) ?_ ?_
          rotate_left
          ·intro w'
           go_simp
           with_reducible rfl
          rotate_left
          ·simp only [Act.put,List.setIfInBounds_toArray,List.set_cons_zero,List.set_cons_succ,i64_w,i32_w]
           rfl
          refine done_ (by kernel_rfl) ?_
          try go_wp2
          go_roundg k2
          case measure => have:=HJ3.out;have:=HK2.out;omega
          case rel => exact ⟨(x4_2),(wrap64 (x5_2 + 1)),(by first | rfl|(simp;done)|(simp [*];done)|(simp [ne_nil_b];done)|(simp [ne_nil_b, *];done)),(by first | rfl|(simp;done)|(simp [*];done)|(simp [ne_nil_b];done)|(simp [ne_nil_b, *];done)),H',⟨by have:=HJ3.out;have:=HK2.out;omega⟩,⟨by (with_reducible repeat (first|refine bDn ?_ _|refine bDr ?_|refine bAl ?_ _));exact BK135.out⟩,⟨by repeat (first|(with_reducible first|exact HB.out|apply bwA|apply bwN|apply bw1|refine below_set ?_ GE135.out)|exact HB.out)⟩⟩
        ·rw [if_neg c13] at H
         exact absurd H (by simp)
       ·rw [if_neg c12] at H
        exact absurd H (by simp)
      ·rw [if_neg c10] at H
       have c10b0 : decide (x5_2 < 4) = false:=decide_eq_false c10
       clear c10
       by_cases c26 : x4_2.size + 1 ≤ 9223372036854775807
       ·rw [if_pos c26] at H
        have c26b0:=eq_true c26
        have c26b1 : decide (x4_2.size + 1 ≤ 9223372036854775807) = true:=decide_eq_true c26
        try have c26b2 : (9223372036854775807 < x4_2.size + 1) = False:=eq_false (Nat.not_lt.2 c26)
        replace H:=Option.bind_eq_some_iff.mp H
        obtain ⟨t145,A270,H⟩:=H
        replace H : (if (x4_2 ++ (⟨#[32]⟩ : ByteArray)).size + t145.size ≤ 9223372036854775807 then (if ((x4_2 ++ (⟨#[32]⟩ : ByteArray)) ++ t145).size + 1 ≤ 9223372036854775807 then ((spec_l00Digits.f k2 a0_2).bind fun t146 => (if (((x4_2 ++ (⟨#[32]⟩ : ByteArray)) ++ t145) ++ (⟨#[47]⟩ : ByteArray)).size + t146.size ≤ 9223372036854775807 then (if ((((x4_2 ++ (⟨#[32]⟩ : ByteArray)) ++ t145) ++ (⟨#[47]⟩ : ByteArray)) ++ t146).size + 1 ≤ 9223372036854775807 then ((spec_l00Digits.f k2 a0_3).bind fun t147 => (if (((((x4_2 ++ (⟨#[32]⟩ : ByteArray)) ++ t145) ++ (⟨#[47]⟩ : ByteArray)) ++ t146) ++ (⟨#[32]⟩ : ByteArray)).size + t147.size ≤ 9223372036854775807 then (if ((((((x4_2 ++ (⟨#[32]⟩ : ByteArray)) ++ t145) ++ (⟨#[47]⟩ : ByteArray)) ++ t146) ++ (⟨#[32]⟩ : ByteArray)) ++ t147).size + 1 ≤ 9223372036854775807 then ((spec_l00Digits.f k2 a0_4).bind fun t148 => (if (((((((x4_2 ++ (⟨#[32]⟩ : ByteArray)) ++ t145) ++ (⟨#[47]⟩ : ByteArray)) ++ t146) ++ (⟨#[32]⟩ : ByteArray)) ++ t147) ++ (⟨#[32]⟩ : ByteArray)).size + t148.size ≤ 9223372036854775807 then (some ((((((((x4_2 ++ (⟨#[32]⟩ : ByteArray)) ++ t145) ++ (⟨#[47]⟩ : ByteArray)) ++ t146) ++ (⟨#[32]⟩ : ByteArray)) ++ t147) ++ (⟨#[32]⟩ : ByteArray)) ++ t148,0)) else (none))) else (none)) else (none))) else (none)) else (none))) else (none)) else (none)) = some (r1,r2):=H
        have A27:=aMk A270
        clear A270
        by_cases c28 : (x4_2 ++ (⟨#[32]⟩ : ByteArray)).size + t145.size ≤ 9223372036854775807
        ·rw [if_pos c28] at H
         have c28b0:=eq_true c28
         have c28b1 : decide ((x4_2 ++ (⟨#[32]⟩ : ByteArray)).size + t145.size ≤ 9223372036854775807) = true:=decide_eq_true c28
         try have c28b2 : (9223372036854775807 < (x4_2 ++ (⟨#[32]⟩ : ByteArray)).size + t145.size) = False:=eq_false (Nat.not_lt.2 c28)
         try have c28b3 : (9223372036854775807 < x4_2.size + 1 + t145.size) = False:=by rw [← show (x4_2 ++ (⟨#[32]⟩ : ByteArray)).size = x4_2.size + 1 from by (simp only [ByteArray.size_append];rfl)];exact c28b2
         by_cases c29 : ((x4_2 ++ (⟨#[32]⟩ : ByteArray)) ++ t145).size + 1 ≤ 9223372036854775807
         ·rw [if_pos c29] at H
          have c29b0:=eq_true c29
          have c29b1 : decide (((x4_2 ++ (⟨#[32]⟩ : ByteArray)) ++ t145).size + 1 ≤ 9223372036854775807) = true:=decide_eq_true c29
          try have c29b2 : (9223372036854775807 < ((x4_2 ++ (⟨#[32]⟩ : ByteArray)) ++ t145).size + 1) = False:=eq_false (Nat.not_lt.2 c29)
          try have c29b3 : (9223372036854775807 < x4_2.size + 1 + t145.size + 1) = False:=by rw [← show ((x4_2 ++ (⟨#[32]⟩ : ByteArray)) ++ t145).size = x4_2.size + 1 + t145.size from by (simp only [ByteArray.size_append];rfl)];exact c29b2
          replace H:=Option.bind_eq_some_iff.mp H
          obtain ⟨t146,A300,H⟩:=H
          replace H : (if (((x4_2 ++ (⟨#[32]⟩ : ByteArray)) ++ t145) ++ (⟨#[47]⟩ : ByteArray)).size + t146.size ≤ 9223372036854775807 then (if ((((x4_2 ++ (⟨#[32]⟩ : ByteArray)) ++ t145) ++ (⟨#[47]⟩ : ByteArray)) ++ t146).size + 1 ≤ 9223372036854775807 then ((spec_l00Digits.f k2 a0_3).bind fun t147 => (if (((((x4_2 ++ (⟨#[32]⟩ : ByteArray)) ++ t145) ++ (⟨#[47]⟩ : ByteArray)) ++ t146) ++ (⟨#[32]⟩ : ByteArray)).size + t147.size ≤ 9223372036854775807 then (if ((((((x4_2 ++ (⟨#[32]⟩ : ByteArray)) ++ t145) ++ (⟨#[47]⟩ : ByteArray)) ++ t146) ++ (⟨#[32]⟩ : ByteArray)) ++ t147).size + 1 ≤ 9223372036854775807 then ((spec_l00Digits.f k2 a0_4).bind fun t148 => (if (((((((x4_2 ++ (⟨#[32]⟩ : ByteArray)) ++ t145) ++ (⟨#[47]⟩ : ByteArray)) ++ t146) ++ (⟨#[32]⟩ : ByteArray)) ++ t147) ++ (⟨#[32]⟩ : ByteArray)).size + t148.size ≤ 9223372036854775807 then (some ((((((((x4_2 ++ (⟨#[32]⟩ : ByteArray)) ++ t145) ++ (⟨#[47]⟩ : ByteArray)) ++ t146) ++ (⟨#[32]⟩ : ByteArray)) ++ t147) ++ (⟨#[32]⟩ : ByteArray)) ++ t148,0)) else (none))) else (none)) else (none))) else (none)) else (none)) = some (r1,r2):=H
          have A30:=aMk A300
          clear A300
          by_cases c31 : (((x4_2 ++ (⟨#[32]⟩ : ByteArray)) ++ t145) ++ (⟨#[47]⟩ : ByteArray)).size + t146.size ≤ 9223372036854775807
          ·rw [if_pos c31] at H
           have c31b0:=eq_true c31
           have c31b1 : decide ((((x4_2 ++ (⟨#[32]⟩ : ByteArray)) ++ t145) ++ (⟨#[47]⟩ : ByteArray)).size + t146.size ≤ 9223372036854775807) = true:=decide_eq_true c31
           try have c31b2 : (9223372036854775807 < (((x4_2 ++ (⟨#[32]⟩ : ByteArray)) ++ t145) ++ (⟨#[47]⟩ : ByteArray)).size + t146.size) = False:=eq_false (Nat.not_lt.2 c31)
           try have c31b3 : (9223372036854775807 < x4_2.size + 1 + t145.size + 1 + t146.size) = False:=by rw [← show (((x4_2 ++ (⟨#[32]⟩ : ByteArray)) ++ t145) ++ (⟨#[47]⟩ : ByteArray)).size = x4_2.size + 1 + t145.size + 1 from by (simp only [ByteArray.size_append];rfl)];exact c31b2
           by_cases c32 : ((((x4_2 ++ (⟨#[32]⟩ : ByteArray)) ++ t145) ++ (⟨#[47]⟩ : ByteArray)) ++ t146).size + 1 ≤ 9223372036854775807
           ·rw [if_pos c32] at H
            have c32b0:=eq_true c32
            have c32b1 : decide (((((x4_2 ++ (⟨#[32]⟩ : ByteArray)) ++ t145) ++ (⟨#[47]⟩ : ByteArray)) ++ t146).size + 1 ≤ 9223372036854775807) = true:=decide_eq_true c32
            try have c32b2 : (9223372036854775807 < ((((x4_2 ++ (⟨#[32]⟩ : ByteArray)) ++ t145) ++ (⟨#[47]⟩ : ByteArray)) ++ t146).size + 1) = False:=eq_false (Nat.not_lt.2 c32)
            try have c32b3 : (9223372036854775807 < x4_2.size + 1 + t145.size + 1 + t146.size + 1) = False:=by rw [← show ((((x4_2 ++ (⟨#[32]⟩ : ByteArray)) ++ t145) ++ (⟨#[47]⟩ : ByteArray)) ++ t146).size = x4_2.size + 1 + t145.size + 1 + t146.size from by (simp only [ByteArray.size_append];rfl)];exact c32b2
            replace H:=Option.bind_eq_some_iff.mp H
            obtain ⟨t147,A330,H⟩:=H
            replace H : (if (((((x4_2 ++ (⟨#[32]⟩ : ByteArray)) ++ t145) ++ (⟨#[47]⟩ : ByteArray)) ++ t146) ++ (⟨#[32]⟩ : ByteArray)).size + t147.size ≤ 9223372036854775807 then (if ((((((x4_2 ++ (⟨#[32]⟩ : ByteArray)) ++ t145) ++ (⟨#[47]⟩ : ByteArray)) ++ t146) ++ (⟨#[32]⟩ : ByteArray)) ++ t147).size + 1 ≤ 9223372036854775807 then ((spec_l00Digits.f k2 a0_4).bind fun t148 => (if (((((((x4_2 ++ (⟨#[32]⟩ : ByteArray)) ++ t145) ++ (⟨#[47]⟩ : ByteArray)) ++ t146) ++ (⟨#[32]⟩ : ByteArray)) ++ t147) ++ (⟨#[32]⟩ : ByteArray)).size + t148.size ≤ 9223372036854775807 then (some ((((((((x4_2 ++ (⟨#[32]⟩ : ByteArray)) ++ t145) ++ (⟨#[47]⟩ : ByteArray)) ++ t146) ++ (⟨#[32]⟩ : ByteArray)) ++ t147) ++ (⟨#[32]⟩ : ByteArray)) ++ t148,0)) else (none))) else (none)) else (none)) = some (r1,r2):=H
            have A33:=aMk A330
            clear A330
            by_cases c34 : (((((x4_2 ++ (⟨#[32]⟩ : ByteArray)) ++ t145) ++ (⟨#[47]⟩ : ByteArray)) ++ t146) ++ (⟨#[32]⟩ : ByteArray)).size + t147.size ≤ 9223372036854775807
            ·rw [if_pos c34] at H
             have c34b0:=eq_true c34
             have c34b1 : decide ((((((x4_2 ++ (⟨#[32]⟩ : ByteArray)) ++ t145) ++ (⟨#[47]⟩ : ByteArray)) ++ t146) ++ (⟨#[32]⟩ : ByteArray)).size + t147.size ≤ 9223372036854775807) = true:=decide_eq_true c34
             try have c34b2 : (9223372036854775807 < (((((x4_2 ++ (⟨#[32]⟩ : ByteArray)) ++ t145) ++ (⟨#[47]⟩ : ByteArray)) ++ t146) ++ (⟨#[32]⟩ : ByteArray)).size + t147.size) = False:=eq_false (Nat.not_lt.2 c34)
             try have c34b3 : (9223372036854775807 < x4_2.size + 1 + t145.size + 1 + t146.size + 1 + t147.size) = False:=by rw [← show (((((x4_2 ++ (⟨#[32]⟩ : ByteArray)) ++ t145) ++ (⟨#[47]⟩ : ByteArray)) ++ t146) ++ (⟨#[32]⟩ : ByteArray)).size = x4_2.size + 1 + t145.size + 1 + t146.size + 1 from by (simp only [ByteArray.size_append];rfl)];exact c34b2
             by_cases c35 : ((((((x4_2 ++ (⟨#[32]⟩ : ByteArray)) ++ t145) ++ (⟨#[47]⟩ : ByteArray)) ++ t146) ++ (⟨#[32]⟩ : ByteArray)) ++ t147).size + 1 ≤ 9223372036854775807
             ·rw [if_pos c35] at H
              have c35b0:=eq_true c35
              have c35b1 : decide (((((((x4_2 ++ (⟨#[32]⟩ : ByteArray)) ++ t145) ++ (⟨#[47]⟩ : ByteArray)) ++ t146) ++ (⟨#[32]⟩ : ByteArray)) ++ t147).size + 1 ≤ 9223372036854775807) = true:=decide_eq_true c35
              try have c35b2 : (9223372036854775807 < ((((((x4_2 ++ (⟨#[32]⟩ : ByteArray)) ++ t145) ++ (⟨#[47]⟩ : ByteArray)) ++ t146) ++ (⟨#[32]⟩ : ByteArray)) ++ t147).size + 1) = False:=eq_false (Nat.not_lt.2 c35)
              try have c35b3 : (9223372036854775807 < x4_2.size + 1 + t145.size + 1 + t146.size + 1 + t147.size + 1) = False:=by rw [← show ((((((x4_2 ++ (⟨#[32]⟩ : ByteArray)) ++ t145) ++ (⟨#[47]⟩ : ByteArray)) ++ t146) ++ (⟨#[32]⟩ : ByteArray)) ++ t147).size = x4_2.size + 1 + t145.size + 1 + t146.size + 1 + t147.size from by (simp only [ByteArray.size_append];rfl)];exact c35b2
              replace H:=Option.bind_eq_some_iff.mp H
              obtain ⟨t148,A360,H⟩:=H
              replace H : (if (((((((x4_2 ++ (⟨#[32]⟩ : ByteArray)) ++ t145) ++ (⟨#[47]⟩ : ByteArray)) ++ t146) ++ (⟨#[32]⟩ : ByteArray)) ++ t147) ++ (⟨#[32]⟩ : ByteArray)).size + t148.size ≤ 9223372036854775807 then (some ((((((((x4_2 ++ (⟨#[32]⟩ : ByteArray)) ++ t145) ++ (⟨#[47]⟩ : ByteArray)) ++ t146) ++ (⟨#[32]⟩ : ByteArray)) ++ t147) ++ (⟨#[32]⟩ : ByteArray)) ++ t148,0)) else (none)) = some (r1,r2):=H
              have A36:=aMk A360
              clear A360
              by_cases c37 : (((((((x4_2 ++ (⟨#[32]⟩ : ByteArray)) ++ t145) ++ (⟨#[47]⟩ : ByteArray)) ++ t146) ++ (⟨#[32]⟩ : ByteArray)) ++ t147) ++ (⟨#[32]⟩ : ByteArray)).size + t148.size ≤ 9223372036854775807
              ·rw [if_pos c37] at H
               have c37b0:=eq_true c37
               have c37b1 : decide ((((((((x4_2 ++ (⟨#[32]⟩ : ByteArray)) ++ t145) ++ (⟨#[47]⟩ : ByteArray)) ++ t146) ++ (⟨#[32]⟩ : ByteArray)) ++ t147) ++ (⟨#[32]⟩ : ByteArray)).size + t148.size ≤ 9223372036854775807) = true:=decide_eq_true c37
               try have c37b2 : (9223372036854775807 < (((((((x4_2 ++ (⟨#[32]⟩ : ByteArray)) ++ t145) ++ (⟨#[47]⟩ : ByteArray)) ++ t146) ++ (⟨#[32]⟩ : ByteArray)) ++ t147) ++ (⟨#[32]⟩ : ByteArray)).size + t148.size) = False:=eq_false (Nat.not_lt.2 c37)
               try have c37b3 : (9223372036854775807 < x4_2.size + 1 + t145.size + 1 + t146.size + 1 + t147.size + 1 + t148.size) = False:=by rw [← show (((((((x4_2 ++ (⟨#[32]⟩ : ByteArray)) ++ t145) ++ (⟨#[47]⟩ : ByteArray)) ++ t146) ++ (⟨#[32]⟩ : ByteArray)) ++ t147) ++ (⟨#[32]⟩ : ByteArray)).size = x4_2.size + 1 + t145.size + 1 + t146.size + 1 + t147.size + 1 from by (simp only [ByteArray.size_append];rfl)];exact c37b2
               simp only [Option.some.injEq,Prod.mk.injEq] at H
               obtain ⟨rfl,rfl⟩:=H
               try go_wp2
               have n0_:=aMk (bDr BK135.out)
               have n1_:=aMk (bw1 HB.out)
               clear BK135
               clear HB
               have BK135:=n0_
               have HB:=n1_
               clear n0_ n1_
               refine start_ (n:=27) (S:=fun w' => w'.cell? ⟨gb135,0,none⟩ = some (.int .i64 a0_0) ∧ w'.cell? ⟨gb135,1,none⟩ = some (.int .i64 a0_1) ∧ w'.cell? ⟨gb135,2,none⟩ = some (.int .i64 a0_2) ∧ w'.cell? ⟨gb135,3,none⟩ = some (.int .i64 a0_3) ∧ w'.cell? ⟨gb135,4,none⟩ = some (.int .i64 a0_4) ∧ w'.cell? ⟨gb135,5,none⟩ = some (.bool a0_5)) (ds:=[]) #[false,false,false,false,false,false,false,false,false,false,false,false,false,false,false,false,false,false,false,false,false,false,false,false,false,false,false] (by kernel_rfl) rfl rfl ⟨(bCe BK135.out 0).trans rfl,(bCe BK135.out 1).trans rfl,(bCe BK135.out 2).trans rfl,(bCe BK135.out 3).trans rfl,(bCe BK135.out 4).trans rfl,(bCe BK135.out 5).trans rfl⟩ (fun hHeld => ?_);refine with_tabW spec_RuleText.tab11 spec_RuleText.bits11 (fun HT_ HW_ => ?_)
               generalize wr.drew = w38 at BK135 HB hHeld ⊢
               refine pure_ (i:=0) (N:=some 28) (v:=?_) (a':=?_) #[true,false,false,false,false,false,false,false,false,false,false,false,false,false,false,false,false,false,false,false,false,false,false,false,false,false,false] rfl rfl (any_of HT_.out (by kernel_rfl)) (fun _ _ _ h => h) (Or.inl ⟨by rfl,?_⟩) ?_ ?_
               rotate_left
               ·intro w'
                go_simp
                with_reducible rfl
               rotate_left
               ·simp only [Act.put,List.setIfInBounds_toArray,List.set_cons_zero,List.set_cons_succ,i64_w,i32_w]
                rfl
               refine pure_ (i:=1) (N:=some 29) (v:=?_) (a':=?_) #[true,true,false,false,false,false,false,false,false,false,false,false,false,false,false,false,false,false,false,false,false,false,false,false,false,false,false] rfl rfl (any_of HT_.out (by kernel_rfl)) (fun _ _ _ h => h) (Or.inl ⟨by rfl,?_⟩) ?_ ?_
               rotate_left
               ·intro w'
                go_simp
                with_reducible rfl
               rotate_left
               ·simp only [Act.put,List.setIfInBounds_toArray,List.set_cons_zero,List.set_cons_succ,i64_w,i32_w]
                rfl
               refine pure_ (i:=2) (N:=some 30) (v:=?_) (a':=?_) #[true,true,true,false,false,false,false,false,false,false,false,false,false,false,false,false,false,false,false,false,false,false,false,false,false,false,false] rfl rfl (any_of HT_.out (by kernel_rfl)) (fun _ _ _ h => h) (Or.inl ⟨by rfl,?_⟩) ?_ ?_
               rotate_left
               ·intro w'
                go_simp
                with_reducible rfl
               rotate_left
               ·simp only [Act.put,List.setIfInBounds_toArray,List.set_cons_zero,List.set_cons_succ,i64_w,i32_w]
                rfl
               refine pure_ (i:=3) (N:=some 31) (v:=?_) (a':=?_) #[true,true,true,true,false,false,false,false,false,false,false,false,false,false,false,false,false,false,false,false,false,false,false,false,false,false,false] rfl rfl (any_of HT_.out (by kernel_rfl)) (fun _ _ _ h => h) (Or.inl ⟨by rfl,?_⟩) ?_ ?_
               rotate_left
               ·intro w'
                go_simp
                with_reducible rfl
               rotate_left
               ·simp only [Act.put,List.setIfInBounds_toArray,List.set_cons_zero,List.set_cons_succ,i64_w,i32_w]
                rfl
               refine pure_ (i:=8) (N:=some 36) (v:=?_) (a':=?_) #[true,true,true,true,false,false,false,false,true,false,false,false,false,false,false,false,false,false,false,false,false,false,false,false,false,false,false] rfl rfl (any_of HT_.out (by kernel_rfl)) (fun _ _ _ h => h) (Or.inl ⟨by rfl,?_⟩) ?_ ?_
               rotate_left
               ·intro w'
                go_simp
                with_reducible rfl
               rotate_left
               ·simp only [Act.put,List.setIfInBounds_toArray,List.set_cons_zero,List.set_cons_succ,i64_w,i32_w]
                rfl
               refine pure_ (i:=9) (N:=some 37) (v:=?_) (a':=?_) #[true,true,true,true,false,false,false,false,true,true,false,false,false,false,false,false,false,false,false,false,false,false,false,false,false,false,false] rfl rfl (any_of HT_.out (by kernel_rfl)) (fun _ _ _ h => h) (Or.inl ⟨by rfl,?_⟩) ?_ ?_
               rotate_left
               ·intro w'
                go_simp
                with_reducible rfl
               rotate_left
               ·simp only [Act.put,List.setIfInBounds_toArray,List.set_cons_zero,List.set_cons_succ,i64_w,i32_w]
                rfl
               refine pure_ (i:=14) (N:=some 42) (v:=?_) (a':=?_) #[true,true,true,true,false,false,false,false,true,true,false,false,false,false,true,false,false,false,false,false,false,false,false,false,false,false,false] rfl rfl (any_of HT_.out (by kernel_rfl)) (fun _ _ _ h => h) (Or.inl ⟨by rfl,?_⟩) ?_ ?_
               rotate_left
               ·intro w'
                go_simp
                with_reducible rfl
               rotate_left
               ·simp only [Act.put,List.setIfInBounds_toArray,List.set_cons_zero,List.set_cons_succ,i64_w,i32_w]
                rfl
               refine pure_ (i:=15) (N:=some 43) (v:=?_) (a':=?_) #[true,true,true,true,false,false,false,false,true,true,false,false,false,false,true,true,false,false,false,false,false,false,false,false,false,false,false] rfl rfl (any_of HT_.out (by kernel_rfl)) (fun _ _ _ h => h) (Or.inl ⟨by rfl,?_⟩) ?_ ?_
               rotate_left
               ·intro w'
                go_simp
                with_reducible rfl
               rotate_left
               ·simp only [Act.put,List.setIfInBounds_toArray,List.set_cons_zero,List.set_cons_succ,i64_w,i32_w]
                rfl
               refine pure_ (i:=20) (N:=some 48) (v:=?_) (a':=?_) #[true,true,true,true,false,false,false,false,true,true,false,false,false,false,true,true,false,false,false,false,true,false,false,false,false,false,false] rfl rfl (any_of HT_.out (by kernel_rfl)) (fun _ _ _ h => h) (Or.inl ⟨by rfl,?_⟩) ?_ ?_
               rotate_left
               ·intro w'
                go_simp
                with_reducible rfl
               rotate_left
               ·simp only [Act.put,List.setIfInBounds_toArray,List.set_cons_zero,List.set_cons_succ,i64_w,i32_w]
                rfl
               refine pure_ (i:=21) (N:=some 49) (v:=?_) (a':=?_) #[true,true,true,true,false,false,false,false,true,true,false,false,false,false,true,true,false,false,false,false,true,true,false,false,false,false,false] rfl rfl (any_of HT_.out (by kernel_rfl)) (fun _ _ _ h => h) (Or.inl ⟨by rfl,?_⟩) ?_ ?_
               rotate_left
               ·intro w'
                go_simp
                with_reducible rfl
               rotate_left
               ·simp only [Act.put,List.setIfInBounds_toArray,List.set_cons_zero,List.set_cons_succ,i64_w,i32_w]
                rfl
               refine take_ (i:=4) (N:=some 32) (v:=?_) (a':=?_) #[true,true,true,true,true,false,false,false,true,true,false,false,false,false,true,true,false,false,false,false,true,true,false,false,false,false,false] rfl rfl (take_ofW HT_.out HW_.out (by kernel_rfl)) (fun _ _ _ h => h) (Or.inl ⟨by rfl,?_⟩) hHeld ?_ ?_
               rotate_left
               ·rintro w' ⟨s0,s1,s2,s3,s4,s5⟩
                go_simp
                with_reducible rfl
               rotate_left
               ·simp only [Act.put,List.setIfInBounds_toArray,List.set_cons_zero,List.set_cons_succ,i64_w,i32_w]
                rfl
               refine take_ (i:=10) (N:=some 38) (v:=?_) (a':=?_) #[true,true,true,true,true,false,false,false,true,true,true,false,false,false,true,true,false,false,false,false,true,true,false,false,false,false,false] rfl rfl (take_ofW HT_.out HW_.out (by kernel_rfl)) (fun _ _ _ h => h) (Or.inl ⟨by rfl,?_⟩) hHeld ?_ ?_
               rotate_left
               ·rintro w' ⟨s0,s1,s2,s3,s4,s5⟩
                go_simp
                with_reducible rfl
               rotate_left
               ·simp only [Act.put,List.setIfInBounds_toArray,List.set_cons_zero,List.set_cons_succ,i64_w,i32_w]
                rfl
               refine take_ (i:=16) (N:=some 44) (v:=?_) (a':=?_) #[true,true,true,true,true,false,false,false,true,true,true,false,false,false,true,true,true,false,false,false,true,true,false,false,false,false,false] rfl rfl (take_ofW HT_.out HW_.out (by kernel_rfl)) (fun _ _ _ h => h) (Or.inl ⟨by rfl,?_⟩) hHeld ?_ ?_
               rotate_left
               ·rintro w' ⟨s0,s1,s2,s3,s4,s5⟩
                go_simp
                with_reducible rfl
               rotate_left
               ·simp only [Act.put,List.setIfInBounds_toArray,List.set_cons_zero,List.set_cons_succ,i64_w,i32_w]
                rfl
               refine take_ (i:=22) (N:=some 50) (v:=?_) (a':=?_) #[true,true,true,true,true,false,false,false,true,true,true,false,false,false,true,true,true,false,false,false,true,true,true,false,false,false,false] rfl rfl (take_ofW HT_.out HW_.out (by kernel_rfl)) (fun _ _ _ h => h) (Or.inl ⟨by rfl,?_⟩) hHeld ?_ ?_
               rotate_left
               ·rintro w' ⟨s0,s1,s2,s3,s4,s5⟩
                go_simp
                with_reducible rfl
               rotate_left
               ·simp only [Act.put,List.setIfInBounds_toArray,List.set_cons_zero,List.set_cons_succ,i64_w,i32_w]
                rfl
               refine one_ (i:=5) (N:=some 33) #[true,true,true,true,true,true,false,false,true,true,true,false,false,false,true,true,true,false,false,false,true,true,true,false,false,false,false] rfl rfl (one_of HT_.out (by kernel_rfl)) (by decide) (fun K hK => ?_)
               refine goes_ Tryd.func14 (by kernel_rfl) rfl #[.int .i64 a0_1] (by rfl) rfl rfl (by (try simp only [List.map_toArray,List.map_cons,List.map_nil]);first | done | rfl|(simp only [List.length_drop,List.length_take];rfl)) ?_
               with_reducible refine (spec_l01Address.calls k2 a0_1 t145 _ A27.out).mono ?_
               rintro e w39 ⟨rfl,hb⟩
               refine ⟨_,rfl,?_⟩
               have n0_:=aMk (blk_below (g:=gb135) (o:=.cells #[.int .i64 a0_0,.int .i64 a0_1,.int .i64 a0_2,.int .i64 a0_3,.int .i64 a0_4,.bool a0_5] 33 (0,0)) (by (with_reducible repeat (first|refine bDn ?_ _|refine bDr ?_|refine bAl ?_ _));exact BK135.out) hb)
               have n1_:=aMk (below_step (by repeat (first|(with_reducible first|exact HB.out|apply bwA|apply bwN|apply bw1|refine below_set ?_ GE135.out)|exact HB.out)) hb)
               clear BK135
               clear HB
               have BK135:=n0_
               have HB:=n1_
               clear n0_ n1_
               (try clear hb)
               (try clear hb2)
               (try clear hk)
               (try clear hi)
               refine hK.out _ _ ⟨(bCe BK135.out 0).trans rfl,(bCe BK135.out 1).trans rfl,(bCe BK135.out 2).trans rfl,(bCe BK135.out 3).trans rfl,(bCe BK135.out 4).trans rfl,(bCe BK135.out 5).trans rfl⟩ (fun hHeld => ?_)
               clear hK K
               refine norm_ (a':=?_) ?_ ?_
               rotate_left
               ·show Act.put _ (some 33) _ = _
                simp only [Act.put,List.setIfInBounds_toArray,List.set_cons_zero,List.set_cons_succ,i64_w,i32_w]
                rfl
               refine pure_ (i:=6) (N:=some 34) (v:=?_) (a':=?_) #[true,true,true,true,true,true,true,false,true,true,true,false,false,false,true,true,true,false,false,false,true,true,true,false,false,false,false] rfl rfl (any_of HT_.out (by kernel_rfl)) (fun _ _ _ h => h) (Or.inl ⟨by rfl,?_⟩) ?_ ?_
               rotate_left
               ·intro w'
                go_simp
                with_reducible rfl
               rotate_left
               ·simp only [Act.put,List.setIfInBounds_toArray,List.set_cons_zero,List.set_cons_succ,i64_w,i32_w]
                rfl
               refine pure_ (i:=7) (N:=some 35) (v:=?_) (a':=?_) #[true,true,true,true,true,true,true,true,true,true,true,false,false,false,true,true,true,false,false,false,true,true,true,false,false,false,false] rfl rfl (any_of HT_.out (by kernel_rfl)) (fun _ _ _ h => h) (Or.inl ⟨by rfl,?_⟩) ?_ ?_
               rotate_left
               ·intro w'
                go_simp
                with_reducible rfl
               rotate_left
               ·simp only [Act.put,List.setIfInBounds_toArray,List.set_cons_zero,List.set_cons_succ,i64_w,i32_w]
                rfl
               refine one_ (i:=11) (N:=some 39) #[true,true,true,true,true,true,true,true,true,true,true,true,false,false,true,true,true,false,false,false,true,true,true,false,false,false,false] rfl rfl (one_of HT_.out (by kernel_rfl)) (by decide) (fun K hK => ?_)
               refine goes_ Tryd.func15 (by kernel_rfl) rfl #[.int .i64 a0_2] (by rfl) rfl rfl (by (try simp only [List.map_toArray,List.map_cons,List.map_nil]);first | done | rfl|(simp only [List.length_drop,List.length_take];rfl)) ?_
               with_reducible refine (spec_l00Digits.calls k2 a0_2 t146 _ A30.out).mono ?_
               rintro e w40 ⟨rfl,hb⟩
               refine ⟨_,rfl,?_⟩
               have n0_:=aMk (blk_below (g:=gb135) (o:=.cells #[.int .i64 a0_0,.int .i64 a0_1,.int .i64 a0_2,.int .i64 a0_3,.int .i64 a0_4,.bool a0_5] 33 (0,0)) (by (with_reducible repeat (first|refine bDn ?_ _|refine bDr ?_|refine bAl ?_ _));exact BK135.out) hb)
               have n1_:=aMk (below_step (by repeat (first|(with_reducible first|exact HB.out|apply bwA|apply bwN|apply bw1|refine below_set ?_ GE135.out)|exact HB.out)) hb)
               clear BK135
               clear HB
               have BK135:=n0_
               have HB:=n1_
               clear n0_ n1_
               (try clear hb)
               (try clear hb2)
               (try clear hk)
               (try clear hi)
               refine hK.out _ _ ⟨(bCe BK135.out 0).trans rfl,(bCe BK135.out 1).trans rfl,(bCe BK135.out 2).trans rfl,(bCe BK135.out 3).trans rfl,(bCe BK135.out 4).trans rfl,(bCe BK135.out 5).trans rfl⟩ (fun hHeld => ?_)
               clear hK K
               refine norm_ (a':=?_) ?_ ?_
               rotate_left
               ·show Act.put _ (some 39) _ = _
                simp only [Act.put,List.setIfInBounds_toArray,List.set_cons_zero,List.set_cons_succ,i64_w,i32_w]
                rfl
               refine pure_ (i:=12) (N:=some 40) (v:=?_) (a':=?_) #[true,true,true,true,true,true,true,true,true,true,true,true,true,false,true,true,true,false,false,false,true,true,true,false,false,false,false] rfl rfl (any_of HT_.out (by kernel_rfl)) (fun _ _ _ h => h) (Or.inl ⟨by rfl,?_⟩) ?_ ?_
               rotate_left
               ·intro w'
                go_simp
                with_reducible rfl
               rotate_left
               ·simp only [Act.put,List.setIfInBounds_toArray,List.set_cons_zero,List.set_cons_succ,i64_w,i32_w]
                rfl
               refine pure_ (i:=13) (N:=some 41) (v:=?_) (a':=?_) #[true,true,true,true,true,true,true,true,true,true,true,true,true,true,true,true,true,false,false,false,true,true,true,false,false,false,false] rfl rfl (any_of HT_.out (by kernel_rfl)) (fun _ _ _ h => h) (Or.inl ⟨by rfl,?_⟩) ?_ ?_
               rotate_left
               ·intro w'
                go_simp
                with_reducible rfl
               rotate_left
               ·simp only [Act.put,List.setIfInBounds_toArray,List.set_cons_zero,List.set_cons_succ,i64_w,i32_w]
                rfl
               refine one_ (i:=17) (N:=some 45) #[true,true,true,true,true,true,true,true,true,true,true,true,true,true,true,true,true,true,false,false,true,true,true,false,false,false,false] rfl rfl (one_of HT_.out (by kernel_rfl)) (by decide) (fun K hK => ?_)
               refine goes_ Tryd.func15 (by kernel_rfl) rfl #[.int .i64 a0_3] (by rfl) rfl rfl (by (try simp only [List.map_toArray,List.map_cons,List.map_nil]);first | done | rfl|(simp only [List.length_drop,List.length_take];rfl)) ?_
               with_reducible refine (spec_l00Digits.calls k2 a0_3 t147 _ A33.out).mono ?_
               rintro e w41 ⟨rfl,hb⟩
               refine ⟨_,rfl,?_⟩
               have n0_:=aMk (blk_below (g:=gb135) (o:=.cells #[.int .i64 a0_0,.int .i64 a0_1,.int .i64 a0_2,.int .i64 a0_3,.int .i64 a0_4,.bool a0_5] 33 (0,0)) (by (with_reducible repeat (first|refine bDn ?_ _|refine bDr ?_|refine bAl ?_ _));exact BK135.out) hb)
               have n1_:=aMk (below_step (by repeat (first|(with_reducible first|exact HB.out|apply bwA|apply bwN|apply bw1|refine below_set ?_ GE135.out)|exact HB.out)) hb)
               clear BK135
               clear HB
               have BK135:=n0_
               have HB:=n1_
               clear n0_ n1_
               (try clear hb)
               (try clear hb2)
               (try clear hk)
               (try clear hi)
               refine hK.out _ _ ⟨(bCe BK135.out 0).trans rfl,(bCe BK135.out 1).trans rfl,(bCe BK135.out 2).trans rfl,(bCe BK135.out 3).trans rfl,(bCe BK135.out 4).trans rfl,(bCe BK135.out 5).trans rfl⟩ (fun hHeld => ?_)
               clear hK K
               refine norm_ (a':=?_) ?_ ?_
               rotate_left
               ·show Act.put _ (some 45) _ = _
                simp only [Act.put,List.setIfInBounds_toArray,List.set_cons_zero,List.set_cons_succ,i64_w,i32_w]
                rfl
               refine pure_ (i:=18) (N:=some 46) (v:=?_) (a':=?_) #[true,true,true,true,true,true,true,true,true,true,true,true,true,true,true,true,true,true,true,false,true,true,true,false,false,false,false] rfl rfl (any_of HT_.out (by kernel_rfl)) (fun _ _ _ h => h) (Or.inl ⟨by rfl,?_⟩) ?_ ?_
               rotate_left
               ·intro w'
                go_simp
                with_reducible rfl
               rotate_left
               ·simp only [Act.put,List.setIfInBounds_toArray,List.set_cons_zero,List.set_cons_succ,i64_w,i32_w]
                rfl
               refine pure_ (i:=19) (N:=some 47) (v:=?_) (a':=?_) #[true,true,true,true,true,true,true,true,true,true,true,true,true,true,true,true,true,true,true,true,true,true,true,false,false,false,false] rfl rfl (any_of HT_.out (by kernel_rfl)) (fun _ _ _ h => h) (Or.inl ⟨by rfl,?_⟩) ?_ ?_
               rotate_left
               ·intro w'
                go_simp
                with_reducible rfl
               rotate_left
               ·simp only [Act.put,List.setIfInBounds_toArray,List.set_cons_zero,List.set_cons_succ,i64_w,i32_w]
                rfl
               refine one_ (i:=23) (N:=some 51) #[true,true,true,true,true,true,true,true,true,true,true,true,true,true,true,true,true,true,true,true,true,true,true,true,false,false,false] rfl rfl (one_of HT_.out (by kernel_rfl)) (by decide) (fun K hK => ?_)
               refine goes_ Tryd.func15 (by kernel_rfl) rfl #[.int .i64 a0_4] (by rfl) rfl rfl (by (try simp only [List.map_toArray,List.map_cons,List.map_nil]);first | done | rfl|(simp only [List.length_drop,List.length_take];rfl)) ?_
               with_reducible refine (spec_l00Digits.calls k2 a0_4 t148 _ A36.out).mono ?_
               rintro e w42 ⟨rfl,hb⟩
               refine ⟨_,rfl,?_⟩
               have n0_:=aMk (blk_below (g:=gb135) (o:=.cells #[.int .i64 a0_0,.int .i64 a0_1,.int .i64 a0_2,.int .i64 a0_3,.int .i64 a0_4,.bool a0_5] 33 (0,0)) (by (with_reducible repeat (first|refine bDn ?_ _|refine bDr ?_|refine bAl ?_ _));exact BK135.out) hb)
               have n1_:=aMk (below_step (by repeat (first|(with_reducible first|exact HB.out|apply bwA|apply bwN|apply bw1|refine below_set ?_ GE135.out)|exact HB.out)) hb)
               clear BK135
               clear HB
               have BK135:=n0_
               have HB:=n1_
               clear n0_ n1_
               (try clear hb)
               (try clear hb2)
               (try clear hk)
               (try clear hi)
               refine hK.out _ _ ⟨(bCe BK135.out 0).trans rfl,(bCe BK135.out 1).trans rfl,(bCe BK135.out 2).trans rfl,(bCe BK135.out 3).trans rfl,(bCe BK135.out 4).trans rfl,(bCe BK135.out 5).trans rfl⟩ (fun hHeld => ?_)
               clear hK K
               refine norm_ (a':=?_) ?_ ?_
               rotate_left
               ·show Act.put _ (some 51) _ = _
                simp only [Act.put,List.setIfInBounds_toArray,List.set_cons_zero,List.set_cons_succ,i64_w,i32_w]
                rfl
               refine pure_ (i:=24) (N:=some 52) (v:=?_) (a':=?_) #[true,true,true,true,true,true,true,true,true,true,true,true,true,true,true,true,true,true,true,true,true,true,true,true,true,false,false] rfl rfl (any_of HT_.out (by kernel_rfl)) (fun _ _ _ h => h) (Or.inl ⟨by rfl,?_⟩) ?_ ?_
               rotate_left
               ·intro w'
                go_simp
                with_reducible rfl
               rotate_left
               ·simp only [Act.put,List.setIfInBounds_toArray,List.set_cons_zero,List.set_cons_succ,i64_w,i32_w]
                rfl
               refine pure_ (i:=25) (N:=some 2) (v:=?_) (a':=?_) #[true,true,true,true,true,true,true,true,true,true,true,true,true,true,true,true,true,true,true,true,true,true,true,true,true,true,false] rfl rfl (any_of HT_.out (by kernel_rfl)) (fun _ _ _ h => h) (Or.inl ⟨by rfl,?_⟩) ?_ ?_
               rotate_left
               ·intro w'
                go_simp
                with_reducible rfl
               rotate_left
               ·simp only [Act.put,List.setIfInBounds_toArray,List.set_cons_zero,List.set_cons_succ,i64_w,i32_w]
                rfl
               refine pure_ (i:=26) (N:=some 3) (v:=?_) (a':=?_) #[true,true,true,true,true,true,true,true,true,true,true,true,true,true,true,true,true,true,true,true,true,true,true,true,true,true,true] rfl rfl (any_of HT_.out (by kernel_rfl)) (fun _ _ _ h => h) (Or.inl ⟨by rfl,?_⟩) ?_ ?_
               rotate_left
               ·intro w'
                go_simp
                with_reducible rfl
               rotate_left
               ·simp only [Act.put,List.setIfInBounds_toArray,List.set_cons_zero,List.set_cons_succ,i64_w,i32_w]
                rfl
               refine done_ (done_of HT_.out (by kernel_rfl)) ?_
               try go_wp2
               go_ret2
               exact ⟨by first | rfl|(simp [errW_none,errW_some] <;> rfl)|(simp [*,errW_none,errW_some] <;> rfl),by repeat (first|(with_reducible first|exact HB.out|apply bwA|apply bwN|apply bw1|refine below_set ?_ GE135.out)|exact HB.out)⟩
              ·rw [if_neg c37] at H
               exact absurd H (by simp)
             ·rw [if_neg c35] at H
              exact absurd H (by simp)
            ·rw [if_neg c34] at H
             exact absurd H (by simp)
           ·rw [if_neg c32] at H
            exact absurd H (by simp)
          ·rw [if_neg c31] at H
           exact absurd H (by simp)
         ·rw [if_neg c29] at H
          exact absurd H (by simp)
        ·rw [if_neg c28] at H
         exact absurd H (by simp)
       ·rw [if_neg c26] at H
        exact absurd H (by simp)
 ·replace c3:=Bool.eq_false_iff.mpr c3
  subst c3
  have H1 : (some ((⟨#[]⟩ : ByteArray),1)) = some (r1,r2):=by rw [if_neg (show ¬ (false = true) by decide)] at H;exact H
  clear H
  have H:=H1
  clear H1
  simp only [Option.some.injEq,Prod.mk.injEq] at H
  obtain ⟨rfl,rfl⟩:=H
  go_enter Tryd.func5,Tryd.ntmps5
  go_wp2_with (first|((with_reducible refine gate_dst (N:=1) rfl ?_);refine box_event ?hg (N:=1) ?hd (cs:=#[.int .i64 a0_0,.int .i64 a0_1,.int .i64 a0_2,.int .i64 a0_3,.int .i64 a0_4,.bool a0_5]) (t:=33) ?hr ?_;(case hd => rfl);(case hg => rfl);(case hr => first|(go_simp;done)|(go_simp;rfl));intro gb135 hg w43 hbox hb;have n0_:=aMk (below_step (by repeat first|exact HB.out|apply bwA|apply bwN|apply bw1) hb);have n1_:=aMk (hbox);have n2_:=aMk ((by rw [hg];exact (below_size (by repeat first|exact HB.out|apply bwA|apply bwN|apply bw1)) : w.heap.size ≤ gb135));have n3_:=aMk ((by rw [hg];exact (below_size (by repeat first|exact HB.out|apply bwA|apply bwN|apply bw1)) : w.heap.size ≤ gb135));clear HB;have HB:=n0_;have BK135:=n1_;have GW135:=n2_;have GE135:=n3_;clear n0_ n1_ n2_ n3_;clear hb hbox hg;have hcz44_0 : w43.cell? ⟨gb135,0,none⟩ = some (.int .i64 a0_0):=(bCe BK135.out 0).trans rfl;have hcz44_1 : w43.cell? ⟨gb135,1,none⟩ = some (.int .i64 a0_1):=(bCe BK135.out 1).trans rfl;have hcz44_2 : w43.cell? ⟨gb135,2,none⟩ = some (.int .i64 a0_2):=(bCe BK135.out 2).trans rfl;have hcz44_3 : w43.cell? ⟨gb135,3,none⟩ = some (.int .i64 a0_3):=(bCe BK135.out 3).trans rfl;have hcz44_4 : w43.cell? ⟨gb135,4,none⟩ = some (.int .i64 a0_4):=(bCe BK135.out 4).trans rfl;have hcz44_5 : w43.cell? ⟨gb135,5,none⟩ = some (.bool a0_5):=(bCe BK135.out 5).trans rfl;have hfz44_0:=bFr BK135.out 0;have hfz44_1:=bFr BK135.out 1;have hfz44_2:=bFr BK135.out 2;have hfz44_3:=bFr BK135.out 3;have hfz44_4:=bFr BK135.out 4;have hfz44_5:=bFr BK135.out 5)|((with_reducible refine gate_callee (f:=11) rfl ?_);refine goesL_ (some 7) rfl rfl Tryd.func11 (by kernel_rfl) rfl #[.agg #[.int .i64 a0_0,.int .i64 a0_1,.int .i64 a0_2,.int .i64 a0_3,.int .i64 a0_4,.bool a0_5]] rfl (by (try simp only [List.map_toArray,List.map_cons,List.map_nil]);first | done | rfl|(simp only [List.length_drop,List.length_take];rfl)) ?_;(with_reducible refine (spec_RuleOK.calls a0_0 a0_1 a0_2 a0_3 a0_4 a0_5 false _ A2.out).mono ?_);rintro e w45 ⟨rfl,hb⟩;refine ⟨_,rfl,?_⟩;have n0_:=aMk (blk_below (g:=gb135) (o:=.cells #[.int .i64 a0_0,.int .i64 a0_1,.int .i64 a0_2,.int .i64 a0_3,.int .i64 a0_4,.bool a0_5] 33 (0,0)) (by (with_reducible repeat (first|refine bDn ?_ _|refine bDr ?_|refine bAl ?_ _));exact BK135.out) hb);have n1_:=aMk (below_step (by repeat (first|(with_reducible first|exact HB.out|apply bwA|apply bwN|apply bw1|refine below_set ?_ GE135.out)|exact HB.out)) hb);clear BK135;clear HB;have BK135:=n0_;have HB:=n1_;clear n0_ n1_;(try clear hb);(try clear hb2);(try clear hk);(try clear hi)))
  go_ret2
  exact ⟨by first | rfl|(simp [errW_none,errW_some] <;> rfl)|(simp [*,errW_none,errW_some] <;> rfl),by repeat (first|(with_reducible first|exact HB.out|apply bwA|apply bwN|apply bw1|refine below_set ?_ GE135.out)|exact HB.out)⟩
end
section
/-! ### impl_RuleText: function 7 -/
def impl_RuleText.j0 : Nat → ByteArray → Int → Int → Int → Int → Int → Bool → Option (ByteArray × Int)
 | 0,_,_,_,_,_,_,_ => none
 | k + 1,x4,x208000,x208001,x208002,x208003,x208004,x208005 => (impl_protoWord.f x208000).bind fun t209 => ((impl_netText.f k x208001 x208002).bind fun t210 => ((strconv_Itoa_22.f x208003).bind fun t211 => ((strconv_Itoa_22.f x208004).bind fun t212 => ((strings_Join.f (([x4,t209,t210,t211,t212] : List ByteArray)) (⟨#[32]⟩ : ByteArray)).bind fun t216 => (some (t216,0))))))
def impl_RuleText.f (k : Nat) (a0_0 : Int) (a0_1 : Int) (a0_2 : Int) (a0_3 : Int) (a0_4 : Int) (a0_5 : Bool) : Option (ByteArray × Int):=(impl_RuleOK.f k a0_0 a0_1 a0_2 a0_3 a0_4 a0_5).bind fun t208 => (if t208 = true then (if a0_5 = true then (impl_RuleText.j0 k (⟨#[97,108,108,111,119]⟩ : ByteArray) a0_0 a0_1 a0_2 a0_3 a0_4 a0_5) else (impl_RuleText.j0 k (⟨#[100,101,110,121]⟩ : ByteArray) a0_0 a0_1 a0_2 a0_3 a0_4 a0_5)) else (some ((⟨#[]⟩ : ByteArray),1)))
theorem impl_RuleText.mono_l : ∀ k,(∀ y0 y1 y2 y3 y4 y5 y6,LeO (impl_RuleText.j0 k y0 y1 y2 y3 y4 y5 y6) (impl_RuleText.j0 (k + 1) y0 y1 y2 y3 y4 y5 y6))
 | 0 => fun _ _ _ _ _ _ _ r h => by simp [impl_RuleText.j0] at h
 | k + 1 => by
  have ih0:=impl_RuleText.mono_l k
  ·intro y0 y1 y2 y3 y4 y5 y6
   unfold impl_RuleText.j0
   repeat' first
   | (with_reducible exact ih0 _ _ _ _ _ _ _)
   | (with_reducible exact impl_RuleOK.mono ..)
   | (with_reducible exact impl_netText.mono ..)
   | (with_reducible exact LeO.refl _)
   | (with_reducible exact LeO.none _)
   | (with_reducible refine LeO.ite ?_ ?_)
   | (with_reducible refine LeO.bind ?_ (fun _ => ?_))
   | exact ih0 _ _ _ _ _ _ _
   | exact impl_RuleOK.mono ..
   | exact impl_netText.mono ..
   | exact LeO.none _
   | refine LeO.ite ?_ ?_
   | refine LeO.bind ?_ (fun _ => ?_)
theorem impl_RuleText.mono : ∀ a0 a1 a2 a3 a4 a5 k,LeO (impl_RuleText.f k a0 a1 a2 a3 a4 a5) (impl_RuleText.f (k + 1) a0 a1 a2 a3 a4 a5):=by
 intro a0 a1 a2 a3 a4 a5 k
 have ih0:=impl_RuleText.mono_l k
 unfold impl_RuleText.f
 repeat' first
   | (with_reducible exact ih0 _ _ _ _ _ _ _)
   | (with_reducible exact impl_RuleOK.mono ..)
   | (with_reducible exact impl_netText.mono ..)
   | (with_reducible exact LeO.refl _)
   | (with_reducible exact LeO.none _)
   | (with_reducible refine LeO.ite ?_ ?_)
   | (with_reducible refine LeO.bind ?_ (fun _ => ?_))
   | exact ih0 _ _ _ _ _ _ _
   | exact impl_RuleOK.mono ..
   | exact impl_netText.mono ..
   | exact LeO.none _
   | refine LeO.ite ?_ ?_
   | refine LeO.bind ?_ (fun _ => ?_)
def impl_RuleText.T6 : Bool × List (List Nat × List Nat):=(true,[([],[]),([],[]),([1],[1]),([2],[2]),([],[]),([4],[4]),([5,3],[5]),([],[]),([7],[7]),([8],[8]),([9,6],[9]),([],[]),([11],[11]),([12],[12]),([13,10],[13]),([0,3,6,10,14],[0,3,6,10,14]),([15,14],[15]),([16,16,0,1,2,3,4,5,6,7,8,9,10,11,12,13,14,15,16],[16]),([17,0,1,2,3,4,5,6,7,8,9,10,11,12,13,14,15,16,17],[])])
def impl_RuleText.B6 : List Nat:=[0,0,2,6,0,16,62,0,128,384,1022,0,2048,6144,16382,32767,65535,131071,262143]
theorem impl_RuleText.tab6 : rtab .any (opsOf Tryd.f7 6) = impl_RuleText.T6:=by kernel_rfl
theorem impl_RuleText.bits6 : waitsOk impl_RuleText.T6.2 impl_RuleText.B6 = true:=by kernel_rfl
set_option maxHeartbeats 8000000 in
set_option maxRecDepth 100000 in
theorem impl_RuleText.calls (k : Nat) (a0_0 : Int) (a0_1 : Int) (a0_2 : Int) (a0_3 : Int) (a0_4 : Int) (a0_5 : Bool) (r1 : ByteArray) (r2 : Int) (w : World) (hGp : GLp w) (h : impl_RuleText.f k a0_0 a0_1 a0_2 a0_3 a0_4 a0_5 = some (r1,r2)) :
  Calls Tryd.prog 7 #[.agg #[.int .i64 a0_0,.int .i64 a0_1,.int .i64 a0_2,.int .i64 a0_3,.int .i64 a0_4,.bool a0_5]] w fun e w' => e = .returned (.tuple #[.string r1,.int .i64 r2]) ∧ Below w.heap.size w w':=by
 have HGp_:=aMk hGp
 clear hGp
 have hu33:=Tryd.underlying33
 have hu30:=Tryd.underlying30
 have HB:=aMk (Below.refl w.heap.size w)
 have H : ((impl_RuleOK.f k a0_0 a0_1 a0_2 a0_3 a0_4 a0_5).bind fun t208 => (if t208 = true then (if a0_5 = true then (impl_RuleText.j0 k (⟨#[97,108,108,111,119]⟩ : ByteArray) a0_0 a0_1 a0_2 a0_3 a0_4 a0_5) else (impl_RuleText.j0 k (⟨#[100,101,110,121]⟩ : ByteArray) a0_0 a0_1 a0_2 a0_3 a0_4 a0_5)) else (some ((⟨#[]⟩ : ByteArray),1)))) = some (r1,r2):=h
 clear h
 replace H:=Option.bind_eq_some_iff.mp H
 obtain ⟨t208,A20,H⟩:=H
 replace H : (if t208 = true then (if a0_5 = true then (impl_RuleText.j0 k (⟨#[97,108,108,111,119]⟩ : ByteArray) a0_0 a0_1 a0_2 a0_3 a0_4 a0_5) else (impl_RuleText.j0 k (⟨#[100,101,110,121]⟩ : ByteArray) a0_0 a0_1 a0_2 a0_3 a0_4 a0_5)) else (some ((⟨#[]⟩ : ByteArray),1))) = some (r1,r2):=H
 have A2:=aMk A20
 clear A20
 by_cases c3 : t208 = true
 ·subst c3
  have H1 : (if a0_5 = true then (impl_RuleText.j0 k (⟨#[97,108,108,111,119]⟩ : ByteArray) a0_0 a0_1 a0_2 a0_3 a0_4 a0_5) else (impl_RuleText.j0 k (⟨#[100,101,110,121]⟩ : ByteArray) a0_0 a0_1 a0_2 a0_3 a0_4 a0_5)) = some (r1,r2):=by rw [if_pos rfl] at H;exact H
  clear H
  have H:=H1
  clear H1
  have HC4:=aMk H
  clear H
  go_enter Tryd.func7,Tryd.ntmps7
  go_upto_if 9 with (first|((with_reducible refine gate_dst (N:=1) rfl ?_);refine box_event ?hg (N:=1) ?hd (cs:=#[.int .i64 a0_0,.int .i64 a0_1,.int .i64 a0_2,.int .i64 a0_3,.int .i64 a0_4,.bool a0_5]) (t:=33) ?hr ?_;(case hd => rfl);(case hg => rfl);(case hr => first|(go_simp;done)|(go_simp;rfl));intro gb207 hg w5 hbox hb;have n0_:=aMk (below_step (by repeat first|exact HB.out|apply bwA|apply bwN|apply bw1) hb);have n1_:=aMk (hbox);have n2_:=aMk ((by rw [hg];exact (below_size (by repeat first|exact HB.out|apply bwA|apply bwN|apply bw1)) : w.heap.size ≤ gb207));have n3_:=aMk ((by rw [hg];exact (below_size (by repeat first|exact HB.out|apply bwA|apply bwN|apply bw1)) : w.heap.size ≤ gb207));clear HB;have HB:=n0_;have BK207:=n1_;have GW207:=n2_;have GE207:=n3_;clear n0_ n1_ n2_ n3_;clear hb hbox hg;have hcz6_0 : w5.cell? ⟨gb207,0,none⟩ = some (.int .i64 a0_0):=(bCe BK207.out 0).trans rfl;have hcz6_1 : w5.cell? ⟨gb207,1,none⟩ = some (.int .i64 a0_1):=(bCe BK207.out 1).trans rfl;have hcz6_2 : w5.cell? ⟨gb207,2,none⟩ = some (.int .i64 a0_2):=(bCe BK207.out 2).trans rfl;have hcz6_3 : w5.cell? ⟨gb207,3,none⟩ = some (.int .i64 a0_3):=(bCe BK207.out 3).trans rfl;have hcz6_4 : w5.cell? ⟨gb207,4,none⟩ = some (.int .i64 a0_4):=(bCe BK207.out 4).trans rfl;have hcz6_5 : w5.cell? ⟨gb207,5,none⟩ = some (.bool a0_5):=(bCe BK207.out 5).trans rfl;have hfz6_0:=bFr BK207.out 0;have hfz6_1:=bFr BK207.out 1;have hfz6_2:=bFr BK207.out 2;have hfz6_3:=bFr BK207.out 3;have hfz6_4:=bFr BK207.out 4;have hfz6_5:=bFr BK207.out 5)|((with_reducible refine gate_callee (f:=18) rfl ?_);refine goesL_ (some 6) rfl rfl Tryd.func18 (by kernel_rfl) rfl #[.agg #[.int .i64 a0_0,.int .i64 a0_1,.int .i64 a0_2,.int .i64 a0_3,.int .i64 a0_4,.bool a0_5]] rfl (by (try simp only [List.map_toArray,List.map_cons,List.map_nil]);first | done | rfl|(simp only [List.length_drop,List.length_take];rfl)) ?_;(with_reducible refine (impl_RuleOK.calls k a0_0 a0_1 a0_2 a0_3 a0_4 a0_5 true _ A2.out).mono ?_);rintro e w7 ⟨rfl,hb⟩;refine ⟨_,rfl,?_⟩;have n0_:=aMk (blk_below (g:=gb207) (o:=.cells #[.int .i64 a0_0,.int .i64 a0_1,.int .i64 a0_2,.int .i64 a0_3,.int .i64 a0_4,.bool a0_5] 33 (0,0)) (by (with_reducible repeat (first|refine bDn ?_ _|refine bDr ?_|refine bAl ?_ _));exact BK207.out) hb);have n1_:=aMk (below_step (by repeat (first|(with_reducible first|exact HB.out|apply bwA|apply bwN|apply bw1|refine below_set ?_ GE207.out)|exact HB.out)) hb);clear BK207;clear HB;have BK207:=n0_;have HB:=n1_;clear n0_ n1_;(try clear hb);(try clear hb2);(try clear hk);(try clear hi);have hcz8_0 : w7.cell? ⟨gb207,0,none⟩ = some (.int .i64 a0_0):=(bCe BK207.out 0).trans rfl;have hcz8_1 : w7.cell? ⟨gb207,1,none⟩ = some (.int .i64 a0_1):=(bCe BK207.out 1).trans rfl;have hcz8_2 : w7.cell? ⟨gb207,2,none⟩ = some (.int .i64 a0_2):=(bCe BK207.out 2).trans rfl;have hcz8_3 : w7.cell? ⟨gb207,3,none⟩ = some (.int .i64 a0_3):=(bCe BK207.out 3).trans rfl;have hcz8_4 : w7.cell? ⟨gb207,4,none⟩ = some (.int .i64 a0_4):=(bCe BK207.out 4).trans rfl;have hcz8_5 : w7.cell? ⟨gb207,5,none⟩ = some (.bool a0_5):=(bCe BK207.out 5).trans rfl;have hfz8_0:=bFr BK207.out 0;have hfz8_1:=bFr BK207.out 1;have hfz8_2:=bFr BK207.out 2;have hfz8_3:=bFr BK207.out 3;have hfz8_4:=bFr BK207.out 4;have hfz8_5:=bFr BK207.out 5))
  (try simp only [Act.put,List.setIfInBounds_toArray,List.set_cons_zero,List.set_cons_succ])
  go_cut [4] (fun v4 wc => ∃ (kq : Nat) (x4_3 : ByteArray),v4 = .string x4_3 ∧ Aside0 (impl_RuleText.j0 kq x4_3 a0_0 a0_1 a0_2 a0_3 a0_4 a0_5 = some (r1,r2)) ∧ Aside0 (kq ≤ k) ∧ Aside0 (wc.heap[gb207]? = some (.cells #[.int .i64 a0_0,.int .i64 a0_1,.int .i64 a0_2,.int .i64 a0_3,.int .i64 a0_4,.bool a0_5] 33 (0,0))) ∧ Aside0 (Below w.heap.size w wc))
  case first =>
   have H:=HC4.out
   clear HC4
   by_cases c9 : a0_5 = true
   ·subst c9
    have H1 : (impl_RuleText.j0 k (⟨#[97,108,108,111,119]⟩ : ByteArray) a0_0 a0_1 a0_2 a0_3 a0_4 true) = some (r1,r2):=by rw [if_pos rfl] at H;exact H
    clear H
    have H:=H1
    clear H1
    have H':=aMk H
    clear H
    go_wp2
    go_meet
    case rel => exact ⟨_,((⟨#[97,108,108,111,119]⟩ : ByteArray)),(by first | rfl|(simp;done)|(simp [*];done)|(simp [ne_nil_b];done)|(simp [ne_nil_b, *];done)),H',⟨by first | omega|exact Nat.le_refl _⟩,⟨by (with_reducible repeat (first|refine bDn ?_ _|refine bDr ?_|refine bAl ?_ _));exact BK207.out⟩,⟨by repeat (first|(with_reducible first|exact HB.out|apply bwA|apply bwN|apply bw1|refine below_set ?_ GE207.out)|exact HB.out)⟩⟩
   ·replace c9:=Bool.eq_false_iff.mpr c9
    subst c9
    have H1 : (impl_RuleText.j0 k (⟨#[100,101,110,121]⟩ : ByteArray) a0_0 a0_1 a0_2 a0_3 a0_4 false) = some (r1,r2):=by rw [if_neg (show ¬ (false = true) by decide)] at H;exact H
    clear H
    have H:=H1
    clear H1
    have H':=aMk H
    clear H
    go_wp2
    go_meet
    case rel => exact ⟨_,((⟨#[100,101,110,121]⟩ : ByteArray)),(by first | rfl|(simp;done)|(simp [*];done)|(simp [ne_nil_b];done)|(simp [ne_nil_b, *];done)),H',⟨by first | omega|exact Nat.le_refl _⟩,⟨by (with_reducible repeat (first|refine bDn ?_ _|refine bDr ?_|refine bAl ?_ _));exact BK207.out⟩,⟨by repeat (first|(with_reducible first|exact HB.out|apply bwA|apply bwN|apply bw1|refine below_set ?_ GE207.out)|exact HB.out)⟩⟩
  case rest =>
   clear HC4
   try clear c1
   try clear p2
   try clear c3
   try clear c7
   try clear c9
   try clear hcz6_0
   try clear hcz6_1
   try clear hcz6_2
   try clear hcz6_3
   try clear hcz6_4
   try clear hcz6_5
   try clear hcz8_0
   try clear hcz8_1
   try clear hcz8_2
   try clear hcz8_3
   try clear hcz8_4
   try clear hcz8_5
   try clear hfz6_0
   try clear hfz6_1
   try clear hfz6_2
   try clear hfz6_3
   try clear hfz6_4
   try clear hfz6_5
   try clear hfz8_0
   try clear hfz8_1
   try clear hfz8_2
   try clear hfz8_3
   try clear hfz8_4
   try clear hfz8_5
   obtain ⟨kq,x4_3,rfl,HA,HJ3,BK207,HB⟩:=hcut
   cases kq with
   | zero => exact absurd HA.out (by simp [impl_RuleText.j0])
   | succ kj3 =>
    have H:=HA.out
    clear HA
    simp only [impl_RuleText.j0] at H
    replace H:=Option.bind_eq_some_iff.mp H
    obtain ⟨t209,A100,H⟩:=H
    replace H : ((impl_netText.f kj3 a0_1 a0_2).bind fun t210 => ((strconv_Itoa_22.f a0_3).bind fun t211 => ((strconv_Itoa_22.f a0_4).bind fun t212 => ((strings_Join.f (([x4_3,t209,t210,t211,t212] : List ByteArray)) (⟨#[32]⟩ : ByteArray)).bind fun t216 => (some (t216,0)))))) = some (r1,r2):=H
    have A10:=aMk A100
    clear A100
    replace H:=Option.bind_eq_some_iff.mp H
    obtain ⟨t210,A110,H⟩:=H
    replace H : ((strconv_Itoa_22.f a0_3).bind fun t211 => ((strconv_Itoa_22.f a0_4).bind fun t212 => ((strings_Join.f (([x4_3,t209,t210,t211,t212] : List ByteArray)) (⟨#[32]⟩ : ByteArray)).bind fun t216 => (some (t216,0))))) = some (r1,r2):=H
    have A11:=aMk A110
    clear A110
    replace H:=Option.bind_eq_some_iff.mp H
    obtain ⟨t211,A120,H⟩:=H
    replace H : ((strconv_Itoa_22.f a0_4).bind fun t212 => ((strings_Join.f (([x4_3,t209,t210,t211,t212] : List ByteArray)) (⟨#[32]⟩ : ByteArray)).bind fun t216 => (some (t216,0)))) = some (r1,r2):=H
    have A12:=aMk A120
    clear A120
    replace H:=Option.bind_eq_some_iff.mp H
    obtain ⟨t212,A130,H⟩:=H
    replace H : ((strings_Join.f (([x4_3,t209,t210,t211,t212] : List ByteArray)) (⟨#[32]⟩ : ByteArray)).bind fun t216 => (some (t216,0))) = some (r1,r2):=H
    have A13:=aMk A130
    clear A130
    obtain ⟨y213,hy213⟩ : ∃ y_ : List ByteArray,y_ = (([x4_3,t209,t210,t211,t212] : List ByteArray)):=⟨_,rfl⟩
    replace H : ((strings_Join.f y213 (⟨#[32]⟩ : ByteArray)).bind fun t216 => (some (t216,0))) = some (r1,r2):=by first|(rw [hy213];with_reducible exact H)|(have H2_:=(Option.bind_some _ _).symm.trans H;rw [hy213];with_reducible exact H2_)|(have H2_:=(Option.bind_some _ _).symm.trans H;with_reducible exact H2_) | with_reducible exact H|(rw [hy213];exact H)|exact H
    have Ny213:=aMk hy213
    clear hy213
    replace H:=Option.bind_eq_some_iff.mp H
    obtain ⟨t216,A140,H⟩:=H
    replace H : (some (t216,0)) = some (r1,r2):=H
    have A14:=aMk A140
    clear A140
    simp only [Option.some.injEq,Prod.mk.injEq] at H
    obtain ⟨rfl,rfl⟩:=H
    try go_wp2
    have n0_:=aMk (bDr BK207.out)
    have n1_:=aMk (bw1 HB.out)
    clear BK207
    clear HB
    have BK207:=n0_
    have HB:=n1_
    clear n0_ n1_
    refine start_ (n:=19) (S:=fun w' => w'.cell? ⟨gb207,0,none⟩ = some (.int .i64 a0_0) ∧ w'.cell? ⟨gb207,1,none⟩ = some (.int .i64 a0_1) ∧ w'.cell? ⟨gb207,2,none⟩ = some (.int .i64 a0_2) ∧ w'.cell? ⟨gb207,3,none⟩ = some (.int .i64 a0_3) ∧ w'.cell? ⟨gb207,4,none⟩ = some (.int .i64 a0_4) ∧ w'.cell? ⟨gb207,5,none⟩ = some (.bool a0_5)) (ds:=[]) #[false,false,false,false,false,false,false,false,false,false,false,false,false,false,false,false,false,false,false] (by kernel_rfl) rfl rfl ⟨(bCe BK207.out 0).trans rfl,(bCe BK207.out 1).trans rfl,(bCe BK207.out 2).trans rfl,(bCe BK207.out 3).trans rfl,(bCe BK207.out 4).trans rfl,(bCe BK207.out 5).trans rfl⟩ (fun hHeld => ?_);refine with_tabW impl_RuleText.tab6 impl_RuleText.bits6 (fun HT_ HW_ => ?_)
    generalize wc.drew = w15 at BK207 HB hHeld ⊢
    refine pure_ (i:=0) (N:=some 10) (v:=?_) (a':=?_) #[true,false,false,false,false,false,false,false,false,false,false,false,false,false,false,false,false,false,false] rfl rfl (any_of HT_.out (by kernel_rfl)) (fun _ _ _ h => h) (Or.inl ⟨by rfl,?_⟩) ?_ ?_
    rotate_left
    ·intro w'
     go_simp
     with_reducible rfl
    rotate_left
    ·simp only [Act.put,List.setIfInBounds_toArray,List.set_cons_zero,List.set_cons_succ,i64_w,i32_w]
     rfl
    refine pure_ (i:=1) (N:=some 11) (v:=?_) (a':=?_) #[true,true,false,false,false,false,false,false,false,false,false,false,false,false,false,false,false,false,false] rfl rfl (any_of HT_.out (by kernel_rfl)) (fun _ _ _ h => h) (Or.inl ⟨by rfl,?_⟩) ?_ ?_
    rotate_left
    ·intro w'
     go_simp
     with_reducible rfl
    rotate_left
    ·simp only [Act.put,List.setIfInBounds_toArray,List.set_cons_zero,List.set_cons_succ,i64_w,i32_w]
     rfl
    refine pure_ (i:=4) (N:=some 14) (v:=?_) (a':=?_) #[true,true,false,false,true,false,false,false,false,false,false,false,false,false,false,false,false,false,false] rfl rfl (any_of HT_.out (by kernel_rfl)) (fun _ _ _ h => h) (Or.inl ⟨by rfl,?_⟩) ?_ ?_
    rotate_left
    ·intro w'
     go_simp
     with_reducible rfl
    rotate_left
    ·simp only [Act.put,List.setIfInBounds_toArray,List.set_cons_zero,List.set_cons_succ,i64_w,i32_w]
     rfl
    refine pure_ (i:=7) (N:=some 17) (v:=?_) (a':=?_) #[true,true,false,false,true,false,false,true,false,false,false,false,false,false,false,false,false,false,false] rfl rfl (any_of HT_.out (by kernel_rfl)) (fun _ _ _ h => h) (Or.inl ⟨by rfl,?_⟩) ?_ ?_
    rotate_left
    ·intro w'
     go_simp
     with_reducible rfl
    rotate_left
    ·simp only [Act.put,List.setIfInBounds_toArray,List.set_cons_zero,List.set_cons_succ,i64_w,i32_w]
     rfl
    refine pure_ (i:=8) (N:=some 18) (v:=?_) (a':=?_) #[true,true,false,false,true,false,false,true,true,false,false,false,false,false,false,false,false,false,false] rfl rfl (any_of HT_.out (by kernel_rfl)) (fun _ _ _ h => h) (Or.inl ⟨by rfl,?_⟩) ?_ ?_
    rotate_left
    ·intro w'
     go_simp
     with_reducible rfl
    rotate_left
    ·simp only [Act.put,List.setIfInBounds_toArray,List.set_cons_zero,List.set_cons_succ,i64_w,i32_w]
     rfl
    refine pure_ (i:=11) (N:=some 21) (v:=?_) (a':=?_) #[true,true,false,false,true,false,false,true,true,false,false,true,false,false,false,false,false,false,false] rfl rfl (any_of HT_.out (by kernel_rfl)) (fun _ _ _ h => h) (Or.inl ⟨by rfl,?_⟩) ?_ ?_
    rotate_left
    ·intro w'
     go_simp
     with_reducible rfl
    rotate_left
    ·simp only [Act.put,List.setIfInBounds_toArray,List.set_cons_zero,List.set_cons_succ,i64_w,i32_w]
     rfl
    refine pure_ (i:=12) (N:=some 22) (v:=?_) (a':=?_) #[true,true,false,false,true,false,false,true,true,false,false,true,true,false,false,false,false,false,false] rfl rfl (any_of HT_.out (by kernel_rfl)) (fun _ _ _ h => h) (Or.inl ⟨by rfl,?_⟩) ?_ ?_
    rotate_left
    ·intro w'
     go_simp
     with_reducible rfl
    rotate_left
    ·simp only [Act.put,List.setIfInBounds_toArray,List.set_cons_zero,List.set_cons_succ,i64_w,i32_w]
     rfl
    refine take_ (i:=2) (N:=some 12) (v:=?_) (a':=?_) #[true,true,true,false,true,false,false,true,true,false,false,true,true,false,false,false,false,false,false] rfl rfl (take_ofW HT_.out HW_.out (by kernel_rfl)) (fun _ _ _ h => h) (Or.inl ⟨by rfl,?_⟩) hHeld ?_ ?_
    rotate_left
    ·rintro w' ⟨s0,s1,s2,s3,s4,s5⟩
     go_simp
     with_reducible rfl
    rotate_left
    ·simp only [Act.put,List.setIfInBounds_toArray,List.set_cons_zero,List.set_cons_succ,i64_w,i32_w]
     rfl
    refine take_ (i:=5) (N:=some 15) (v:=?_) (a':=?_) #[true,true,true,false,true,true,false,true,true,false,false,true,true,false,false,false,false,false,false] rfl rfl (take_ofW HT_.out HW_.out (by kernel_rfl)) (fun _ _ _ h => h) (Or.inl ⟨by rfl,?_⟩) hHeld ?_ ?_
    rotate_left
    ·rintro w' ⟨s0,s1,s2,s3,s4,s5⟩
     go_simp
     with_reducible rfl
    rotate_left
    ·simp only [Act.put,List.setIfInBounds_toArray,List.set_cons_zero,List.set_cons_succ,i64_w,i32_w]
     rfl
    refine take_ (i:=9) (N:=some 19) (v:=?_) (a':=?_) #[true,true,true,false,true,true,false,true,true,true,false,true,true,false,false,false,false,false,false] rfl rfl (take_ofW HT_.out HW_.out (by kernel_rfl)) (fun _ _ _ h => h) (Or.inl ⟨by rfl,?_⟩) hHeld ?_ ?_
    rotate_left
    ·rintro w' ⟨s0,s1,s2,s3,s4,s5⟩
     go_simp
     with_reducible rfl
    rotate_left
    ·simp only [Act.put,List.setIfInBounds_toArray,List.set_cons_zero,List.set_cons_succ,i64_w,i32_w]
     rfl
    refine take_ (i:=13) (N:=some 23) (v:=?_) (a':=?_) #[true,true,true,false,true,true,false,true,true,true,false,true,true,true,false,false,false,false,false] rfl rfl (take_ofW HT_.out HW_.out (by kernel_rfl)) (fun _ _ _ h => h) (Or.inl ⟨by rfl,?_⟩) hHeld ?_ ?_
    rotate_left
    ·rintro w' ⟨s0,s1,s2,s3,s4,s5⟩
     go_simp
     with_reducible rfl
    rotate_left
    ·simp only [Act.put,List.setIfInBounds_toArray,List.set_cons_zero,List.set_cons_succ,i64_w,i32_w]
     rfl
    refine one_ (i:=3) (N:=some 13) #[true,true,true,true,true,true,false,true,true,true,false,true,true,true,false,false,false,false,false] rfl rfl (one_of HT_.out (by kernel_rfl)) (by decide) (fun K hK => ?_)
    refine goes_ Tryd.func20 (by kernel_rfl) rfl #[.int .i64 a0_0] (by rfl) rfl rfl (by (try simp only [List.map_toArray,List.map_cons,List.map_nil]);first | done | rfl|(simp only [List.length_drop,List.length_take];rfl)) ?_
    with_reducible refine (impl_protoWord.calls a0_0 t209 _ A10.out).mono ?_
    rintro e w' ⟨rfl,⟨nd,rfl⟩⟩
    refine ⟨_,rfl,?_⟩
    refine hK.out _ _ ⟨(bCe BK207.out 0).trans rfl,(bCe BK207.out 1).trans rfl,(bCe BK207.out 2).trans rfl,(bCe BK207.out 3).trans rfl,(bCe BK207.out 4).trans rfl,(bCe BK207.out 5).trans rfl⟩ (fun hHeld => ?_)
    clear hK K
    refine norm_ (a':=?_) ?_ ?_
    rotate_left
    ·show Act.put _ (some 13) _ = _
     simp only [Act.put,List.setIfInBounds_toArray,List.set_cons_zero,List.set_cons_succ,i64_w,i32_w]
     rfl
    refine one_ (i:=6) (N:=some 16) #[true,true,true,true,true,true,true,true,true,true,false,true,true,true,false,false,false,false,false] rfl rfl (one_of HT_.out (by kernel_rfl)) (by decide) (fun K hK => ?_)
    refine goes_ Tryd.func21 (by kernel_rfl) rfl #[.agg #[.int .i64 a0_1,.int .i64 a0_2]] (by rfl) rfl rfl (by (try simp only [List.map_toArray,List.map_cons,List.map_nil]);first | done | rfl|(simp only [List.length_drop,List.length_take];rfl)) ?_
    with_reducible refine (impl_netText.calls kj3 a0_1 a0_2 t210 _ ?sideGp A11.out).mono ?_
    case sideGp => exact GLp_below HGp_.out (by repeat (first|(with_reducible first|exact HB.out|apply bwA|apply bwN|apply bw1|refine below_set ?_ (Aside0.out (by assumption)))|exact HB.out))
    rintro e w16 ⟨rfl,hb⟩
    refine ⟨_,rfl,?_⟩
    have n0_:=aMk (blk_below (g:=gb207) (o:=.cells #[.int .i64 a0_0,.int .i64 a0_1,.int .i64 a0_2,.int .i64 a0_3,.int .i64 a0_4,.bool a0_5] 33 (0,0)) (by (with_reducible repeat (first|refine bDn ?_ _|refine bDr ?_|refine bAl ?_ _));exact BK207.out) hb)
    have n1_:=aMk (below_step (by repeat (first|(with_reducible first|exact HB.out|apply bwA|apply bwN|apply bw1|refine below_set ?_ GE207.out)|exact HB.out)) hb)
    clear BK207
    clear HB
    have BK207:=n0_
    have HB:=n1_
    clear n0_ n1_
    (try clear hb)
    (try clear hb2)
    (try clear hk)
    (try clear hi)
    refine hK.out _ _ ⟨(bCe BK207.out 0).trans rfl,(bCe BK207.out 1).trans rfl,(bCe BK207.out 2).trans rfl,(bCe BK207.out 3).trans rfl,(bCe BK207.out 4).trans rfl,(bCe BK207.out 5).trans rfl⟩ (fun hHeld => ?_)
    clear hK K
    refine norm_ (a':=?_) ?_ ?_
    rotate_left
    ·show Act.put _ (some 16) _ = _
     simp only [Act.put,List.setIfInBounds_toArray,List.set_cons_zero,List.set_cons_succ,i64_w,i32_w]
     rfl
    refine one_ (i:=10) (N:=some 20) #[true,true,true,true,true,true,true,true,true,true,true,true,true,true,false,false,false,false,false] rfl rfl (one_of HT_.out (by kernel_rfl)) (by decide) (fun K hK => ?_)
    refine goes_ Tryd.func22 (by kernel_rfl) rfl #[.int .i64 a0_3] (by rfl) rfl rfl (by (try simp only [List.map_toArray,List.map_cons,List.map_nil]);first | done | rfl|(simp only [List.length_drop,List.length_take];rfl)) ?_
    with_reducible refine (strconv_Itoa_22.calls a0_3 t211 _ ?sideGp A12.out).mono ?_
    case sideGp => exact GLp_below HGp_.out (by repeat (first|(with_reducible first|exact HB.out|apply bwA|apply bwN|apply bw1|refine below_set ?_ (Aside0.out (by assumption)))|exact HB.out))
    rintro e w17 ⟨rfl,hb⟩
    refine ⟨_,rfl,?_⟩
    have n0_:=aMk (blk_below (g:=gb207) (o:=.cells #[.int .i64 a0_0,.int .i64 a0_1,.int .i64 a0_2,.int .i64 a0_3,.int .i64 a0_4,.bool a0_5] 33 (0,0)) (by (with_reducible repeat (first|refine bDn ?_ _|refine bDr ?_|refine bAl ?_ _));exact BK207.out) hb)
    have n1_:=aMk (below_step (by repeat (first|(with_reducible first|exact HB.out|apply bwA|apply bwN|apply bw1|refine below_set ?_ GE207.out)|exact HB.out)) hb)
    clear BK207
    clear HB
    have BK207:=n0_
    have HB:=n1_
    clear n0_ n1_
    (try clear hb)
    (try clear hb2)
    (try clear hk)
    (try clear hi)
    refine hK.out _ _ ⟨(bCe BK207.out 0).trans rfl,(bCe BK207.out 1).trans rfl,(bCe BK207.out 2).trans rfl,(bCe BK207.out 3).trans rfl,(bCe BK207.out 4).trans rfl,(bCe BK207.out 5).trans rfl⟩ (fun hHeld => ?_)
    clear hK K
    refine norm_ (a':=?_) ?_ ?_
    rotate_left
    ·show Act.put _ (some 20) _ = _
     simp only [Act.put,List.setIfInBounds_toArray,List.set_cons_zero,List.set_cons_succ,i64_w,i32_w]
     rfl
    refine one_ (i:=14) (N:=some 24) #[true,true,true,true,true,true,true,true,true,true,true,true,true,true,true,false,false,false,false] rfl rfl (one_of HT_.out (by kernel_rfl)) (by decide) (fun K hK => ?_)
    refine goes_ Tryd.func22 (by kernel_rfl) rfl #[.int .i64 a0_4] (by rfl) rfl rfl (by (try simp only [List.map_toArray,List.map_cons,List.map_nil]);first | done | rfl|(simp only [List.length_drop,List.length_take];rfl)) ?_
    with_reducible refine (strconv_Itoa_22.calls a0_4 t212 _ ?sideGp A13.out).mono ?_
    case sideGp => exact GLp_below HGp_.out (by repeat (first|(with_reducible first|exact HB.out|apply bwA|apply bwN|apply bw1|refine below_set ?_ (Aside0.out (by assumption)))|exact HB.out))
    rintro e w18 ⟨rfl,hb⟩
    refine ⟨_,rfl,?_⟩
    have n0_:=aMk (blk_below (g:=gb207) (o:=.cells #[.int .i64 a0_0,.int .i64 a0_1,.int .i64 a0_2,.int .i64 a0_3,.int .i64 a0_4,.bool a0_5] 33 (0,0)) (by (with_reducible repeat (first|refine bDn ?_ _|refine bDr ?_|refine bAl ?_ _));exact BK207.out) hb)
    have n1_:=aMk (below_step (by repeat (first|(with_reducible first|exact HB.out|apply bwA|apply bwN|apply bw1|refine below_set ?_ GE207.out)|exact HB.out)) hb)
    clear BK207
    clear HB
    have BK207:=n0_
    have HB:=n1_
    clear n0_ n1_
    (try clear hb)
    (try clear hb2)
    (try clear hk)
    (try clear hi)
    refine hK.out _ _ ⟨(bCe BK207.out 0).trans rfl,(bCe BK207.out 1).trans rfl,(bCe BK207.out 2).trans rfl,(bCe BK207.out 3).trans rfl,(bCe BK207.out 4).trans rfl,(bCe BK207.out 5).trans rfl⟩ (fun hHeld => ?_)
    clear hK K
    refine norm_ (a':=?_) ?_ ?_
    rotate_left
    ·show Act.put _ (some 24) _ = _
     simp only [Act.put,List.setIfInBounds_toArray,List.set_cons_zero,List.set_cons_succ,i64_w,i32_w]
     rfl
    refine one_ (i:=15) (N:=some 25) #[true,true,true,true,true,true,true,true,true,true,true,true,true,true,true,true,false,false,false] rfl rfl (one_of HT_.out (by kernel_rfl)) (by decide) (fun K hK => ?_)
    refine Kd.R_lit_step Kd.string _ 9 ?hg (N:=25) ?hd (xs:=([x4_3,t209,t210,t211,t212] : List ByteArray)) (inner:=[.string x4_3,.string t209,.string t210,.string t211,.string t212]) (ok:=fun _ => True) (okp:=fun _ => True) ?hr ?hp (fun _ hk => hk) trivial (Below.refl _ _) (Nat.le_refl _) (by simp) ?_;(case hd => rfl);(case hg => rfl);(case hr => first|(go_simp;done)|(go_simp;rfl));(case hp => exact (Reps.one (show Kd.M Kd.string _ _ _ x4_3 [.string x4_3] from rfl) (Reps.one (show Kd.M Kd.string _ _ _ t209 [.string t209] from rfl) (Reps.one (show Kd.M Kd.string _ _ _ t210 [.string t210] from rfl) (Reps.one (show Kd.M Kd.string _ _ _ t211 [.string t211] from rfl) (Reps.one (show Kd.M Kd.string _ _ _ t212 [.string t212] from rfl) (Reps.none _ _)))))))
    intro v214 w19 ho20 hb hg_ hnew_
    clear hg_ hnew_
    (first|rw [← Ny213.out] at ho20|(simp only [Int.reduceToNat] at ho20;rw [← Ny213.out] at ho20))
    have n0_:=aMk (Kd.R_lower ho20 (below_size (by repeat (first|(with_reducible first|exact HB.out|apply bwA|apply bwN|apply bw1|refine below_set ?_ GE207.out)|exact HB.out))))
    have n1_:=aMk (blk_below (g:=gb207) (o:=.cells #[.int .i64 a0_0,.int .i64 a0_1,.int .i64 a0_2,.int .i64 a0_3,.int .i64 a0_4,.bool a0_5] 33 (0,0)) (by (with_reducible repeat (first|refine bDn ?_ _|refine bDr ?_|refine bAl ?_ _));exact BK207.out) hb)
    have n2_:=aMk (below_step (by repeat (first|(with_reducible first|exact HB.out|apply bwA|apply bwN|apply bw1|refine below_set ?_ GE207.out)|exact HB.out)) hb)
    clear BK207
    clear HB
    have HO215:=n0_
    have BK207:=n1_
    have HB:=n2_
    clear n0_ n1_ n2_
    clear hb ho20
    obtain ⟨Ao21,co21,eo21⟩:=Kd.R_slice HO215.out
    (first|subst eo21|(injection eo21 with f1_ f2_ f3_;have f4_:=f1_.symm;have f5_:=f3_.symm;clear f1_ f2_ f3_;subst f4_;subst f5_))
    refine hK.out _ _ ⟨(bCe BK207.out 0).trans rfl,(bCe BK207.out 1).trans rfl,(bCe BK207.out 2).trans rfl,(bCe BK207.out 3).trans rfl,(bCe BK207.out 4).trans rfl,(bCe BK207.out 5).trans rfl⟩ (fun hHeld => ?_)
    clear hK K
    refine norm_ (a':=?_) ?_ ?_
    rotate_left
    ·show Act.put _ (some 25) _ = _
     simp only [Act.put,List.setIfInBounds_toArray,List.set_cons_zero,List.set_cons_succ,i64_w,i32_w]
     rfl
    refine one_ (i:=16) (N:=some 26) #[true,true,true,true,true,true,true,true,true,true,true,true,true,true,true,true,true,false,false] rfl rfl (one_of HT_.out (by kernel_rfl)) (by decide) (fun K hK => ?_)
    refine goes_ Tryd.func19 (by kernel_rfl) rfl #[.slice Ao21 y213.length co21,.string (⟨#[32]⟩ : ByteArray)] (by rfl) rfl rfl (by (try simp only [List.map_toArray,List.map_cons,List.map_nil]);first | done | rfl|(simp only [List.length_drop,List.length_take];rfl)) ?_
    with_reducible refine (strings_Join.calls _ _ y213 (⟨#[32]⟩ : ByteArray) t216 _ ?side1 ?side2 A14.out).mono ?_
    (case side1 => repeat (first|exact (Kd.R_reads' HO215.out).2.2|(with_reducible refine Kd.C_alloc ?_ _)|(with_reducible refine Kd.C_drewN ?_ _)|(with_reducible refine Kd.C_drew ?_)))
    (case side2 => exact (Kd.R_reads' HO215.out).2.1)
    rintro e w22 ⟨rfl,hb⟩
    refine ⟨_,rfl,?_⟩
    have n0_:=aMk (Kd.R_below (by (with_reducible repeat (first|apply Kd.R_alloc|apply Kd.R_drewN|apply Kd.R_drew));exact HO215.out) hb)
    have n1_:=aMk (blk_below (g:=gb207) (o:=.cells #[.int .i64 a0_0,.int .i64 a0_1,.int .i64 a0_2,.int .i64 a0_3,.int .i64 a0_4,.bool a0_5] 33 (0,0)) (by (with_reducible repeat (first|refine bDn ?_ _|refine bDr ?_|refine bAl ?_ _));exact BK207.out) hb)
    have n2_:=aMk (below_step (by repeat (first|(with_reducible first|exact HB.out|apply bwA|apply bwN|apply bw1|refine below_set ?_ GE207.out)|exact HB.out)) hb)
    clear HO215
    clear BK207
    clear HB
    have HO215:=n0_
    have BK207:=n1_
    have HB:=n2_
    clear n0_ n1_ n2_
    (try clear hb)
    (try clear hb2)
    (try clear hk)
    (try clear hi)
    refine hK.out _ _ ⟨(bCe BK207.out 0).trans rfl,(bCe BK207.out 1).trans rfl,(bCe BK207.out 2).trans rfl,(bCe BK207.out 3).trans rfl,(bCe BK207.out 4).trans rfl,(bCe BK207.out 5).trans rfl⟩ (fun hHeld => ?_)
    clear hK K
    refine norm_ (a':=?_) ?_ ?_
    rotate_left
    ·show Act.put _ (some 26) _ = _
     simp only [Act.put,List.setIfInBounds_toArray,List.set_cons_zero,List.set_cons_succ,i64_w,i32_w]
     rfl
    refine pure_ (i:=17) (N:=some 2) (v:=?_) (a':=?_) #[true,true,true,true,true,true,true,true,true,true,true,true,true,true,true,true,true,true,false] rfl rfl (any_of HT_.out (by kernel_rfl)) (fun _ _ _ h => h) (Or.inl ⟨by rfl,?_⟩) ?_ ?_
    rotate_left
    ·intro w'
     go_simp
     with_reducible rfl
    rotate_left
    ·simp only [Act.put,List.setIfInBounds_toArray,List.set_cons_zero,List.set_cons_succ,i64_w,i32_w]
     rfl
    refine pure_ (i:=18) (N:=some 3) (v:=?_) (a':=?_) #[true,true,true,true,true,true,true,true,true,true,true,true,true,true,true,true,true,true,true] rfl rfl (any_of HT_.out (by kernel_rfl)) (fun _ _ _ h => h) (Or.inl ⟨by rfl,?_⟩) ?_ ?_
    rotate_left
    ·intro w'
     go_simp
     with_reducible rfl
    rotate_left
    ·simp only [Act.put,List.setIfInBounds_toArray,List.set_cons_zero,List.set_cons_succ,i64_w,i32_w]
     rfl
    refine done_ (done_of HT_.out (by kernel_rfl)) ?_
    try go_wp2
    go_ret2
    exact ⟨by first | rfl|(simp [errW_none,errW_some] <;> rfl)|(simp [*,errW_none,errW_some] <;> rfl),by repeat (first|(with_reducible first|exact HB.out|apply bwA|apply bwN|apply bw1|refine below_set ?_ GE207.out)|exact HB.out)⟩
 ·replace c3:=Bool.eq_false_iff.mpr c3
  subst c3
  have H1 : (some ((⟨#[]⟩ : ByteArray),1)) = some (r1,r2):=by rw [if_neg (show ¬ (false = true) by decide)] at H;exact H
  clear H
  have H:=H1
  clear H1
  simp only [Option.some.injEq,Prod.mk.injEq] at H
  obtain ⟨rfl,rfl⟩:=H
  go_enter Tryd.func7,Tryd.ntmps7
  go_wp2_with (first|((with_reducible refine gate_dst (N:=1) rfl ?_);refine box_event ?hg (N:=1) ?hd (cs:=#[.int .i64 a0_0,.int .i64 a0_1,.int .i64 a0_2,.int .i64 a0_3,.int .i64 a0_4,.bool a0_5]) (t:=33) ?hr ?_;(case hd => rfl);(case hg => rfl);(case hr => first|(go_simp;done)|(go_simp;rfl));intro gb207 hg w23 hbox hb;have n0_:=aMk (below_step (by repeat first|exact HB.out|apply bwA|apply bwN|apply bw1) hb);have n1_:=aMk (hbox);have n2_:=aMk ((by rw [hg];exact (below_size (by repeat first|exact HB.out|apply bwA|apply bwN|apply bw1)) : w.heap.size ≤ gb207));have n3_:=aMk ((by rw [hg];exact (below_size (by repeat first|exact HB.out|apply bwA|apply bwN|apply bw1)) : w.heap.size ≤ gb207));clear HB;have HB:=n0_;have BK207:=n1_;have GW207:=n2_;have GE207:=n3_;clear n0_ n1_ n2_ n3_;clear hb hbox hg;have hcz24_0 : w23.cell? ⟨gb207,0,none⟩ = some (.int .i64 a0_0):=(bCe BK207.out 0).trans rfl;have hcz24_1 : w23.cell? ⟨gb207,1,none⟩ = some (.int .i64 a0_1):=(bCe BK207.out 1).trans rfl;have hcz24_2 : w23.cell? ⟨gb207,2,none⟩ = some (.int .i64 a0_2):=(bCe BK207.out 2).trans rfl;have hcz24_3 : w23.cell? ⟨gb207,3,none⟩ = some (.int .i64 a0_3):=(bCe BK207.out 3).trans rfl;have hcz24_4 : w23.cell? ⟨gb207,4,none⟩ = some (.int .i64 a0_4):=(bCe BK207.out 4).trans rfl;have hcz24_5 : w23.cell? ⟨gb207,5,none⟩ = some (.bool a0_5):=(bCe BK207.out 5).trans rfl;have hfz24_0:=bFr BK207.out 0;have hfz24_1:=bFr BK207.out 1;have hfz24_2:=bFr BK207.out 2;have hfz24_3:=bFr BK207.out 3;have hfz24_4:=bFr BK207.out 4;have hfz24_5:=bFr BK207.out 5)|((with_reducible refine gate_callee (f:=18) rfl ?_);refine goesL_ (some 6) rfl rfl Tryd.func18 (by kernel_rfl) rfl #[.agg #[.int .i64 a0_0,.int .i64 a0_1,.int .i64 a0_2,.int .i64 a0_3,.int .i64 a0_4,.bool a0_5]] rfl (by (try simp only [List.map_toArray,List.map_cons,List.map_nil]);first | done | rfl|(simp only [List.length_drop,List.length_take];rfl)) ?_;(with_reducible refine (impl_RuleOK.calls k a0_0 a0_1 a0_2 a0_3 a0_4 a0_5 false _ A2.out).mono ?_);rintro e w25 ⟨rfl,hb⟩;refine ⟨_,rfl,?_⟩;have n0_:=aMk (blk_below (g:=gb207) (o:=.cells #[.int .i64 a0_0,.int .i64 a0_1,.int .i64 a0_2,.int .i64 a0_3,.int .i64 a0_4,.bool a0_5] 33 (0,0)) (by (with_reducible repeat (first|refine bDn ?_ _|refine bDr ?_|refine bAl ?_ _));exact BK207.out) hb);have n1_:=aMk (below_step (by repeat (first|(with_reducible first|exact HB.out|apply bwA|apply bwN|apply bw1|refine below_set ?_ GE207.out)|exact HB.out)) hb);clear BK207;clear HB;have BK207:=n0_;have HB:=n1_;clear n0_ n1_;(try clear hb);(try clear hb2);(try clear hk);(try clear hi)))
  go_ret2
  exact ⟨by first | rfl|(simp [errW_none,errW_some] <;> rfl)|(simp [*,errW_none,errW_some] <;> rfl),by repeat (first|(with_reducible first|exact HB.out|apply bwA|apply bwN|apply bw1|refine below_set ?_ GE207.out)|exact HB.out)⟩
end
section
-- NEEDS spec.l00Digits
-- IMPORT Derived.Lib.ItoaNum
end
section
-- NEEDS spec.l01Address impl.addressText spec.l00Digits strconv.Itoa strings.Join
-- IMPORT Derived.Lib.Join
/-- A number's digits,as a text. -/
def digT (n : Nat) : ByteArray:=⟨(Lib.decDigits n).toArray⟩
def addrT (ip : Nat) : ByteArray:=((((((digT (ip / 16777216)) ++ (⟨#[46]⟩ : ByteArray)) ++ digT (ip / 65536 % 256)) ++ (⟨#[46]⟩ : ByteArray)) ++ digT (ip / 256 % 256)) ++ (⟨#[46]⟩ : ByteArray)) ++ digT (ip % 256)
end
section
-- NEEDS spec.RuleText impl.RuleText spec.l01Address impl.addressText spec.l00Digits strconv.Itoa strings.Join impl.netText impl.protoWord spec.RuleOK impl.RuleOK
def protoT (p : Int) : ByteArray:=if p = 1 then ⟨#[105,99,109,112]⟩ else if p = 6 then ⟨#[116,99,112]⟩ else if p = 17 then ⟨#[117,100,112]⟩ else ⟨#[97,110,121]⟩
theorem impl_proto (p : Int) : impl_protoWord.f p = some (protoT p):=by
 unfold impl_protoWord.f protoT
 split
 ·rfl
 ·split
  ·rfl
  ·split <;> rfl
def ruleT (al : Bool) (p : Int) (ip b lo hi : Nat) : ByteArray :=
 (((((((((if al = true then (⟨#[97,108,108,111,119]⟩ : ByteArray) else ⟨#[100,101,110,121]⟩) ++ (⟨#[32]⟩ : ByteArray)) ++ protoT p) ++ (⟨#[32]⟩ : ByteArray)) ++ ((addrT ip ++ (⟨#[47]⟩ : ByteArray)) ++ digT b)) ++ (⟨#[32]⟩ : ByteArray)) ++ digT lo) ++ (⟨#[32]⟩ : ByteArray)) ++ digT hi)
end
section
-- NEEDS spec.l00Words impl.lineWords strings.Split spec.l00Cut
theorem words_run (x : ByteArray) (hs : x.size ≤ 1000000) : ∀ (d i fr : Nat) (out : List ByteArray),i + d = x.size → fr ≤ i → out.length ≤ i → ∀ k,2 * d + 3 ≤ k →
  ∃ r,spec_l00Words.l0 k x out (fr : Int) (i : Int) = some r ∧ r.map (·.data.toList) = out.map (·.data.toList) ++ (headL ((x.data.toList.drop fr).take (i - fr)) (cutL 32 (x.data.toList.drop i))).filter (fun p => !p.isEmpty):=by
 intro d
 have hsz:=Lib.size_eq x
 have hw : ∀ i : Nat,i ≤ 1000000 → wrap64 ((i : Int) + 1) = ((i + 1 : Nat) : Int):=fun i hi => by rw [wrap_id (by omega) (by omega)];omega
 have fin : ∀ (k i fr : Nat) (out : List ByteArray),x.size < i → spec_l00Words.l0 (k + 1) x out (fr : Int) (i : Int) = some out:=fun k i fr out h => by rw [spec_l00Words.l0,if_neg (by omega)]
 have hseg : ∀ (fr i : Nat),fr ≤ i → i ≤ x.size → ((x.data.toList.drop fr).take (i - fr)).length = i - fr:=fun fr i h1 h2 => by rw [List.length_take,List.length_drop];omega
 have blank : ∀ (i fr : Nat) (out : List ByteArray) (k : Nat),i ≤ x.size → fr ≤ i → out.length ≤ i → ∃ out2 : List ByteArray,out2.length ≤ i + 1 ∧ out2.map (·.data.toList) = out.map (·.data.toList) ++ [(x.data.toList.drop fr).take (i - fr)].filter (fun p => !p.isEmpty) ∧ spec_l00Words.j1 (k + 1) x out (fr : Int) (i : Int) true = spec_l00Words.l0 k x out2 ((i + 1 : Nat) : Int) ((i + 1 : Nat) : Int):=by
  intro i fr out k hi hf ho
  have hl:=hseg fr i hf hi
  rw [spec_l00Words.j1,if_pos rfl,hw i (by omega)]
  by_cases h : fr < i
  ·refine ⟨out ++ [x.extract fr i],by rw [List.length_append,List.length_singleton];omega,?_,?_⟩
   ·have hne : ((x.data.toList.drop fr).take (i - fr)).isEmpty = false:=by
     rw [← Bool.not_eq_true,List.isEmpty_iff_length_eq_zero];omega
    rw [List.map_append,List.map_singleton,Lib.extract_data,List.filter_cons,hne]
    rfl
   ·rw [if_pos (by omega),if_pos (by omega),if_pos (by omega),if_pos (by omega),if_pos (by omega),Int.toNat_natCast,Int.toNat_natCast]
  ·refine ⟨out,by omega,?_,?_⟩
   ·have he : ((x.data.toList.drop fr).take (i - fr)).isEmpty = true:=by
     rw [List.isEmpty_iff_length_eq_zero];omega
    rw [List.filter_cons,he]
    simp
   ·rw [if_neg (by omega)]
 induction d with
 | zero =>
  intro i fr out hi hf ho k hk
  obtain ⟨k,rfl⟩ : ∃ q,k = q + 1 + 1 + 1:=⟨k - 3,by omega⟩
  obtain ⟨out2,h1,h2,h3⟩:=blank i fr out (k + 1) (by omega) hf ho
  rw [spec_l00Words.l0,if_pos (by omega),if_pos (by omega),h3,fin k (i + 1) (i + 1) out2 (by omega)]
  refine ⟨out2,rfl,?_⟩
  rw [h2,List.drop_of_length_le (by omega : x.data.toList.length ≤ i),cutL,headL,List.append_nil]
 | succ d ih =>
  intro i fr out hi hf ho k hk
  obtain ⟨k,rfl⟩ : ∃ q,k = q + 1 + 1:=⟨k - 2,by omega⟩
  have hlt : i < x.data.toList.length:=by omega
  have hdrop : x.data.toList.drop i = x.data.toList[i] :: x.data.toList.drop (i + 1):=List.drop_eq_getElem_cons hlt
  rw [spec_l00Words.l0,if_pos (by omega),if_neg (by omega),if_pos (by omega),if_pos (by omega),bt_data x i hlt]
  by_cases hc : x.data.toList[i] = 32
  ·have hb : (((x.data.toList[i]).toNat : Int) == 32) = true:=by rw [hc];rfl
   obtain ⟨out2,h1,h2,h3⟩:=blank i fr out k (by omega) hf ho
   rw [hb,h3]
   obtain ⟨r,e,hr⟩:=ih (i + 1) (i + 1) out2 (by omega) (by omega) h1 k (by omega)
   refine ⟨r,e,?_⟩
   rw [hr,h2,hdrop,Nat.sub_self,List.take_zero,headL_nil (cutL_ne _ _),cutL,if_pos hc,headL,List.append_nil,List.append_assoc]
   congr 1
   rw [← List.filter_append]
   rfl
  ·have hb : (((x.data.toList[i]).toNat : Int) == 32) = false:=by
    rw [beq_eq_false_iff_ne]
    exact fun e => hc (UInt8.toNat_inj.1 (by rw [show (32 : UInt8).toNat = 32 from rfl];omega))
   rw [hb,spec_l00Words.j1,if_neg (by decide),hw i (by omega)]
   obtain ⟨r,e,hr⟩:=ih (i + 1) fr out (by omega) (by omega) (by omega) k (by omega)
   refine ⟨r,e,?_⟩
   have hsg : i - fr < (x.data.toList.drop fr).length:=by rw [List.length_drop];omega
   have hget : (x.data.toList.drop fr)[i - fr] = x.data.toList[i]:=by
    rw [List.getElem_drop]
    congr 1
    omega
   rw [hr,hdrop,cutL,if_neg hc,headL_headL,show i + 1 - fr = i - fr + 1 by omega,← List.take_append_getElem hsg,hget]
theorem words_f (x : ByteArray) (hs : x.size ≤ 1000000) (k : Nat) (hk : 2 * x.size + 3 ≤ k) : spec_l00Words.f k x = some (wordsOf x):=by
 obtain ⟨r,e,hr⟩:=words_run x hs x.size 0 0 [] (by omega) (by omega) (by simp) k hk
 have h2 : r = wordsOf x:=map_data_inj (by
  rw [hr,wordsOf,Nat.sub_self,List.take_zero,List.drop_zero,headL_nil (cutL_ne _ _),← splitOn1_data,List.map_nil,List.nil_append,List.filter_map]
  congr 1
  apply List.filter_congr
  intro p _
  show (!p.data.toList.isEmpty) = !(p.size == 0)
  congr 1
  rw [Bool.eq_iff_iff,List.isEmpty_iff_length_eq_zero,beq_iff_eq,Lib.size_eq])
 rw [← h2]
 exact e
theorem wordsOf_le (x : ByteArray) : ∀ p ∈ wordsOf x,p.size ≤ x.size:=fun p hp => splitOn1_le x 32 p (List.mem_filter.1 hp).1
end
section
-- NEEDS spec.ReadRule impl.ReadRule spec.l07Read spec.l00Words impl.lineWords impl.readProto impl.protoWord spec.l07Protos spec.l07ProtoNumbers spec.l05Read impl.readNet spec.l00Number impl.number spec.RuleOK impl.RuleOK
def protoF (x : List UInt8) : Int × Bool:=if x = [97,110,121] then (0,true) else if x = [105,99,109,112] then (1,true) else if x = [116,99,112] then (6,true) else if x = [117,100,112] then (17,true) else (0,false)
theorem readProto_f (x : ByteArray) (k : Nat) (hk : 6 ≤ k) : impl_readProto.f k x = some (protoF x.toList):=by
 obtain ⟨k,rfl⟩ : ∃ q,k = q + 1 + 1 + 1 + 1 + 1:=⟨k - 5,by omega⟩
 have w1 : wrap64 (0 + 1) = 1:=by rw [wrap_id (by omega) (by omega)];rfl
 have w2 : wrap64 (1 + 1) = 2:=by rw [wrap_id (by omega) (by omega)];rfl
 have w3 : wrap64 (2 + 1) = 3:=by rw [wrap_id (by omega) (by omega)];rfl
 have w4 : wrap64 (3 + 1) = 4:=by rw [wrap_id (by omega) (by omega)];rfl
 have p0 : protoT 0 = ⟨#[97,110,121]⟩:=rfl
 have p1 : protoT 1 = ⟨#[105,99,109,112]⟩:=rfl
 have p2 : protoT 6 = ⟨#[116,99,112]⟩:=rfl
 have p3 : protoT 17 = ⟨#[117,100,112]⟩:=rfl
 have t0 : (⟨#[97,110,121]⟩ : ByteArray).toList = [97,110,121]:=by rw [Lib.toList_data]
 have t1 : (⟨#[105,99,109,112]⟩ : ByteArray).toList = [105,99,109,112]:=by rw [Lib.toList_data]
 have t2 : (⟨#[116,99,112]⟩ : ByteArray).toList = [116,99,112]:=by rw [Lib.toList_data]
 have t3 : (⟨#[117,100,112]⟩ : ByteArray).toList = [117,100,112]:=by rw [Lib.toList_data]
 have hstep : ∀ (k : Nat) (i j p : Int) (T : List UInt8),i < 4 → 0 ≤ i → rd [0,1,6,17] i = p → (protoT p).toList = T → wrap64 (i + 1) = j → impl_readProto.l0 (k + 1) x [0,1,6,17] 4 i = if x.toList = T then some (p,true) else impl_readProto.l0 k x [0,1,6,17] 4 j:=by
  intro k i j p T h4 h0 hr hT hj
  rw [impl_readProto.l0,if_pos h4,if_pos h0,if_pos (show i < (([0,1,6,17] : List Int).length : Int) from h4),hr,impl_proto,Option.bind_some,hT,hj]
  by_cases he : T = x.toList
  ·rw [if_pos he,if_pos he.symm]
  ·rw [if_neg he,if_neg (fun e => he e.symm)]
 rw [impl_readProto.f,Option.bind_some]
 show impl_readProto.l0 (k + 1 + 1 + 1 + 1 + 1) x [0,1,6,17] 4 0 = _
 rw [hstep _ 0 1 0 _ (by decide) (by decide) rfl (by rw [p0,t0]) w1,hstep _ 1 2 1 _ (by decide) (by decide) rfl (by rw [p1,t1]) w2,hstep _ 2 3 6 _ (by decide) (by decide) rfl (by rw [p2,t2]) w3,hstep _ 3 4 17 _ (by decide) (by decide) rfl (by rw [p3,t3]) w4,show impl_readProto.l0 (k + 1) x [0,1,6,17] 4 4 = some (0,false) by rw [impl_readProto.l0,if_neg (by decide)],protoF]
 split
 ·rfl
 ·split
  ·rfl
  ·split
   ·rfl
   ·split <;> rfl
def protoS (x : List UInt8) : Int:=if (protoF x).2 = true then (protoF x).1 else -1
theorem spec_protos (W : List ByteArray) (w1 : ByteArray) (hl : 1 < W.length) (hW : rdOf ByteArray.empty W 1 = w1) (al : Bool) (k : Nat) :
  spec_l07Read.l0 (k + 4) W [(⟨#[97,110,121]⟩ : ByteArray),(⟨#[105,99,109,112]⟩ : ByteArray),(⟨#[116,99,112]⟩ : ByteArray),(⟨#[117,100,112]⟩ : ByteArray)] 0 (-1) 0 0 0 0 al = spec_l07Read.l0 k W [(⟨#[97,110,121]⟩ : ByteArray),(⟨#[105,99,109,112]⟩ : ByteArray),(⟨#[116,99,112]⟩ : ByteArray),(⟨#[117,100,112]⟩ : ByteArray)] 4 (protoS w1.toList) 0 0 0 0 al:=by
 have e1 : wrap64 (0 + 1) = 1:=by rw [wrap_id (by omega) (by omega)];rfl
 have e2 : wrap64 (1 + 1) = 2:=by rw [wrap_id (by omega) (by omega)];rfl
 have e3 : wrap64 (2 + 1) = 3:=by rw [wrap_id (by omega) (by omega)];rfl
 have e4 : wrap64 (3 + 1) = 4:=by rw [wrap_id (by omega) (by omega)];rfl
 have t0 : (⟨#[97,110,121]⟩ : ByteArray).toList = [97,110,121]:=by rw [Lib.toList_data]
 have t1 : (⟨#[105,99,109,112]⟩ : ByteArray).toList = [105,99,109,112]:=by rw [Lib.toList_data]
 have t2 : (⟨#[116,99,112]⟩ : ByteArray).toList = [116,99,112]:=by rw [Lib.toList_data]
 have t3 : (⟨#[117,100,112]⟩ : ByteArray).toList = [117,100,112]:=by rw [Lib.toList_data]
 have step : ∀ (k : Nat) (i j p q : Int) (T : List UInt8),i < 4 → 0 ≤ i → rd [0,1,6,17] i = p → (rdOf ByteArray.empty [(⟨#[97,110,121]⟩ : ByteArray),(⟨#[105,99,109,112]⟩ : ByteArray),(⟨#[116,99,112]⟩ : ByteArray),(⟨#[117,100,112]⟩ : ByteArray)] i).toList = T → wrap64 (i + 1) = j →
   spec_l07Read.l0 (k + 1) W [(⟨#[97,110,121]⟩ : ByteArray),(⟨#[105,99,109,112]⟩ : ByteArray),(⟨#[116,99,112]⟩ : ByteArray),(⟨#[117,100,112]⟩ : ByteArray)] i q 0 0 0 0 al = spec_l07Read.l0 k W [(⟨#[97,110,121]⟩ : ByteArray),(⟨#[105,99,109,112]⟩ : ByteArray),(⟨#[116,99,112]⟩ : ByteArray),(⟨#[117,100,112]⟩ : ByteArray)] j (if w1.toList = T then p else q) 0 0 0 0 al:=by
  intro k i j p q T h4 h0 hr hT hj
  have hl5 : i < (([(⟨#[97,110,121]⟩ : ByteArray),(⟨#[105,99,109,112]⟩ : ByteArray),(⟨#[116,99,112]⟩ : ByteArray),(⟨#[117,100,112]⟩ : ByteArray)] : List ByteArray).length : Int):=h4
  rw [spec_l07Read.l0,if_pos hl5,if_pos h0,if_pos (by omega),hT,hW,hj]
  by_cases he : T = w1.toList
  ·rw [if_pos he,if_pos he.symm,spec_l07ProtoNumbers.f,Option.bind_some,if_pos (show i < (([0,1,6,17] : List Int).length : Int) from h4),hr]
  ·rw [if_neg he,if_neg (fun e => he e.symm)]
 rw [show k + 4 = k + 1 + 1 + 1 + 1 from rfl]
 rw [step _ 0 1 0 _ _ (by decide) (by decide) rfl t0 e1,step _ 1 2 1 _ _ (by decide) (by decide) rfl t1 e2,step _ 2 3 6 _ _ (by decide) (by decide) rfl t2 e3,step _ 3 4 17 _ _ (by decide) (by decide) rfl t3 e4]
 congr 1
 unfold protoS protoF
 by_cases c0 : w1.toList = [97,110,121]
 ·simp [c0]
 ·by_cases c1 : w1.toList = [105,99,109,112]
  ·simp [c1]
  ·by_cases c2 : w1.toList = [116,99,112]
   ·simp [c2]
   ·by_cases c3 : w1.toList = [117,100,112]
    ·simp [c3]
    ·simp [c0,c1,c2,c3]
theorem five {l : List ByteArray} (h : l.length = 5) : ∃ a b c d e,l = [a,b,c,d,e]:=by
 match l,h with
 | [a,b,c,d,e],_ => exact ⟨a,b,c,d,e,rfl⟩
theorem ruleb_neg (ip b lo hi : Int) : ruleb (-1) ip b lo hi = false:=by
 rw [ruleb,decide_eq_false (by decide),Bool.false_and]
/-- Behind the first word. -/
theorem rule_rest (a b c d e : ByteArray) (hb : c.size ≤ 65536) (hd : d.size ≤ 65536) (he : e.size ≤ 65536) : ∃ (rs : Int × Int × Int × Int × Int × Bool × Bool) (ri : Int × Int × Int × Int × Int × Bool × Int),
  ri = (if rs.2.2.2.2.2.2 = true then (rs.1,rs.2.1,rs.2.2.1,rs.2.2.2.1,rs.2.2.2.2.1,rs.2.2.2.2.2.1,0) else (0,0,0,0,0,false,3)) ∧
  ∀ k,80000 ≤ k → spec_l07Read.j0 k [a,b,c,d,e] false = some rs ∧ impl_ReadRule.j0 k [a,b,c,d,e] false = some ri:=by
 obtain ⟨ns,ni,hn1,hn2,hn⟩:=readNet_both c hb
 obtain ⟨ls,li,lo,hl1,hl2,hl3⟩:=number_both d hd
 obtain ⟨us,ui,uo,hu1,hu2,hu3⟩:=number_both e he
 obtain ⟨al,hal⟩ : ∃ al,(a.toList == ([97,108,108,111,119] : List UInt8)) = al:=⟨_,rfl⟩
 have z : ∀ i : Int,i < 5 → i < (([a,b,c,d,e] : List ByteArray).length : Int):=fun i hi => hi
 have g0 : rdOf ByteArray.empty [a,b,c,d,e] 0 = a:=rfl
 have g1 : rdOf ByteArray.empty [a,b,c,d,e] 1 = b:=rfl
 have g2 : rdOf ByteArray.empty [a,b,c,d,e] 2 = c:=rfl
 have g3 : rdOf ByteArray.empty [a,b,c,d,e] 3 = d:=rfl
 have g4 : rdOf ByteArray.empty [a,b,c,d,e] 4 = e:=rfl
 have hE : ∀ k,70001 ≤ k → spec_l07Read.l0 k [a,b,c,d,e] [(⟨#[97,110,121]⟩ : ByteArray),(⟨#[105,99,109,112]⟩ : ByteArray),(⟨#[116,99,112]⟩ : ByteArray),(⟨#[117,100,112]⟩ : ByteArray)] 4 (protoS b.toList) 0 0 0 0 al = some (protoS b.toList,ns.1,ns.2.1,ls,us,al,ns.2.2 && (lo && (uo && ruleb (protoS b.toList) ns.1 ns.2.1 ls us))):=fun k hk => by
  obtain ⟨k,rfl⟩ : ∃ q,k = q + 1:=⟨k - 1,by omega⟩
  rw [spec_l07Read.l0,if_neg (show ¬ (4 : Int) < (([(⟨#[97,110,121]⟩ : ByteArray),(⟨#[105,99,109,112]⟩ : ByteArray),(⟨#[116,99,112]⟩ : ByteArray),(⟨#[117,100,112]⟩ : ByteArray)] : List ByteArray).length : Int) by decide),if_pos (z 2 (by decide)),g2,(hn k (by omega)).1,Option.bind_some,if_pos (z 3 (by decide)),g3,hl3 k (by omega),Option.bind_some,if_pos (z 4 (by decide)),g4,hu3 k (by omega),Option.bind_some,spec_RuleOK_eq,Option.bind_some]
  cases ns.2.2 <;> cases lo <;> cases uo <;> rfl
 have hS : ∀ k,80000 ≤ k → spec_l07Read.j0 k [a,b,c,d,e] false = some (protoS b.toList,ns.1,ns.2.1,ls,us,al,ns.2.2 && (lo && (uo && ruleb (protoS b.toList) ns.1 ns.2.1 ls us))):=fun k hk => by
  obtain ⟨k,rfl⟩ : ∃ q,k = q + 4 + 1:=⟨k - 5,by omega⟩
  rw [spec_l07Read.j0,if_neg Bool.false_ne_true,if_pos (z 0 (by decide)),g0,hal,spec_l07Protos.f,Option.bind_some,spec_protos [a,b,c,d,e] b (by simp) g1 al k]
  exact hE k (by omega)
 have hI : ∀ k,80000 ≤ k → impl_ReadRule.j0 k [a,b,c,d,e] false = some (if ((protoF b.toList).2 && (ni.2.2 && (lo && (uo && ruleb (protoF b.toList).1 ni.1 ni.2.1 li ui)))) = true then ((protoF b.toList).1,ni.1,ni.2.1,li,ui,al,0) else (0,0,0,0,0,false,3)):=fun k hk => by
  obtain ⟨k,rfl⟩ : ∃ q,k = q + 5 + 1:=⟨k - 6,by omega⟩
  rw [impl_ReadRule.j0,if_neg Bool.false_ne_true,if_pos (z 1 (by decide)),g1,readProto_f b (k + 5) (by omega),Option.bind_some,if_pos (z 2 (by decide)),g2,(hn (k + 5) (by omega)).2,Option.bind_some,if_pos (z 3 (by decide)),g3,hl2,Option.bind_some,if_pos (z 4 (by decide)),g4,hu2,Option.bind_some,if_pos (z 0 (by decide)),g0,hal,impl_RuleOK_eq,Option.bind_some]
  cases (protoF b.toList).2 <;> cases ni.2.2 <;> cases lo <;> cases uo <;> cases ruleb (protoF b.toList).1 ni.1 ni.2.1 li ui <;> rfl
 refine ⟨_,_,?_,fun k hk => ⟨hS k hk,hI k hk⟩⟩
 dsimp only
 rw [← hn1]
 cases hp : (protoF b.toList).2 with
 | false =>
  have hps : protoS b.toList = -1:=by rw [protoS,hp,if_neg Bool.false_ne_true]
  rw [hps,ruleb_neg]
  simp
 | true =>
  have hps : protoS b.toList = (protoF b.toList).1:=by rw [protoS,hp,if_pos rfl]
  rw [hps]
  cases h1 : ns.2.2 with
  | false => simp
  | true =>
   have e1:=hn2 h1
   subst e1
   cases lo with
   | false => simp
   | true =>
    obtain rfl:=hl1 rfl
    cases uo with
    | false => simp
    | true =>
     obtain rfl:=hu1 rfl
     simp
theorem ReadRule_both (t : ByteArray) : ∃ r,∀ k,200000 ≤ k → spec_ReadRule.f k t = some r ∧ impl_ReadRule.f k t = some r:=by
 by_cases ht : (t.size : Int) > 65536
 ·exact ⟨(0,0,0,0,0,false,2),fun k _ => ⟨by rw [spec_ReadRule.f,if_pos ht],by rw [impl_ReadRule.f,if_pos ht]⟩⟩
 ·have hs : ∀ k,200000 ≤ k → spec_l00Words.f k t = some (wordsOf t):=fun k hk => words_f t (by omega) k (by omega)
  have hi : impl_lineWords.f t = some (wordsOf t):=by rw [impl_lineWords.f,if_pos (by omega)]
  have hle:=wordsOf_le t
  obtain ⟨W,hW⟩ : ∃ W,wordsOf t = W:=⟨_,rfl⟩
  rw [hW] at hs hi hle
  have bad : ∀ k,200000 ≤ k → spec_l07Read.j0 k W true = some (0,0,0,0,0,false,false) ∧ impl_ReadRule.j0 k W true = some (0,0,0,0,0,false,3):=fun k hk => by
   obtain ⟨k,rfl⟩ : ∃ q,k = q + 1:=⟨k - 1,by omega⟩
   rw [spec_l07Read.j0,impl_ReadRule.j0,if_pos rfl,if_pos rfl]
   exact ⟨rfl,rfl⟩
  have hbad : (∀ k,200000 ≤ k → spec_l07Read.f k t = spec_l07Read.j0 k W true ∧ impl_ReadRule.f k t = impl_ReadRule.j0 k W true) → ∃ r,∀ k,200000 ≤ k → spec_ReadRule.f k t = some r ∧ impl_ReadRule.f k t = some r:=fun h => ⟨(0,0,0,0,0,false,3),fun k hk => by
   obtain ⟨h1,h2⟩:=h k hk
   obtain ⟨h3,h4⟩:=bad k hk
   rw [spec_ReadRule.f,if_neg ht,h1,h3,h2,h4,Option.bind_some,if_neg Bool.false_ne_true]
   exact ⟨rfl,rfl⟩⟩
  by_cases h5 : (W.length : Int) = 5
  ·obtain ⟨a,b,c,d,e,rfl⟩:=five (show W.length = 5 by omega)
   have z0 : (0 : Int) < (([a,b,c,d,e] : List ByteArray).length : Int):=by
    show (0 : Int) < 5
    decide
   have g0 : rdOf ByteArray.empty [a,b,c,d,e] 0 = a:=rfl
   have hgood : (∀ k,200000 ≤ k → spec_l07Read.f k t = spec_l07Read.j0 k [a,b,c,d,e] false ∧ impl_ReadRule.f k t = impl_ReadRule.j0 k [a,b,c,d,e] false) → ∃ r,∀ k,200000 ≤ k → spec_ReadRule.f k t = some r ∧ impl_ReadRule.f k t = some r:=fun h => by
    obtain ⟨rs,ri,he,hk⟩:=rule_rest a b c d e (Nat.le_trans (hle c (by simp)) (by omega)) (Nat.le_trans (hle d (by simp)) (by omega)) (Nat.le_trans (hle e (by simp)) (by omega))
    refine ⟨ri,fun k hk2 => ?_⟩
    obtain ⟨h1,h2⟩:=h k hk2
    obtain ⟨h3,h4⟩:=hk k (by omega)
    refine ⟨?_,h2.trans h4⟩
    rw [spec_ReadRule.f,if_neg ht,h1,h3,Option.bind_some,he]
    split <;> rfl
   by_cases ha : a.toList = ([97,108,108,111,119] : List UInt8)
   ·refine hgood fun k hk => ?_
    rw [spec_l07Read.f,impl_ReadRule.f,if_neg ht,hs k hk,hi,Option.bind_some,Option.bind_some,if_pos h5,if_pos h5,if_pos z0,if_pos z0,g0,if_pos ha,if_pos ha]
    exact ⟨rfl,rfl⟩
   ·by_cases hd : a.toList = ([100,101,110,121] : List UInt8)
    ·have hq : (a.toList != ([100,101,110,121] : List UInt8)) = false:=by rw [hd];rfl
     refine hgood fun k hk => ?_
     rw [spec_l07Read.f,impl_ReadRule.f,if_neg ht,hs k hk,hi,Option.bind_some,Option.bind_some,if_pos h5,if_pos h5,if_pos z0,if_pos z0,g0,if_neg ha,if_neg ha,hq]
     exact ⟨rfl,rfl⟩
    ·have hq : (a.toList != ([100,101,110,121] : List UInt8)) = true:=by
      rw [bne_iff_ne];exact hd
     refine hbad fun k hk => ?_
     rw [spec_l07Read.f,impl_ReadRule.f,if_neg ht,hs k hk,hi,Option.bind_some,Option.bind_some,if_pos h5,if_pos h5,if_pos z0,if_pos z0,g0,if_neg ha,if_neg ha,hq]
     exact ⟨rfl,rfl⟩
  ·refine hbad fun k hk => ?_
   rw [spec_l07Read.f,impl_ReadRule.f,if_neg ht,hs k hk,hi,Option.bind_some,Option.bind_some,if_neg h5,if_neg h5]
   exact ⟨rfl,rfl⟩
end
section
def P_FnExactReadRule : Prop:=∀ (a0 : ByteArray),a0.size ≤ 140737488351232 → ∃ k,laws_FnExactReadRule.f k a0 = some true
end
section
-- NEEDS laws.FnExactReadRule
theorem eqRule_self (a b c d e : Int) (f : Bool) : laws_eqRule.f a b c d e f a b c d e f = some true:=by
 rw [laws_eqRule.f,if_pos rfl,laws_eqNet.f,if_pos rfl,if_pos rfl,Option.bind_some,if_pos rfl,laws_eqRange.f,if_pos rfl,if_pos rfl,Option.bind_some,if_pos rfl,bne_self_eq_false,if_neg Bool.false_ne_true]
theorem pure_FnExactReadRule : P_FnExactReadRule:=by
 intro a _
 refine ⟨200000,?_⟩
 by_cases hb : (a.size : Int) > 1048576
 ·rw [laws_FnExactReadRule.f,if_pos hb]
 ·obtain ⟨r,hr⟩:=ReadRule_both a
  obtain ⟨h1,h2⟩:=hr 200000 (Nat.le_refl _)
  rw [laws_FnExactReadRule.f,if_neg hb,h1,h2,Option.bind_some,Option.bind_some,eqRule_self,Option.bind_some,if_pos rfl,if_pos rfl]
end
section
-- IMPORT Derived.Test.YtiemmhhjiplnlaaDoorRows
-- IMPORT Derived.Test.YtiemmhhjiplnlaaDoorCards
-- IMPORT Derived.Test.YtiemmhhjiplnlaaDoorTie
-- IMPORT Derived.LaidMore
-- IMPORT Derived.Lay
-- IMPORT Derived.SevenTiedAt
-- IMPORT Derived.Stop.Joined
-- IMPORT Derived.Stop.LaidErr
-- IMPORT Derived.Handed
-- IMPORT Derived.Lib.LaidTab
-- IMPORT Derived.Lib.ItoaNum
-- IMPORT Derived.WalkKit
-- IMPORT Derived.ProofKit
-- IMPORT Derived.OpenShut
-- IMPORT Derived.ShutString
-- IMPORT Derived.ChangeOld
-- IMPORT Derived.Below
-- IMPORT Derived.SizedLaws
open Go.ChangeShapes Go.WideShapes Go.ChangeAt
open Go.ChangeMaps (open_string shut_string)
theorem own_FnExactReadRule : ownKnob Tryd.prog.godebug = none:=by kernel_rfl
noncomputable def laidL_FnExactReadRule : List (String × DataW Unit):=Rows.fnExactReadRuleRow.laid
set_option maxHeartbeats 4000000 in
set_option maxRecDepth 100000 in
theorem lifted_FnExactReadRule (os : Os) (started : os.Started) (H : Type) (enc : TypeId × Value → H) :
  ReturnsInHanded {} Tryd.checked os 4 .any (fun w args => (Rows.fnExactReadRuleSpec.pre enc Tryd.prog Tryd.f4 Rows.fnExactReadRuleRow.domain false w args ∧ laidMetH Tryd.prog laidL_FnExactReadRule w) ∧ sizedMet enc Tryd.prog Tryd.f4 (OpenSpec.ofChange Rows.fnExactReadRuleSpec) false w args) (Rows.fnExactReadRuleSpec.post enc Tryd.prog Tryd.f4 false true false false):=by
 refine returnsInHanded_of_change_and (C:=Tryd.checked) (X:=fun w _ => laidMetH Tryd.prog laidL_FnExactReadRule w) (fun _ _ _ hh h => h.of_heap hh) own_FnExactReadRule started (by kernel_rfl) Tryd.func4
  (ChangeSpec.witness_shaped (enc:=enc) (C:=Tryd.checked) (os:=os) (X:=fun w _ => laidMetH Tryd.prog laidL_FnExactReadRule w) false (World.laidAll Tryd.prog os laidL_FnExactReadRule) #[.string ByteArray.empty] 8 (World.laidAll_os _ _ _)
   (World.shaped_of_ZipB (by kernel_rfl) (by kernel_rfl)) (by kernel_rfl) (by kernel_rfl) (by kernel_rfl) (by rw [MakeChecks.laidMetH_plain _ _ _ (by kernel_rfl)];exact laidMet_laidAll _ (by kernel_rfl) (by kernel_rfl))) ?_
 intro W base args ds gs before hval0 hW hcnd hsz0 hL _
 have hsz : (DataW.weightsEach Tryd.prog (Tryd.f4.params.toList ++ Rows.fnExactReadRuleSpec.plain.varTypes Tryd.prog) (ds ++ gs)).all (· ≤ reachBytes) = true:=hsz0
 have hval : ∀ (j : Nat) t v,Tryd.f4.params[j]? = some t → args[j]? = some v → Value.okWide Tryd.prog W .any base t v:=hval0
 have hW':=hW
 obtain ⟨p,q,hA0,hV,rfl,hfz,hnd⟩:=hW
 have hA : DataW.TrodAll enc Tryd.prog W 0 (fun _ => true) true Tryd.f4.params.toList args.toList ds p:=hA0
 rw [Tryd.params4] at hA hval hsz
 obtain ⟨v0,vs0,d0,ds0,p0,q0,hargs,rfl,rfl,h0,r0⟩:=trodAll_cons hA
 obtain ⟨rfl,rfl,rfl⟩:=trodAll_nil r0
 obtain rfl : args = #[v0]:=by cases args;simp_all
 obtain ⟨rfl,rfl⟩:=trodVars_none hV
 obtain ⟨a0,rfl,rfl,rfl,y0⟩:=open_string Tryd.underlying9 (hval 0 9 v0 rfl rfl) h0
 have w0 : a0.size ≤ 140737488351232:=by
  have z:=sized_string hsz (j:=0) (t:=9) rfl rfl
  rw [Array.length_toList] at z
  exact z
 have hL1:=hL
 rw [MakeChecks.laidMetH_plain _ _ _ (by kernel_rfl)] at hL1
 have hL2 : laidMet Tryd.prog [("math/bits.deBruijn32tab",Rows.laid_math_bits_deBruijn32tab),("math/bits.deBruijn64tab",Rows.laid_math_bits_deBruijn64tab),("internal/strconv.uint64pow10",Rows.laid_internal_strconv_uint64pow10),("unicode/utf8.acceptRanges",Rows.laid_unicode_utf8_acceptRanges),("strconv.ErrRange",Rows.laid_strconv_ErrRange),("strconv.ErrSyntax",Rows.laid_strconv_ErrSyntax),("unicode/utf8.first",Rows.laid_unicode_utf8_first)] W:=hL1
 have hL3 : laidMet Tryd.prog (("internal/strconv.uint64pow10",Lib.tabData .u64 Lib.pow10Tab) :: [("unicode/utf8.acceptRanges",Rows.laid_unicode_utf8_acceptRanges),("strconv.ErrRange",Rows.laid_strconv_ErrRange),("strconv.ErrSyntax",Rows.laid_strconv_ErrSyntax),("unicode/utf8.first",Rows.laid_unicode_utf8_first)]) W:=by
  have e_ : (Rows.laid_internal_strconv_uint64pow10 : DataW Unit) = Lib.tabData .u64 Lib.pow10Tab:=by kernel_rfl
  have h_:=laidMet.tail (laidMet.tail (hL2))
  rw [e_] at h_
  exact h_
 have hGp : GLp W:=Lib.tabIs_of_head (g:=1) (t:=108) (e:=92) (n:=20) (by kernel_rfl) (by kernel_rfl) (by kernel_rfl) (by kernel_rfl) (by kernel_rfl) (by kernel_rfl) hL3
 clear hL1 hL2 hL3
 have hL4:=hL
 rw [MakeChecks.laidMetH_plain _ _ _ (by kernel_rfl)] at hL4
 have hL5 : laidMet Tryd.prog [("math/bits.deBruijn32tab",Rows.laid_math_bits_deBruijn32tab),("math/bits.deBruijn64tab",Rows.laid_math_bits_deBruijn64tab),("internal/strconv.uint64pow10",Rows.laid_internal_strconv_uint64pow10),("unicode/utf8.acceptRanges",Rows.laid_unicode_utf8_acceptRanges),("strconv.ErrRange",Rows.laid_strconv_ErrRange),("strconv.ErrSyntax",Rows.laid_strconv_ErrSyntax),("unicode/utf8.first",Rows.laid_unicode_utf8_first)] W:=hL4
 have hES : isErrV W 2:=by
  have h_ : laidMet Tryd.prog (("strconv.ErrSyntax",Rows.laid_strconv_ErrSyntax) :: [("unicode/utf8.first",Rows.laid_unicode_utf8_first)]) W:=laidMet.tail (laidMet.tail (laidMet.tail (laidMet.tail (laidMet.tail (hL5)))))
  obtain ⟨ps,⟨g',t',cs,fuel,p,q,hg',ht',hvar,hd,_,_⟩,_⟩:=h_
  obtain rfl:=Option.some.inj ((show Tryd.prog.globalNamed "strconv.ErrSyntax" = some 2 by kernel_rfl).symm.trans hg')
  obtain rfl:=Option.some.inj ((show (Tryd.prog.globals[2]?).map (·.type) = some 69 by kernel_rfl).symm.trans ht')
  have hc:=World.var?_cell hg' hvar 0
  exact err_cell Tryd.underlying69 hd hc
 have hER : isErrV W 3:=by
  have h_ : laidMet Tryd.prog (("strconv.ErrRange",Rows.laid_strconv_ErrRange) :: [("strconv.ErrSyntax",Rows.laid_strconv_ErrSyntax),("unicode/utf8.first",Rows.laid_unicode_utf8_first)]) W:=laidMet.tail (laidMet.tail (laidMet.tail (laidMet.tail (hL5))))
  obtain ⟨ps,⟨g',t',cs,fuel,p,q,hg',ht',hvar,hd,_,_⟩,_⟩:=h_
  obtain rfl:=Option.some.inj ((show Tryd.prog.globalNamed "strconv.ErrRange" = some 3 by kernel_rfl).symm.trans hg')
  obtain rfl:=Option.some.inj ((show (Tryd.prog.globals[3]?).map (·.type) = some 69 by kernel_rfl).symm.trans ht')
  have hc:=World.var?_cell hg' hvar 0
  exact err_cell Tryd.underlying69 hd hc
 have hGe : GLe W:=⟨hES,hER⟩
 clear hL4 hL5
 clear hL
 clear hA0 hval0 hsz0 hsz
 obtain ⟨k,hk⟩:=pure_FnExactReadRule a0 w0
 refine (laws_FnExactReadRule.calls k a0 true W  hGe hGp hk).mono fun e W' hh => ?_
 obtain ⟨he,bel0⟩:=hh
 have bel : Below W.heap.size W W':=bel0
 subst he
 exact ⟨_,rfl,_,_,_,[],_,[],hW',trodAll_mk1 (shut_bool Tryd.underlying4 _),(trodAll_cons_mk (shut_string Tryd.underlying9 y0) trodAll_mk0),rfl,bel.frame _,fun h => by cases h⟩
theorem over_FnExactReadRule : Rows.fnExactReadRuleRow.holds Tryd.pinned (OpenSpec.ofChange Rows.fnExactReadRuleSpec) :=
 OpenClaim.holds_of_wide 4 Tryd.f4 rfl rfl rfl rfl rfl rfl rfl ⟨rfl,rfl,rfl,rfl,rfl⟩ rfl rfl rfl rfl rfl (by kernel_rfl) Tryd.func4 (by kernel_rfl)
  (of_decide_eq_true (by kernel_rfl)) (by unfold Func.isWrapper;first|(rw [if_pos (by decide +kernel)];kernel_rfl)|(rw [if_neg (by decide +kernel)];exact ⟨rfl,rfl⟩))
  (fun os started H enc _ => lifted_FnExactReadRule os started H enc)
theorem proved_FnExactReadRule : Rows.FnExactReadRuleCardSaid :=
 Claim7.holds_tied_plain_at .later [] [.data,.data,.data,.data,.sentinel,.sentinel,.pinned] true (true,"85bbebc138b4395892a062e8f118e8fc7922ebafbd3a14bf9c694507a37ef1a4") true over_FnExactReadRule (fun _ h => by cases h) (by kernel_rfl) (fun _ h => by cases h) fnExactReadRule_row_tie rfl ⟨rfl,rfl⟩ (by kernel_rfl) rfl
  (fun f fn hf hfn => by
   obtain rfl : f = 4:=Option.some.inj ((show Tryd.prog.funcNamed "loop.example/g00356/laws.FnExactReadRule" = some 4 by kernel_rfl).symm.trans hf) |>.symm
   obtain rfl : fn = Tryd.f4:=(Option.some.inj (Tryd.func4.symm.trans hfn)).symm
   exact ⟨by kernel_rfl,fun j t ht => by
    rw [Tryd.params4] at ht
    have hm : t ∈ [9]:=by simpa using Array.mem_of_getElem? ht
    have hall : ([9].all fun u => !Tryd.prog.wantsStandIn u) = true:=by kernel_rfl
    exact (show Tryd.prog.wantsStandIn t = false by simpa using List.all_eq_true.1 hall t hm)⟩)
  (by kernel_rfl)
#print axioms proved_FnExactReadRule
end
end Go.Proofs.YtiemmhhjiplnlaaDoor.X
