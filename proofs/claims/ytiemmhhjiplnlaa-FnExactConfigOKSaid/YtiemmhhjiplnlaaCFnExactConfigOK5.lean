/- The program's ConfigOK returns what the reference's ConfigOK returns, for all arguments. Conditions: none beyond the row's own reach. -/
import Derived.Test.YtiemmhhjiplnlaaCFnExactConfigOK4
import Derived.Test.YtiemmhhjiplnlaaRows
namespace Go.Proofs.Ytiemmhhjiplnlaa.X
open Go.RowKit Go.Proofs.YtiemmhhjiplnlaaW.PrintWords Go.Proofs.YtiemmhhjiplnlaaW.PrintLast Go.Proofs.YtiemmhhjiplnlaaW.PrintMore
attribute [local go_sem] max2_int min2_int max_two min_two max_three min_three max_four min_four   -- for this text's walks alone
set_option linter.unusedVariables false
set_option linter.unusedSimpArgs false
open Go.Proofs.YtiemmhhjiplnlaaW.PrintWords renaming blk_drewN -> bDn
open Go.Proofs.YtiemmhhjiplnlaaW.PrintWords renaming blk_drew -> bDr
open Go.Proofs.YtiemmhhjiplnlaaW.PrintWords renaming blk_alloc -> bAl
open Go.Proofs.YtiemmhhjiplnlaaW.PrintWords renaming blk_frozen -> bFr
open Go.Proofs.YtiemmhhjiplnlaaW.PrintWords renaming blk_cell -> bCe
open Go.Proofs.YtiemmhhjiplnlaaW.PrintWords.Aside0 renaming mk -> aMk
open Go.World renaming block_lt_of_cell? -> wLt
open Go.Proofs.YtiemmhhjiplnlaaW.PrintWords renaming pw_below_drewN -> bwN
open Go.Proofs.YtiemmhhjiplnlaaW.PrintWords renaming below_drew1 -> bw1
open Go.Proofs.YtiemmhhjiplnlaaW.PrintWords renaming below_alloc -> bwA
section
-- NEEDS spec.l00Letter spec.l00Digit impl.isLetter impl.isDigit
def letb (c : Int) : Bool:=decide (97 ≤ c ∧ c ≤ 122) || (decide (65 ≤ c ∧ c ≤ 90) || decide (c = 95))
def digb (c : Int) : Bool:=decide (48 ≤ c ∧ c ≤ 57)
theorem spec_letter (c : Int) : spec_l00Letter.f c = some (letb c):=by unfold spec_l00Letter.f letb;grind
theorem spec_digit (c : Int) : spec_l00Digit.f c = some (digb c):=by unfold spec_l00Digit.f digb;grind
theorem impl_letter (c : Int) : impl_isLetter.f c = some (letb c):=by unfold impl_isLetter.f letb;grind
theorem impl_digit (c : Int) : impl_isDigit.f c = some (digb c):=by unfold impl_isDigit.f digb;grind
end
section
-- NEEDS spec.NameOK impl.NameOK
def wordFrom (a : ByteArray) : Nat → Nat → Bool
 | _,0 => true
 | i,d + 1 => (letb (bt a i) || digb (bt a i)) && wordFrom a (i + 1) d
def nameb (a : ByteArray) : Bool:=decide (1 ≤ a.size ∧ a.size ≤ 40) && (letb (bt a 0) && wordFrom a 1 (a.size - 1))
theorem spec_word_run (a : ByteArray) (hs : a.size ≤ 40) : ∀ (d i : Nat),i + d = a.size → ∀ k,d + 1 ≤ k → spec_l00Word.l0 k a (i : Int) = some (wordFrom a i d)
 | 0,i,h,k,hk => by
  obtain ⟨k,rfl⟩ : ∃ z,k = z + 1:=⟨k - 1,by omega⟩
  rw [spec_l00Word.l0,if_neg (by omega)];rfl
 | d + 1,i,h,k,hk => by
  obtain ⟨k,rfl⟩ : ∃ z,k = z + 1:=⟨k - 1,by omega⟩
  have ih:=spec_word_run a hs d (i + 1) (by omega) k (by omega)
  rw [spec_l00Word.l0,if_pos (by omega),if_pos (by omega),spec_letter,Option.bind_some,spec_digit,Option.bind_some,wrap_id (by omega) (by omega),show (i : Int) + 1 = ((i + 1 : Nat) : Int) by omega,ih,wordFrom]
  cases letb (bt a i) <;> cases digb (bt a i) <;> simp
theorem impl_word_run (a : ByteArray) (hs : a.size ≤ 40) : ∀ (d i : Nat),i + d = a.size → ∀ k,d + 1 ≤ k → impl_NameOK.l0 k a (a.size : Int) (i : Int) = some (wordFrom a i d)
 | 0,i,h,k,hk => by
  obtain ⟨k,rfl⟩ : ∃ z,k = z + 1:=⟨k - 1,by omega⟩
  rw [impl_NameOK.l0,if_neg (by omega)];rfl
 | d + 1,i,h,k,hk => by
  obtain ⟨k,rfl⟩ : ∃ z,k = z + 1:=⟨k - 1,by omega⟩
  have ih:=impl_word_run a hs d (i + 1) (by omega) k (by omega)
  rw [impl_NameOK.l0,if_pos (by omega),if_pos (by omega),if_pos (by omega),impl_letter,Option.bind_some,impl_digit,Option.bind_some,wrap_id (by omega) (by omega),show (i : Int) + 1 = ((i + 1 : Nat) : Int) by omega,ih,wordFrom]
  cases letb (bt a i) <;> cases digb (bt a i) <;> simp
theorem spec_Name_ev (a : ByteArray) (k : Nat) (hk : a.size + 2 ≤ k) : spec_NameOK.f k a = some (nameb a):=by
 obtain ⟨k,rfl⟩ : ∃ z,k = z + 1:=⟨k - 1,by omega⟩
 unfold spec_NameOK.f spec_l00Word.f nameb
 by_cases h1 : (a.size : Int) < 1
 ·rw [if_pos h1,decide_eq_false (by omega)];simp [spec_l00Word.j0]
 ·by_cases h2 : (a.size : Int) > 40
  ·rw [if_neg h1,if_pos h2,decide_eq_false (by omega)];simp [spec_l00Word.j0]
  ·have e:=spec_word_run a (by omega) (a.size - 1) 1 (by omega) k (by omega)
   rw [if_neg h1,if_neg h2,if_pos (by omega),decide_eq_true (by omega),spec_letter,Option.bind_some,spec_l00Word.j0]
   rw [show ((1 : Nat) : Int) = 1 from rfl] at e
   rw [e]
   cases letb (bt a 0) <;> simp
theorem letb_digb {c : Int} (h : digb c = true) : letb c = false:=by
 simp only [digb,decide_eq_true_eq] at h
 simp only [letb]
 rw [decide_eq_false (by omega),decide_eq_false (by omega),decide_eq_false (by omega)];rfl
theorem impl_Name_ev (a : ByteArray) (k : Nat) (hk : a.size + 2 ≤ k) : impl_NameOK.f k a = some (nameb a):=by
 obtain ⟨k,rfl⟩ : ∃ z,k = z + 1:=⟨k - 1,by omega⟩
 unfold impl_NameOK.f nameb
 rw [within_eq,Option.bind_some]
 by_cases h1 : 1 ≤ a.size ∧ a.size ≤ 40
 ·have e:=impl_word_run a (by omega) a.size 0 (by omega) k (by omega)
  have ew : wordFrom a 0 a.size = ((letb (bt a 0) || digb (bt a 0)) && wordFrom a 1 (a.size - 1)):=by
   obtain ⟨n,hn⟩ : ∃ n,a.size = n + 1:=⟨a.size - 1,by omega⟩
   rw [hn];rfl
  rw [decide_eq_true (by omega),if_pos rfl,if_pos (by omega),impl_digit,Option.bind_some,impl_NameOK.j0,decide_eq_true h1]
  rw [show ((0 : Nat) : Int) = 0 from rfl] at e
  rw [e,ew]
  cases hd : digb (bt a 0)
  ·simp
  ·simp [letb_digb hd]
 ·rw [decide_eq_false (by omega),if_neg (by decide),decide_eq_false h1];simp [impl_NameOK.j0]
end
section
-- NEEDS spec.l07Range impl.rangeOK
def rangeb (lo hi : Int) : Bool:=decide (0 ≤ lo ∧ lo ≤ 65535) && decide (lo ≤ hi ∧ hi ≤ 65535)
theorem spec_range_eq (lo hi : Int) : spec_l07Range.f lo hi = some (rangeb lo hi):=by
 simp only [spec_l07Range.f,l01In_eq,Option.bind_some,rangeb]
 by_cases h : 0 ≤ lo ∧ lo ≤ 65535
 ·rw [decide_eq_true h];rfl
 ·rw [decide_eq_false h];rfl
theorem impl_range_eq (lo hi : Int) : impl_rangeOK.f lo hi = some (rangeb lo hi):=by
 simp only [impl_rangeOK.f,within_eq,Option.bind_some,rangeb]
 by_cases h : 0 ≤ lo ∧ lo ≤ hi
 ·rw [decide_eq_true h,if_pos rfl,← Bool.decide_and]
  congr 1;exact decide_eq_decide.2 (by omega)
 ·rw [decide_eq_false h,if_neg (by decide),← Bool.decide_and,decide_eq_false (by omega)]
end
section
-- NEEDS spec.l01Ip impl.isAddress
theorem l01Ip_eq (a : Int) : spec_l01Ip.f a = some (decide (0 ≤ a ∧ a ≤ 4294967295)):=by simp only [spec_l01Ip.f,l01In_eq,Option.bind_some]
theorem isAddress_eq (a : Int) : impl_isAddress.f a = some (decide (0 ≤ a ∧ a ≤ 4294967295)):=by simp only [impl_isAddress.f,within_eq,Option.bind_some]
end
section
-- NEEDS spec.NetOK impl.NetOK spec.l05Has (impl.Net).has
-- IMPORT Derived.Laws.Bits64
theorem wrapu_id {n : Int} (h0 : 0 ≤ n) (h1 : n ≤ 9223372036854775807) : IntKind.u64.wrap n = n:=by
 rw [IntKind.wrap_u64];omega
def netb (ip b : Int) : Bool:=decide (0 ≤ ip ∧ ip ≤ 4294967295) && (decide (0 ≤ b ∧ b ≤ 32) && (Go.bits .and .i64 ip (wrap64 ((shl .i64 1 (32 - b)) - 1)) == 0))
theorem net_ite (p q x : Bool) : (if p = true then (if q = true then some x else some false) else some false) = some (p && (q && x)):=by cases p <;> cases q <;> rfl
theorem spec_NetOK_eq (ip b : Int) : spec_NetOK.f ip b = some (netb ip b):=by
 simp only [spec_NetOK.f,l01Ip_eq,l01In_eq,Option.bind_some]
 by_cases h : 0 ≤ b ∧ b ≤ 32
 ·rw [wrap_id (n:=32 - b) (by omega) (by omega),wrapu_id (by omega) (by omega),if_pos (show 0 ≤ 32 - b by omega),net_ite];rfl
 ·rw [decide_eq_false h];simp [netb,h]
theorem impl_NetOK_eq (ip b : Int) : impl_NetOK.f ip b = some (netb ip b):=by
 simp only [impl_NetOK.f,isAddress_eq,within_eq,Option.bind_some]
 by_cases h : 0 ≤ b ∧ b ≤ 32
 ·rw [wrap_id (n:=32 - b) (by omega) (by omega),if_pos (show 0 ≤ 32 - b by omega),net_ite];rfl
 ·rw [decide_eq_false h];simp [netb,h]
theorem netb_bits {ip b : Int} (h : netb ip b = true) : 0 ≤ b ∧ b ≤ 32:=by
 simp only [netb,Bool.and_eq_true,decide_eq_true_eq] at h;exact h.2.1
def hasb (b ip a : Int) : Bool:=(shr .i64 ip (32 - b)) == (shr .i64 a (32 - b))
theorem spec_has_eq {ip b : Int} (h : netb ip b = true) (a : Int) : spec_l05Has.f ip b a = some (hasb b ip a):=by
 have:=netb_bits h
 simp only [spec_l05Has.f]
 rw [wrap_id (n:=32 - b) (by omega) (by omega),wrapu_id (by omega) (by omega),if_pos (show 0 ≤ 32 - b by omega)];rfl
theorem impl_has_eq {ip b : Int} (h : netb ip b = true) (a : Int) : impl_Net_has.f ip b a = some (hasb b ip a):=by
 have:=netb_bits h
 simp only [impl_Net_has.f]
 rw [wrap_id (n:=32 - b) (by omega) (by omega),if_pos (show 0 ≤ 32 - b by omega)];rfl
end
section
-- NEEDS spec.RuleOK impl.RuleOK
def ruleb (p ip b lo hi : Int) : Bool:=decide (p = 0 ∨ p = 1 ∨ p = 6 ∨ p = 17) && (netb ip b && rangeb lo hi)
theorem spec_RuleOK_eq (p ip b lo hi : Int) (w : Bool) : spec_RuleOK.f p ip b lo hi w = some (ruleb p ip b lo hi):=by
 simp only [spec_RuleOK.f,spec_NetOK_eq,spec_range_eq,Option.bind_some,ruleb]
 by_cases h0 : p = 0
 ·rw [if_pos h0];simp only [h0];cases netb ip b <;> simp
 by_cases h1 : p = 1
 ·rw [if_neg h0,if_pos h1];simp only [h1];cases netb ip b <;> simp
 by_cases h2 : p = 6
 ·rw [if_neg h0,if_neg h1,if_pos h2];simp only [h2];cases netb ip b <;> simp
 by_cases h3 : p = 17
 ·rw [if_neg h0,if_neg h1,if_neg h2,if_pos h3];simp only [h3];cases netb ip b <;> simp
 rw [if_neg h0,if_neg h1,if_neg h2,if_neg h3,decide_eq_false (by omega)];rfl
theorem contains4 (k : Nat) (p : Int) : slices_Contains_int_int.f (k + 5) [0,1,6,17] p = some (decide (p = 0 ∨ p = 1 ∨ p = 6 ∨ p = 17)):=by
 have w1 : wrap64 (0 + 1) = 1:=by rw [wrap_id (by omega) (by omega)];rfl
 have w2 : wrap64 (1 + 1) = 2:=by rw [wrap_id (by omega) (by omega)];rfl
 have w3 : wrap64 (2 + 1) = 3:=by rw [wrap_id (by omega) (by omega)];rfl
 have w4 : wrap64 (3 + 1) = 4:=by rw [wrap_id (by omega) (by omega)];rfl
 have r0 : rd [0,1,6,17] 0 = 0:=by decide
 have r1 : rd [0,1,6,17] 1 = 1:=by decide
 have r2 : rd [0,1,6,17] 2 = 6:=by decide
 have r3 : rd [0,1,6,17] 3 = 17:=by decide
 have l : ((([0,1,6,17] : List Int).length : Nat) : Int) = 4:=by decide
 simp only [slices_Contains_int_int.f,slices_Index_int_int.f,slices_Index_int_int.l0,l,w1,w2,w3,w4,r0,r1,r2,r3]
 by_cases h0 : p = 0
 ·simp [h0]
 by_cases h1 : p = 1
 ·simp [h1]
 by_cases h2 : p = 6
 ·simp [h2]
 by_cases h3 : p = 17
 ·simp [h3]
 simp [h0,h1,h2,h3]
theorem impl_RuleOK_eq (k : Nat) (p ip b lo hi : Int) (w : Bool) : impl_RuleOK.f (k + 5) p ip b lo hi w = some (ruleb p ip b lo hi):=by
 simp only [impl_RuleOK.f,contains4,impl_NetOK_eq,impl_range_eq,Option.bind_some,ruleb]
 cases decide (p = 0 ∨ p = 1 ∨ p = 6 ∨ p = 17) <;> cases netb ip b <;> simp
end
section
def fst_T36 (q : S36 → Bool) (l : List S36) : Nat → Int → Int
 | 0,_ => -1
 | d + 1,i => if q (rd_T36 l i) = true then i else fst_T36 q l d (i + 1)
def any_T36 (q : S36 → Bool) (l : List S36) : Nat → Int → Bool
 | 0,_ => false
 | d + 1,i => q (rd_T36 l i) || any_T36 q l d (i + 1)
theorem fst_any_T36 (q : S36 → Bool) (l : List S36) : ∀ (d : Nat) (i : Int),0 ≤ i → decide (0 ≤ fst_T36 q l d i) = any_T36 q l d i
 | 0,i,_ => by simp [fst_T36,any_T36]
 | d + 1,i,h => by
  rw [fst_T36,any_T36]
  cases e : q (rd_T36 l i)
  ·rw [if_neg (by simp),fst_any_T36 q l d (i + 1) (by omega),Bool.false_or]
  ·rw [if_pos rfl,decide_eq_true h,Bool.true_or]
theorem idxP36_ev (q : S36 → Bool) (l : List S36) (hx : (l.length : Int) ≤ 1152921504606846976) (p : S36 → Option Bool) (hp : ∀ x,p x = some (q x)) : ∀ (d : Nat) (i : Int),0 ≤ i → (l.length : Int) - i = d → ∀ k,d + 1 ≤ k → idxP36 p l k i = some (fst_T36 q l d i)
 | 0,i,h0,hd,k,hk => by
  obtain ⟨k,rfl⟩ : ∃ z,k = z + 1:=⟨k - 1,by omega⟩
  rw [idxP36,if_neg (by omega)];rfl
 | d + 1,i,h0,hd,k,hk => by
  obtain ⟨k,rfl⟩ : ∃ z,k = z + 1:=⟨k - 1,by omega⟩
  rw [idxP36,if_pos (by omega),if_pos h0,hp,Option.bind_some,fst_T36,wrap_id (by omega) (by omega),idxP36_ev q l hx p hp d (i + 1) (by omega) (by omega) k (by omega)]
  cases q (rd_T36 l i) <;> simp
theorem containsP36_ev (q : S36 → Bool) (l : List S36) (hx : (l.length : Int) ≤ 1152921504606846976) (p : S36 → Option Bool) (hp : ∀ x,p x = some (q x)) (k : Nat) (hk : l.length + 1 ≤ k) :
  ((idxP36 p l k 0).bind fun t => some (decide (0 ≤ t))) = some (any_T36 q l l.length 0):=by
 rw [idxP36_ev q l hx p hp l.length 0 (by omega) (by omega) k hk,Option.bind_some,fst_any_T36 q l _ 0 (by omega)]
end
section
-- NEEDS impl.RoleOK spec.RoleOK
def badRule (x : S36) : Bool:=!ruleb x.f0 x.f1.f0 x.f1.f1 x.f2.f0 x.f2.f1
def roleb (a : ByteArray) (l : List S36) (q m z : Int) : Bool :=
 nameb a && (decide ((a.size : Int) ≤ 8) && (decide ((l.length : Int) ≤ 8) && (decide (1 ≤ q ∧ q ≤ 1000000) && (decide (1 ≤ m ∧ m ≤ 1000) && (decide (1 ≤ z ∧ z ≤ 1000) && !any_T36 badRule l l.length 0)))))
theorem impl_rules_ev (l : List S36) (hx : (l.length : Int) ≤ 1152921504606846976) (k : Nat) (hk : l.length + 5 ≤ k) : impl_Rule_58.f k l = some (any_T36 badRule l l.length 0):=by
 unfold impl_Rule_58.f
 refine containsP36_ev badRule l hx _ (fun x => ?_) k (by omega)
 obtain ⟨k,rfl⟩ : ∃ z,k = z + 5:=⟨k - 5,by omega⟩
 simp only [impl_RoleOK_1.f,impl_RuleOK_eq k,Option.bind_some,badRule]
theorem spec_rules_run (a : ByteArray) (l : List S36) (q m z : Int) (hx : (l.length : Int) ≤ 1152921504606846976) : ∀ (d : Nat) (i : Int),0 ≤ i → (l.length : Int) - i = d → ∀ k,d + 1 ≤ k → spec_RoleOK.l0 k i a l q m z = some (!any_T36 badRule l d i)
 | 0,i,h0,hd,k,hk => by
  obtain ⟨k,rfl⟩ : ∃ z,k = z + 1:=⟨k - 1,by omega⟩
  rw [spec_RoleOK.l0,if_neg (by omega)];rfl
 | d + 1,i,h0,hd,k,hk => by
  obtain ⟨k,rfl⟩ : ∃ z,k = z + 1:=⟨k - 1,by omega⟩
  rw [spec_RoleOK.l0,if_pos (by omega),if_pos h0,spec_RuleOK_eq,Option.bind_some,any_T36,wrap_id (by omega) (by omega),spec_rules_run a l q m z hx d (i + 1) (by omega) (by omega) k (by omega)]
  unfold badRule
  generalize ruleb _ _ _ _ _ = u
  cases u <;> simp
theorem spec_role_j (k : Nat) (x : Bool) (a : ByteArray) (l : List S36) (q m z : Int) (hx : (l.length : Int) ≤ 1152921504606846976) (hk : l.length + 2 ≤ k) : spec_RoleOK.j0 k x a l q m z = some (!x && !any_T36 badRule l l.length 0):=by
 obtain ⟨k,rfl⟩ : ∃ z,k = z + 1:=⟨k - 1,by omega⟩
 rw [spec_RoleOK.j0,spec_rules_run a l q m z hx l.length 0 (by omega) (by omega) k (by omega)]
 cases x <;> simp
theorem spec_Role_ev (a : ByteArray) (l : List S36) (q m z : Int) (hx : (l.length : Int) ≤ 1152921504606846976) (k : Nat) (hk : a.size + l.length + 5 ≤ k) : spec_RoleOK.f k a l q m z = some (roleb a l q m z):=by
 have j:=fun x => spec_role_j k x a l q m z hx (by omega)
 simp only [spec_RoleOK.f,spec_Name_ev a k (by omega),l01In_eq,Option.bind_some,j,roleb]
 cases nameb a
 ·simp
 by_cases h1 : (a.size : Int) ≤ 8
 ·rw [if_pos rfl,if_neg (by omega),decide_eq_true h1]
  by_cases h2 : (l.length : Int) ≤ 8
  ·rw [if_neg (by omega),decide_eq_true h2]
   cases decide (1 ≤ q ∧ q ≤ 1000000) <;> cases decide (1 ≤ m ∧ m ≤ 1000) <;> cases decide (1 ≤ z ∧ z ≤ 1000) <;> simp
  ·rw [if_pos (by omega),decide_eq_false h2];simp
 ·rw [if_pos rfl,if_pos (by omega),decide_eq_false h1];simp
theorem impl_role_j (k : Nat) (x : Bool) (a : ByteArray) (l : List S36) (q m z : Int) (hk : 1 ≤ k) : impl_RoleOK.j0 k x a l q m z = some (!x && (decide (1 ≤ q ∧ q ≤ 1000000) && (decide (1 ≤ m ∧ m ≤ 1000) && decide (1 ≤ z ∧ z ≤ 1000)))):=by
 obtain ⟨k,rfl⟩ : ∃ z,k = z + 1:=⟨k - 1,by omega⟩
 simp only [impl_RoleOK.j0,within_eq,Option.bind_some]
 cases x <;> cases decide (1 ≤ q ∧ q ≤ 1000000) <;> cases decide (1 ≤ m ∧ m ≤ 1000) <;> simp
theorem impl_Role_ev (a : ByteArray) (l : List S36) (q m z : Int) (hx : (l.length : Int) ≤ 1152921504606846976) (k : Nat) (hk : a.size + l.length + 5 ≤ k) : impl_RoleOK.f k a l q m z = some (roleb a l q m z):=by
 have j:=fun x => impl_role_j k x a l q m z (by omega)
 simp only [impl_RoleOK.f,impl_shortName.f,impl_Name_ev a k (by omega),Option.bind_some,j,roleb,impl_rules_ev l hx k (by omega)]
 cases nameb a
 ·simp
 by_cases h1 : (a.size : Int) ≤ 8
 ·rw [if_pos rfl,decide_eq_true h1,Option.bind_some,if_pos rfl]
  by_cases h2 : (l.length : Int) ≤ 8
  ·rw [if_neg (by omega),decide_eq_true h2]
   cases any_T36 badRule l l.length 0 <;> simp
  ·rw [if_pos (by omega),decide_eq_false h2];simp
 ·rw [if_pos rfl,decide_eq_false h1,Option.bind_some,if_neg (by decide)];simp
end
section
def fst_T100 (q : S100 → Bool) (l : List S100) : Nat → Int → Int
 | 0,_ => -1
 | d + 1,i => if q (rd_T100 l i) = true then i else fst_T100 q l d (i + 1)
def any_T100 (q : S100 → Bool) (l : List S100) : Nat → Int → Bool
 | 0,_ => false
 | d + 1,i => q (rd_T100 l i) || any_T100 q l d (i + 1)
theorem fst_any_T100 (q : S100 → Bool) (l : List S100) : ∀ (d : Nat) (i : Int),0 ≤ i → decide (0 ≤ fst_T100 q l d i) = any_T100 q l d i
 | 0,i,_ => by simp [fst_T100,any_T100]
 | d + 1,i,h => by
  rw [fst_T100,any_T100]
  cases e : q (rd_T100 l i)
  ·rw [if_neg (by simp),fst_any_T100 q l d (i + 1) (by omega),Bool.false_or]
  ·rw [if_pos rfl,decide_eq_true h,Bool.true_or]
theorem idxP100_ev (q : S100 → Bool) (l : List S100) (hx : (l.length : Int) ≤ 1152921504606846976) (p : S100 → Option Bool) (hp : ∀ x,p x = some (q x)) : ∀ (d : Nat) (i : Int),0 ≤ i → (l.length : Int) - i = d → ∀ k,d + 1 ≤ k → idxP100 p l k i = some (fst_T100 q l d i)
 | 0,i,h0,hd,k,hk => by
  obtain ⟨k,rfl⟩ : ∃ z,k = z + 1:=⟨k - 1,by omega⟩
  rw [idxP100,if_neg (by omega)];rfl
 | d + 1,i,h0,hd,k,hk => by
  obtain ⟨k,rfl⟩ : ∃ z,k = z + 1:=⟨k - 1,by omega⟩
  rw [idxP100,if_pos (by omega),if_pos h0,hp,Option.bind_some,fst_T100,wrap_id (by omega) (by omega),idxP100_ev q l hx p hp d (i + 1) (by omega) (by omega) k (by omega)]
  cases q (rd_T100 l i) <;> simp
theorem containsP100_ev (q : S100 → Bool) (l : List S100) (hx : (l.length : Int) ≤ 1152921504606846976) (p : S100 → Option Bool) (hp : ∀ x,p x = some (q x)) (k : Nat) (hk : l.length + 1 ≤ k) :
  ((idxP100 p l k 0).bind fun t => some (decide (0 ≤ t))) = some (any_T100 q l l.length 0):=by
 rw [idxP100_ev q l hx p hp l.length 0 (by omega) (by omega) k hk,Option.bind_some,fst_any_T100 q l _ 0 (by omega)]
end
section
-- NEEDS impl.ConfigOK spec.ConfigOK
def badPlace (x : S100) : Bool:=!netb x.f0.f0 x.f0.f1 || !rangeb x.f1.f0 x.f1.f1
def rolesFrom (l : List S54) : Nat → Int → Bool
 | 0,_ => true
 | d + 1,i => roleb (rd_T54 l i).f0 (rd_T54 l i).f1 (rd_T54 l i).f2 (rd_T54 l i).f3 (rd_T54 l i).f4 && ((decide (i ≤ 0) || Op.bytesLess ((rd_T54 l (i - 1)).f0).toList ((rd_T54 l i).f0).toList) && rolesFrom l d (i + 1))
def configb (ip b gate : Int) (gm wm : ByteArray) (res : Int) (g : List S100) (l : List S54) : Bool :=
 netb ip b && (decide (0 ≤ gate ∧ gate ≤ 4294967295) && (hasb b ip gate && (((gm.size : Int) == 6) && (((wm.size : Int) == 6) && (decide (0 ≤ res ∧ res ≤ 4294967295) && (!hasb b ip res && (decide ((g.length : Int) ≤ 8) && (decide (1 ≤ (l.length : Int) ∧ (l.length : Int) ≤ 4) && (!any_T100 badPlace g g.length 0 && rolesFrom l l.length 0)))))))))
theorem impl_places_ev (g : List S100) (hx : (g.length : Int) ≤ 1152921504606846976) (k : Nat) (hk : g.length + 1 ≤ k) : impl_Place_74.f k g = some (any_T100 badPlace g g.length 0):=by
 unfold impl_Place_74.f
 refine containsP100_ev badPlace g hx _ (fun x => ?_) k hk
 simp only [impl_ConfigOK_1.f,impl_NetOK_eq,impl_range_eq,Option.bind_some,badPlace]
 cases netb x.f0.f0 x.f0.f1 <;> simp
/-- The roles' bound: no name and no list of rules is longer. -/
def Slim (l : List S54) (M : Nat) : Prop:=∀ j : Int,(rd_T54 l j).f0.size + (rd_T54 l j).f1.length ≤ M
theorem spec_roles_run (ip b gate : Int) (gm wm : ByteArray) (res : Int) (g : List S100) (l : List S54) (hx : (l.length : Int) ≤ 1152921504606846976) (M : Nat) (hs : Slim l M) (hM : M ≤ 1152921504606846976) :
  ∀ (d : Nat) (i : Int),0 ≤ i → (l.length : Int) - i = d → ∀ k,d + M + 6 ≤ k → spec_ConfigOK.l1 k i ip b gate gm wm res g l = some (rolesFrom l d i)
 | 0,i,h0,hd,k,hk => by
  obtain ⟨k,rfl⟩ : ∃ z,k = z + 1:=⟨k - 1,by omega⟩
  rw [spec_ConfigOK.l1,if_neg (by omega)];rfl
 | d + 1,i,h0,hd,k,hk => by
  obtain ⟨k,rfl⟩ : ∃ z,k = z + 1:=⟨k - 1,by omega⟩
  have hj:=hs i
  have ih:=spec_roles_run ip b gate gm wm res g l hx M hs hM d (i + 1) (by omega) (by omega) k (by omega)
  rw [spec_ConfigOK.l1,if_pos (by omega),if_pos h0,spec_Role_ev _ _ _ _ _ (by omega) k (by omega),Option.bind_some,rolesFrom,wrap_id (n:=i + 1) (by omega) (by omega),wrap_id (n:=i - 1) (by omega) (by omega),ih]
  generalize roleb _ _ _ _ _ = u
  cases u
  ·simp
  by_cases hi : i > 0
  ·rw [if_pos rfl,if_pos hi,if_pos (by omega),if_pos (by omega),decide_eq_false (show ¬ i ≤ 0 by omega)]
   cases Op.bytesLess ((rd_T54 l (i - 1)).f0).toList ((rd_T54 l i).f0).toList <;> simp
  ·rw [if_pos rfl,if_neg hi,decide_eq_true (show i ≤ 0 by omega)];simp
theorem impl_roles_run (ip b gate : Int) (gm wm : ByteArray) (res : Int) (g : List S100) (l : List S54) (hx : (l.length : Int) ≤ 1152921504606846976) (M : Nat) (hs : Slim l M) (hM : M ≤ 1152921504606846976) :
  ∀ (d : Nat) (i : Int),0 ≤ i → (l.length : Int) - i = d → ∀ k,d + M + 6 ≤ k → impl_ConfigOK.l0 k l (l.length : Int) i ip b gate gm wm res g l = some (rolesFrom l d i)
 | 0,i,h0,hd,k,hk => by
  obtain ⟨k,rfl⟩ : ∃ z,k = z + 1:=⟨k - 1,by omega⟩
  rw [impl_ConfigOK.l0,if_neg (by omega)];rfl
 | d + 1,i,h0,hd,k,hk => by
  obtain ⟨k,rfl⟩ : ∃ z,k = z + 1:=⟨k - 1,by omega⟩
  have hj:=hs i
  have ih:=impl_roles_run ip b gate gm wm res g l hx M hs hM d (i + 1) (by omega) (by omega) k (by omega)
  rw [impl_ConfigOK.l0,if_pos (by omega),if_pos h0,if_pos (by omega),impl_Role_ev _ _ _ _ _ (by omega) k (by omega),Option.bind_some,rolesFrom,wrap_id (n:=i + 1) (by omega) (by omega),wrap_id (n:=i - 1) (by omega) (by omega),ih]
  generalize roleb _ _ _ _ _ = u
  cases u
  ·simp
  by_cases hi : i > 0
  ·rw [if_pos rfl,if_pos hi,if_pos (by omega),if_pos (by omega),decide_eq_false (show ¬ i ≤ 0 by omega)]
   cases Op.bytesLess ((rd_T54 l (i - 1)).f0).toList ((rd_T54 l i).f0).toList <;> simp
  ·rw [if_pos rfl,if_neg hi,decide_eq_true (show i ≤ 0 by omega)];simp
theorem spec_places_run (ip b gate : Int) (gm wm : ByteArray) (res : Int) (g : List S100) (l : List S54) (hx : (g.length : Int) ≤ 1152921504606846976) (R : Bool) (K : Nat) (hR : ∀ k,K ≤ k → spec_ConfigOK.l1 k 0 ip b gate gm wm res g l = some R) :
  ∀ (d : Nat) (i : Int),0 ≤ i → (g.length : Int) - i = d → ∀ k,d + K + 1 ≤ k → spec_ConfigOK.l0 k i ip b gate gm wm res g l = some (!any_T100 badPlace g d i && R)
 | 0,i,h0,hd,k,hk => by
  obtain ⟨k,rfl⟩ : ∃ z,k = z + 1:=⟨k - 1,by omega⟩
  rw [spec_ConfigOK.l0,if_neg (by omega),hR k (by omega)];rfl
 | d + 1,i,h0,hd,k,hk => by
  obtain ⟨k,rfl⟩ : ∃ z,k = z + 1:=⟨k - 1,by omega⟩
  have ih:=spec_places_run ip b gate gm wm res g l hx R K hR d (i + 1) (by omega) (by omega) k (by omega)
  rw [spec_ConfigOK.l0,if_pos (by omega),if_pos h0,spec_NetOK_eq,Option.bind_some,spec_range_eq,Option.bind_some,wrap_id (by omega) (by omega),ih,any_T100,badPlace]
  cases netb (rd_T100 g i).f0.f0 (rd_T100 g i).f0.f1 <;> cases rangeb (rd_T100 g i).f1.f0 (rd_T100 g i).f1.f1 <;> simp
theorem spec_cfg_j (ip b gate : Int) (gm wm : ByteArray) (res : Int) (g : List S100) (l : List S54) (hx : (l.length : Int) ≤ 1152921504606846976) (hg : (g.length : Int) ≤ 1152921504606846976) (M : Nat) (hs : Slim l M) (hM : M ≤ 1152921504606846976) (x : Bool) (k : Nat) (hk : g.length + l.length + M + 8 ≤ k) :
  spec_ConfigOK.j0 k x ip b gate gm wm res g l = some (!x && (!any_T100 badPlace g g.length 0 && rolesFrom l l.length 0)):=by
 obtain ⟨k,rfl⟩ : ∃ z,k = z + 1:=⟨k - 1,by omega⟩
 rw [spec_ConfigOK.j0,spec_places_run ip b gate gm wm res g l hg (rolesFrom l l.length 0) (l.length + M + 6) (fun k hk => spec_roles_run ip b gate gm wm res g l hx M hs hM l.length 0 (by omega) (by omega) k (by omega)) g.length 0 (by omega) (by omega) k (by omega)]
 cases x <;> simp
theorem spec_Config_ev (ip b gate : Int) (gm wm : ByteArray) (res : Int) (g : List S100) (l : List S54) (hx : (l.length : Int) ≤ 1152921504606846976) (hg : (g.length : Int) ≤ 1152921504606846976) (M : Nat) (hs : Slim l M) (hM : M ≤ 1152921504606846976) (k : Nat) (hk : g.length + l.length + M + 8 ≤ k) :
  spec_ConfigOK.f k ip b gate gm wm res g l = some (configb ip b gate gm wm res g l):=by
 have j:=fun x => spec_cfg_j ip b gate gm wm res g l hx hg M hs hM x k hk
 simp only [spec_ConfigOK.f,spec_NetOK_eq,l01Ip_eq,spec_l01Mac.f,l01In_eq,Option.bind_some,j,configb]
 cases hn : netb ip b
 ·simp
 simp only [spec_has_eq hn,Option.bind_some]
 by_cases h8 : (g.length : Int) ≤ 8
 ·rw [if_neg (show ¬ (g.length : Int) > 8 by omega),decide_eq_true h8]
  cases decide (0 ≤ gate ∧ gate ≤ 4294967295) <;> cases hasb b ip gate <;> cases ((gm.size : Int) == 6) <;> cases ((wm.size : Int) == 6) <;> cases decide (0 ≤ res ∧ res ≤ 4294967295) <;> cases hasb b ip res <;> simp
 ·rw [if_pos (show (g.length : Int) > 8 by omega),decide_eq_false h8]
  cases decide (0 ≤ gate ∧ gate ≤ 4294967295) <;> cases hasb b ip gate <;> cases ((gm.size : Int) == 6) <;> cases ((wm.size : Int) == 6) <;> cases decide (0 ≤ res ∧ res ≤ 4294967295) <;> cases hasb b ip res <;> simp
theorem impl_cfg_j1 (ip b gate : Int) (gm wm : ByteArray) (res : Int) (g : List S100) (l : List S54) (hx : (l.length : Int) ≤ 1152921504606846976) (hg : (g.length : Int) ≤ 1152921504606846976) (M : Nat) (hs : Slim l M) (hM : M ≤ 1152921504606846976) (x : Bool) (k : Nat) (hk : g.length + l.length + M + 7 ≤ k) :
  impl_ConfigOK.j1 k x ip b gate gm wm res g l = some (!x && (!any_T100 badPlace g g.length 0 && rolesFrom l l.length 0)):=by
 obtain ⟨k,rfl⟩ : ∃ z,k = z + 1:=⟨k - 1,by omega⟩
 rw [impl_ConfigOK.j1,impl_places_ev g hg k (by omega),Option.bind_some,impl_roles_run ip b gate gm wm res g l hx M hs hM l.length 0 (by omega) (by omega) k (by omega)]
 cases x <;> cases any_T100 badPlace g g.length 0 <;> simp
theorem impl_cfg_j0 (ip b gate : Int) (gm wm : ByteArray) (res : Int) (g : List S100) (l : List S54) (hx : (l.length : Int) ≤ 1152921504606846976) (hg : (g.length : Int) ≤ 1152921504606846976) (M : Nat) (hs : Slim l M) (hM : M ≤ 1152921504606846976) (x : Bool) (k : Nat) (hk : g.length + l.length + M + 8 ≤ k) :
  impl_ConfigOK.j0 k x ip b gate gm wm res g l = some (x && (((gm.size : Int) == 6) && (((wm.size : Int) == 6) && (decide ((g.length : Int) ≤ 8) && (decide (1 ≤ (l.length : Int) ∧ (l.length : Int) ≤ 4) && (!any_T100 badPlace g g.length 0 && rolesFrom l l.length 0)))))):=by
 obtain ⟨k,rfl⟩ : ∃ z,k = z + 1:=⟨k - 1,by omega⟩
 have j:=fun x => impl_cfg_j1 ip b gate gm wm res g l hx hg M hs hM x k (by omega)
 simp only [impl_ConfigOK.j0,impl_macOK.f,within_eq,Option.bind_some,j]
 by_cases h8 : (g.length : Int) ≤ 8
 ·rw [if_neg (show ¬ (g.length : Int) > 8 by omega),decide_eq_true h8]
  cases x <;> cases ((gm.size : Int) == 6) <;> cases ((wm.size : Int) == 6) <;> simp
 ·rw [if_pos (show (g.length : Int) > 8 by omega),decide_eq_false h8]
  cases x <;> cases ((gm.size : Int) == 6) <;> cases ((wm.size : Int) == 6) <;> simp
theorem impl_Config_ev (ip b gate : Int) (gm wm : ByteArray) (res : Int) (g : List S100) (l : List S54) (hx : (l.length : Int) ≤ 1152921504606846976) (hg : (g.length : Int) ≤ 1152921504606846976) (M : Nat) (hs : Slim l M) (hM : M ≤ 1152921504606846976) (k : Nat) (hk : g.length + l.length + M + 8 ≤ k) :
  impl_ConfigOK.f k ip b gate gm wm res g l = some (configb ip b gate gm wm res g l):=by
 have j:=fun x => impl_cfg_j0 ip b gate gm wm res g l hx hg M hs hM x k hk
 simp only [impl_ConfigOK.f,impl_NetOK_eq,isAddress_eq,Option.bind_some,j,configb]
 cases hn : netb ip b
 ·simp
 simp only [impl_has_eq hn,Option.bind_some]
 cases decide (0 ≤ gate ∧ gate ≤ 4294967295) <;> cases hasb b ip gate <;> cases ((gm.size : Int) == 6) <;> cases ((wm.size : Int) == 6) <;> cases decide (0 ≤ res ∧ res ≤ 4294967295) <;> cases hasb b ip res <;> simp
end
section
theorem eq_T100_refl (x : S100) : laws_eqPlace.f (x.f0.f0) (x.f0.f1) (x.f1.f0) (x.f1.f1) (x.f0.f0) (x.f0.f1) (x.f1.f0) (x.f1.f1) = some true:=by
 unfold laws_eqPlace.f
 simp only [laws_eqNet.f,laws_eqRange.f]
 simp
theorem eqS_T100_l0 (xs : List S100) : ∀ (d : Nat) (i : Int),0 ≤ i → (xs.length : Int) - i = d → (xs.length : Int) ≤ 1152921504606846976 → Ev (fun k => laws_eqPlaceS.l0 k xs xs i) true:=by
 intro d
 induction d with
 | zero =>
  intro i h0 hd hx
  refine ⟨1,fun k hk => ?_⟩
  obtain ⟨k,rfl⟩ : ∃ q,k = q + 1:=⟨k - 1,by omega⟩
  simp only [laws_eqPlaceS.l0]
  rw [if_neg (by omega)]
 | succ d ih =>
  intro i h0 hd hx
  have hlt : i < (xs.length : Int):=by omega
  have ei : wrap64 (i + 1) = i + 1:=wrap_id (by omega) (by omega)
  refine Ev.step (f:=fun k => laws_eqPlaceS.l0 k xs xs (i + 1)) (fun k => ?_) (ih (i + 1) (by omega) (by omega) hx)
  simp only [laws_eqPlaceS.l0,ei]
  rw [if_pos hlt,if_pos h0,if_pos hlt]
  simp only [eq_T100_refl,Option.bind_some,if_true]
theorem eqS_T100_ev (xs : List S100) (hx : (xs.length : Int) ≤ 1152921504606846976) : Ev (fun k => laws_eqPlaceS.f k xs xs) true:=by
 refine Ev.congr (f:=fun k => laws_eqPlaceS.l0 k xs xs 0) (fun k => ?_) (eqS_T100_l0 xs xs.length 0 (by omega) (by omega) hx)
 simp only [laws_eqPlaceS.f,if_true]
end
section
theorem eq_T36_refl (x : S36) : laws_eqRule.f (x.f0) (x.f1.f0) (x.f1.f1) (x.f2.f0) (x.f2.f1) (x.f3) (x.f0) (x.f1.f0) (x.f1.f1) (x.f2.f0) (x.f2.f1) (x.f3) = some true:=by
 unfold laws_eqRule.f
 simp only [laws_eqNet.f,laws_eqRange.f]
 simp
theorem eqS_T36_l0 (xs : List S36) : ∀ (d : Nat) (i : Int),0 ≤ i → (xs.length : Int) - i = d → (xs.length : Int) ≤ 1152921504606846976 → Ev (fun k => laws_eqRuleS.l0 k xs xs i) true:=by
 intro d
 induction d with
 | zero =>
  intro i h0 hd hx
  refine ⟨1,fun k hk => ?_⟩
  obtain ⟨k,rfl⟩ : ∃ q,k = q + 1:=⟨k - 1,by omega⟩
  simp only [laws_eqRuleS.l0]
  rw [if_neg (by omega)]
 | succ d ih =>
  intro i h0 hd hx
  have hlt : i < (xs.length : Int):=by omega
  have ei : wrap64 (i + 1) = i + 1:=wrap_id (by omega) (by omega)
  refine Ev.step (f:=fun k => laws_eqRuleS.l0 k xs xs (i + 1)) (fun k => ?_) (ih (i + 1) (by omega) (by omega) hx)
  simp only [laws_eqRuleS.l0,ei]
  rw [if_pos hlt,if_pos h0,if_pos hlt]
  simp only [eq_T36_refl,Option.bind_some,if_true]
theorem eqS_T36_ev (xs : List S36) (hx : (xs.length : Int) ≤ 1152921504606846976) : Ev (fun k => laws_eqRuleS.f k xs xs) true:=by
 refine Ev.congr (f:=fun k => laws_eqRuleS.l0 k xs xs 0) (fun k => ?_) (eqS_T36_l0 xs xs.length 0 (by omega) (by omega) hx)
 simp only [laws_eqRuleS.f,if_true]
end
section
def to_T36 (x : S32) : S36:=(⟨x.f0,(⟨x.f1.f0,x.f1.f1⟩ : S26),(⟨x.f2.f0,x.f2.f1⟩ : S34),x.f3⟩ : S36)
theorem to_T36_l0 (l : List S32) : ∀ (d : Nat) (acc : List S36) (i : Int),acc.length = l.length → 0 ≤ i → (l.length : Int) - i = d → (l.length : Int) ≤ 1152921504606846976 →
  ∃ ys : List S36,Ev (fun k => laws_toRuleS.l0 k l acc i) ys ∧ ys.length = l.length ∧ (∀ j : Nat,(j : Int) < i → ys[j]? = acc[j]?) ∧ (∀ j : Nat,i ≤ (j : Int) → ys[j]? = (l.map to_T36)[j]?):=by
 intro d
 induction d with
 | zero =>
  intro acc i ha h0 hd hx
  refine ⟨acc,⟨1,fun k hk => ?_⟩,ha,fun _ _ => rfl,fun j hj => by rw [List.getElem?_eq_none (by omega),List.getElem?_eq_none (by rw [List.length_map];omega)]⟩
  obtain ⟨k,rfl⟩ : ∃ q,k = q + 1:=⟨k - 1,by omega⟩
  simp only [laws_toRuleS.l0]
  rw [if_neg (by omega)]
 | succ d ih =>
  intro acc i ha h0 hd hx
  have hlt : i < (l.length : Int):=by omega
  have hn : i.toNat < l.length:=by omega
  have ei : wrap64 (i + 1) = i + 1:=wrap_id (by omega) (by omega)
  obtain ⟨ys,hev,hlen,hold,hnew⟩:=ih (acc.set i.toNat (to_T36 (rd_T32 l i))) (i + 1) (by rw [List.length_set];exact ha) (by omega) (by omega) hx
  refine ⟨ys,Ev.step (f:=fun k => laws_toRuleS.l0 k l (acc.set i.toNat (to_T36 (rd_T32 l i))) (i + 1)) (fun k => ?_) hev,hlen,fun j hj => ?_,fun j hj => ?_⟩
  ·simp only [laws_toRuleS.l0]
   rw [if_pos hlt,if_pos h0]
   simp only [laws_toRule.f,Option.bind_some,laws_toNet.f,laws_toRange.f,ei,to_T36]
   rw [if_pos (by omega)]
  ·rw [hold j (by omega),List.getElem?_set_ne (by omega)]
  ·by_cases hji : (j : Int) = i
   ·have e : i.toNat = j:=by omega
    rw [hold j (by omega),e,List.getElem?_set_self (by omega),List.getElem?_map,List.getElem?_eq_getElem (show j < l.length by omega)]
    simp only [Option.map_some,rd_T32,e,List.getD_eq_getElem?_getD,List.getElem?_eq_getElem (show j < l.length by omega),Option.getD_some]
   ·exact hnew j (by omega)
theorem to_T36_ev (l : List S32) (hx : l.length ≤ 1048576) : Ev (fun k => laws_toRuleS.f k l) (l.map to_T36):=by
 obtain ⟨ys,hev,hlen,_,hnew⟩:=to_T36_l0 l l.length (List.replicate l.length z36) 0 (by simp) (by omega) (by omega) (by omega)
 have e : ys = l.map to_T36:=List.ext_getElem? fun j => hnew j (by omega)
 rw [← e]
 refine Ev.congr (fun k => ?_) hev
 simp only [laws_toRuleS.f]
 rw [if_pos (by omega),if_pos (by omega)]
 rfl
end
section
-- IMPORT Derived.SizedLaws
-- IMPORT Derived.ProofKit
-- IMPORT Derived.WalkKit
-- IMPORT Derived.OpenShut
-- IMPORT Derived.ShutString
-- IMPORT Derived.ChangeOld
-- IMPORT Derived.Below
-- IMPORT Derived.Deep.Slices
open Go.ChangeShapes Go.WideShapes Go.ChangeAt Go.Deep
/-- What reads as data of type t is a value of the kind d,and meets wf. -/
structure Opens (P : Program) (t : TypeId) {α : Type} (d : Kd α) (wf : α → Prop) : Prop where
 sz : P.cellsOf t = d.sz
 op : ∀ {H : Type} {enc : TypeId × Value → H} {w : World} {fuel : Nat} {cs : List Value} {y : DataW H × List MemPlace},DataW.trod enc P w 0 (fun _ => true) true fuel t cs = some y → (∀ n ∈ y.1.weights P t,n ≤ reachBytes) → ∃ x,d.K w x cs ∧ wf x
theorem Opens.int {P : Program} {t : TypeId} {k : IntKind} (hu : P.underlying t = some (.int k)) (hc : P.cellsOf t = 1) : Opens P t (Kd.int k) (fun n => (Lit.int k n).wf = true) :=
 ⟨hc,fun h _ => by obtain ⟨n,rfl,rfl,wf⟩:=DataW.trod_int hu h;exact ⟨n,rfl,wf⟩⟩
theorem Opens.bool {P : Program} {t : TypeId} (hu : P.underlying t = some .bool) (hc : P.cellsOf t = 1) : Opens P t Kd.bool (fun _ => True) :=
 ⟨hc,fun h _ => by obtain ⟨n,rfl,rfl⟩:=DataW.trod_bool hu h;exact ⟨n,rfl,trivial⟩⟩
theorem Opens.string {P : Program} {t : TypeId} (hu : P.underlying t = some .string) (hc : P.cellsOf t = 1) : Opens P t Kd.string (fun s => s.size ≤ 140737488351232) :=
 ⟨hc,fun h hw => by
  obtain ⟨s,rfl,rfl,_⟩:=DataW.trod_string hu h
  refine ⟨s,rfl,?_⟩
  have:=hw s.data.toList.length (by simp [DataW.weights])
  simpa [reachBytes] using this⟩
theorem weights_mem_all {H : Type} {P : Program} {e : TypeId} {n : Nat} : ∀ {l : List (DataW H)} {d : DataW H},d ∈ l → n ∈ d.weights P e → n ∈ DataW.weightsAll P e l
 | d0 :: l,d,hd,hn => by
  simp only [DataW.weightsAll,List.mem_append]
  rcases List.mem_cons.1 hd with rfl | hd
  ·exact .inl hn
  ·exact .inr (weights_mem_all hd hn)
 | [],_,hd,_ => by cases hd
theorem list_of_all {α : Type} {Q : Nat → α → Prop} (n : Nat) (h : ∀ i,i < n → ∃ x,Q i x) : ∃ xs : List α,xs.length = n ∧ ∀ j x,xs[j]? = some x → Q j x:=by
 induction n with
 | zero => exact ⟨[],rfl,fun j x h => by simp at h⟩
 | succ n ih =>
  obtain ⟨xs,hl,hx⟩:=ih (fun i hi => h i (by omega))
  obtain ⟨x,hq⟩:=h n (by omega)
  refine ⟨xs ++ [x],by simp [hl],fun j y hj => ?_⟩
  rcases Nat.lt_or_ge j xs.length with hlt | hge
  ·rw [List.getElem?_append_left hlt] at hj
   exact hx j y hj
  ·rw [List.getElem?_append_right hge] at hj
   have : j - xs.length = 0:=by
    rcases Nat.lt_or_ge (j - xs.length) 1 with h1 | h1
    ·omega
    ·rw [List.getElem?_eq_none (by simpa using h1)] at hj;cases hj
   rw [this] at hj
   simp at hj
   subst hj
   have : j = n:=by omega
   subst this
   exact hq
theorem Opens.slice {α : Type} {P : Program} {t e : TypeId} {d : Kd α} {wf : α → Prop} (hu : P.underlying t = some (.slice e)) (hc : P.cellsOf t = 1) (B : Nat) (hB : P.bytesOf e = B) (he : Opens P e d wf) :
  Opens P t (Kd.slice e d) (fun xs => xs.length * B ≤ 140737488351232 ∧ xs.length ≤ maxLen ∧ ∀ x ∈ xs,wf x) :=
 ⟨hc,fun {H enc w fuel cs y} h hw => by
  rcases open_slice hu h with ⟨rfl,rfl⟩ | ⟨a,len,cap,m,n,D,Pl,rfl,_,hl,hm,hmm,rfl,hel⟩
  ·exact ⟨[],⟨none,0,rfl,Nat.le_refl _,Kd.C_nil d w⟩,by simp,by simp,fun x hx => by cases hx⟩
  have hmc : m = cap:=by rw [hmm];rfl
  subst hmc
  have hwt : ∀ i,i < len → ∀ z ∈ (D i).weights P e,z ≤ reachBytes:=fun i hi z hz => hw z (by
   simp only [DataW.weights,hu]
   exact List.mem_cons_of_mem _ (List.mem_append_left _ (weights_mem_all (List.mem_map.2 ⟨i,List.mem_range.2 hi,rfl⟩) hz)))
  have hall : ∀ i,i < len → ∃ x : α,(∃ c,c.length = d.sz ∧ d.K w x c ∧ ∀ j u,c[j]? = some u → w.cell? (a.add (i * d.sz + j)) = some u) ∧ wf x:=by
   intro i hi
   obtain ⟨cs',hcs,htr⟩:=hel i (by omega)
   obtain ⟨x,hk,hx⟩:=he.op htr (hwt i hi)
   obtain ⟨_,hlen,hcell⟩:=World.cells?_some hcs
   refine ⟨x,⟨cs',by rw [hlen,he.sz],hk,fun j u hu' => ?_⟩,hx⟩
   have hj : j < cs'.length:=by
    rcases Nat.lt_or_ge j cs'.length with h1 | h1
    ·exact h1
    ·rw [List.getElem?_eq_none h1] at hu';cases hu'
   rw [hlen] at hj
   have hcj:=hcell j hj
   rw [hu',he.sz,Addr.add_add] at hcj
   exact hcj
  obtain ⟨xs,hxl,hxs⟩:=list_of_all (Q:=fun i x => (∃ c,c.length = d.sz ∧ d.K w x c ∧ ∀ j u,c[j]? = some u → w.cell? (a.add (i * d.sz + j)) = some u) ∧ wf x) len hall
  subst hxl
  refine ⟨xs,⟨some a,m,rfl,hl,rfl,?_,fun _ => ⟨a,rfl,fun j p hp => (hxs j p hp).1⟩⟩,?_,?_,?_⟩
  ·unfold maxLen at hm;omega
  ·have:=hw ((List.map D (List.range xs.length)).length + (List.map (fun j => D (xs.length + j)) (List.range (m - xs.length))).length) |> fun h => h
   have h1:=hw (((List.map D (List.range xs.length)).length + (List.map (fun j => D (xs.length + j)) (List.range (m - xs.length))).length) * P.bytesOf e) (by simp only [DataW.weights,hu];exact List.mem_cons_self)
   rw [hB] at h1
   simp only [List.length_map,List.length_range] at h1
   have h2 : xs.length * B ≤ (xs.length + (m - xs.length)) * B:=Nat.mul_le_mul_right _ (by omega)
   exact Nat.le_trans h2 h1
  ·omega
  ·intro x hx
   obtain ⟨j,hj,rfl⟩:=List.getElem_of_mem hx
   exact (hxs j _ (List.getElem?_eq_getElem hj)).2⟩
/-- Fields in line from cell o on. -/
structure OpensF (P : Program) (fs : List Field) (o : Nat) {α : Type} (d : Kd α) (wf : α → Prop) : Prop where
 op : ∀ {H : Type} {enc : TypeId × Value → H} {w : World} {n : Nat} {cs : List Value} {xs : List (DataW H × List MemPlace)},o + d.sz ≤ cs.length → xs.length = fs.length →
  (∀ (i : Nat) (f : Field),fs[i]? = some f → DataW.trod enc P w 0 (fun _ => true) true n f.type ((cs.drop f.offset).take (P.cellsOf f.type)) = xs[i]?) →
  (∀ z ∈ DataW.weightsEach P (fs.map (·.type)) (xs.map (·.1)),z ≤ reachBytes) → ∃ x,d.K w x ((cs.drop o).take d.sz) ∧ wf x
theorem OpensF.one {α : Type} {P : Program} {f : Field} {o : Nat} {d : Kd α} {wf : α → Prop} (ho : f.offset = o) (h : Opens P f.type d wf) : OpensF P [f] o d wf:=by
 refine ⟨fun {H enc w n cs xs} hlen hxl htr hw => ?_⟩
 match xs,hxl with
 | [y],_ =>
  have h1:=htr 0 f rfl
  rw [ho,h.sz] at h1
  exact h.op (y:=y) h1 (fun z hz => hw z (by simpa [DataW.weightsEach] using hz))
theorem OpensF.cons {α β : Type} {P : Program} {f : Field} {fs : List Field} {o : Nat} {a : Kd α} {b : Kd β} {wa : α → Prop} {wb : β → Prop} (ho : f.offset = o) (h : Opens P f.type a wa) (o' : Nat) (ho' : o + a.sz = o') (hr : OpensF P fs o' b wb) :
  OpensF P (f :: fs) o (Kd.pair a b) (fun x => wa x.1 ∧ wb x.2):=by
 refine ⟨fun {H enc w n cs xs} hlen hxl htr hw => ?_⟩
 match xs,hxl with
 | y :: ys,hxl =>
  have h1:=htr 0 f rfl
  rw [ho,h.sz] at h1
  have hsz : (Kd.pair a b).sz = a.sz + b.sz:=rfl
  rw [hsz] at hlen
  obtain ⟨x0,k0,w0⟩:=h.op (y:=y) h1 (fun z hz => hw z (by simp only [List.map_cons,DataW.weightsEach,List.mem_append];exact .inl hz))
  obtain ⟨x1,k1,w1⟩:=hr.op (n:=n) (cs:=cs) (xs:=ys) (enc:=enc) (w:=w) (by omega) (by simpa using hxl) (fun i g hg => by have:=htr (i + 1) g (by simpa using hg);simpa using this) (fun z hz => hw z (by simp only [List.map_cons,DataW.weightsEach,List.mem_append];exact .inr hz))
  refine ⟨(x0,x1),⟨(cs.drop o).take a.sz,(cs.drop o').take b.sz,?_,k0,k1⟩,w0,w1⟩
  rw [hsz,← ho',List.take_add,List.drop_drop]
theorem Opens.struct {α : Type} {P : Program} {t : TypeId} {fs : Array Field} {d : Kd α} {wf : α → Prop} (hu : P.underlying t = some (.struct fs)) (hc : P.cellsOf t = d.sz) (h : OpensF P fs.toList 0 d wf) : Opens P t d wf :=
 ⟨hc,fun {H enc w fuel cs y} ht hw => by
  obtain ⟨xs,n,rfl,rfl,hlen,hxl,htr⟩:=DataW.trod_struct hu ht
  obtain ⟨x,hk,hx⟩:=h.op (enc:=enc) (w:=w) (n:=n) (cs:=cs) (xs:=xs) (by omega) (by simpa using hxl) (fun i f hf => htr i f (by simpa using hf)) (fun z hz => hw z (by simp only [DataW.weights,hu];exact hz))
  refine ⟨x,?_,hx⟩
  rw [List.drop_zero,List.take_of_length_le (by omega)] at hk
  exact hk⟩
theorem Opens.iso {α β : Type} {P : Program} {t : TypeId} {d : Kd α} {wf : α → Prop} (f : β → α) (g : α → β) (hfg : ∀ x,f (g x) = x) (h : Opens P t d wf) : Opens P t (Kd.iso d f) (fun x => wf (f x)) :=
 ⟨h.sz,fun ht hw => by
  obtain ⟨x,hk,hx⟩:=h.op ht hw
  exact ⟨g x,by show d.K _ (f (g x)) _;rw [hfg];exact hk,by rw [hfg];exact hx⟩⟩
end
section
def wf23 (x : S23) : Prop:=(Lit.int .i64 x.f0).wf = true ∧ ((Lit.int .i64 x.f1).wf = true)
set_option maxRecDepth 100000 in
theorem opens23 : Opens Try.prog 23 k23 wf23 :=
 Opens.iso (fun x : S23 => (x.f0,x.f1)) (fun y => ⟨y.1,y.2⟩) (fun _ => rfl) (Opens.struct Try.underlying23 (by kernel_rfl) (OpensF.cons rfl (Opens.int Try.underlying3 (by kernel_rfl)) 1 rfl (OpensF.one rfl (Opens.int Try.underlying3 (by kernel_rfl)))))
end
section
def wf30 (x : S30) : Prop:=(Lit.int .i64 x.f0).wf = true ∧ ((Lit.int .i64 x.f1).wf = true)
set_option maxRecDepth 100000 in
theorem opens30 : Opens Try.prog 30 k30 wf30 :=
 Opens.iso (fun x : S30 => (x.f0,x.f1)) (fun y => ⟨y.1,y.2⟩) (fun _ => rfl) (Opens.struct Try.underlying30 (by kernel_rfl) (OpensF.cons rfl (Opens.int Try.underlying3 (by kernel_rfl)) 1 rfl (OpensF.one rfl (Opens.int Try.underlying3 (by kernel_rfl)))))
end
section
def wf32 (x : S32) : Prop:=(Lit.int .i64 x.f0).wf = true ∧ (wf23 x.f1 ∧ (wf30 x.f2 ∧ (True)))
set_option maxRecDepth 100000 in
theorem opens32 : Opens Try.prog 32 k32 wf32 :=
 Opens.iso (fun x : S32 => (x.f0,x.f1,x.f2,x.f3)) (fun y => ⟨y.1,y.2.1,y.2.2.1,y.2.2.2⟩) (fun _ => rfl) (Opens.struct Try.underlying32 (by kernel_rfl) (OpensF.cons rfl (Opens.int Try.underlying3 (by kernel_rfl)) 1 rfl (OpensF.cons rfl opens23 3 rfl (OpensF.cons rfl opens30 5 rfl (OpensF.one rfl (Opens.bool Try.underlying4 (by kernel_rfl)))))))
end
section
def wf49 (x : S49) : Prop:=x.f0.size ≤ 140737488351232 ∧ ((x.f1.length * 48 ≤ 140737488351232 ∧ x.f1.length ≤ maxLen ∧ ∀ y ∈ x.f1,wf32 y) ∧ ((Lit.int .i64 x.f2).wf = true ∧ ((Lit.int .i64 x.f3).wf = true ∧ ((Lit.int .i64 x.f4).wf = true))))
set_option maxRecDepth 100000 in
theorem opens49 : Opens Try.prog 49 k49 wf49 :=
 Opens.iso (fun x : S49 => (x.f0,x.f1,x.f2,x.f3,x.f4)) (fun y => ⟨y.1,y.2.1,y.2.2.1,y.2.2.2.1,y.2.2.2.2⟩) (fun _ => rfl) (Opens.struct Try.underlying49 (by kernel_rfl) (OpensF.cons rfl (Opens.string Try.underlying9 (by kernel_rfl)) 1 rfl (OpensF.cons rfl (Opens.slice Try.underlying47 (by kernel_rfl) 48 (by kernel_rfl) opens32) 2 rfl (OpensF.cons rfl (Opens.int Try.underlying3 (by kernel_rfl)) 3 rfl (OpensF.cons rfl (Opens.int Try.underlying3 (by kernel_rfl)) 4 rfl (OpensF.one rfl (Opens.int Try.underlying3 (by kernel_rfl))))))))
end
section
-- NEEDS laws.szConfig laws.toConfig laws.eqConfig
def toRole (x : S49) : S54:=⟨x.f0,x.f1.map to_T36,x.f2,x.f3,x.f4⟩
theorem rdmem_T49 {l : List S49} {i : Int} (h : i.toNat < l.length) : rd_T49 l i ∈ l:=by
 unfold rd_T49
 rw [List.getD_eq_getElem?_getD,List.getElem?_eq_getElem h]
 exact List.getElem_mem h
theorem szRole_ev (a : ByteArray) (l : List S32) (q m z left : Int) (h0 : 0 ≤ left) (h1 : left ≤ 1048576) (ha : a.size ≤ 140737488351232) (hl : l.length ≤ 140737488351232) :
  ∃ t,laws_szRole.f a l q m z left = some t ∧ t ≤ left ∧ (0 ≤ t → a.size ≤ 1048576 ∧ l.length ≤ 1048576):=by
 simp only [laws_szRole.f,laws_szRuleS.f]
 rw [wrap_id (n:=left - (a.size : Int)) (by omega) (by omega)]
 by_cases c1 : left - (a.size : Int) < 0
 ·rw [if_pos c1];exact ⟨-1,rfl,by omega,fun h => by omega⟩
 rw [if_neg c1,wrap_id (by omega) (by omega)]
 by_cases c2 : left - (a.size : Int) - (l.length : Int) < 0
 ·rw [if_pos c2];exact ⟨-1,rfl,by omega,fun h => by omega⟩
 ·rw [if_neg c2,Option.bind_some,if_neg c2];exact ⟨_,rfl,by omega,fun h => by omega⟩
theorem szRoles_l0 (l : List S49) (hw : ∀ y ∈ l,wf49 y) (hx : (l.length : Int) ≤ 1152921504606846976) : ∀ (d : Nat) (i left : Int),0 ≤ i → (l.length : Int) - i = d → 0 ≤ left → left ≤ 1048576 →
  ∃ t,(∀ k,d + 1 ≤ k → laws_szRoleS.l0 k l left i = some t) ∧ t ≤ left ∧ (0 ≤ t → ∀ j : Int,i ≤ j → j < l.length → (rd_T49 l j).f0.size ≤ 1048576 ∧ (rd_T49 l j).f1.length ≤ 1048576)
 | 0,i,left,h0,hd,h1,h2 => by
  refine ⟨left,fun k hk => ?_,by omega,fun _ j h3 h4 => by omega⟩
  obtain ⟨k,rfl⟩ : ∃ z,k = z + 1:=⟨k - 1,by omega⟩
  rw [laws_szRoleS.l0,if_neg (by omega)]
 | d + 1,i,left,h0,hd,h1,h2 => by
  have hwi:=hw _ (rdmem_T49 (l:=l) (i:=i) (by omega))
  obtain ⟨t,e,ht,hh⟩:=szRole_ev (rd_T49 l i).f0 (rd_T49 l i).f1 (rd_T49 l i).f2 (rd_T49 l i).f3 (rd_T49 l i).f4 left h1 h2 hwi.1 (by have:=hwi.2.1.1;omega)
  by_cases c : t < 0
  ·refine ⟨-1,fun k hk => ?_,by omega,fun h => by omega⟩
   obtain ⟨k,rfl⟩ : ∃ z,k = z + 1:=⟨k - 1,by omega⟩
   rw [laws_szRoleS.l0,if_pos (by omega),if_pos h0,e,Option.bind_some,if_pos c]
  ·obtain ⟨u,e2,hu,hh2⟩:=szRoles_l0 l hw hx d (i + 1) t (by omega) (by omega) (by omega) (by omega)
   refine ⟨u,fun k hk => ?_,by omega,fun h j h3 h4 => ?_⟩
   ·obtain ⟨k,rfl⟩ : ∃ z,k = z + 1:=⟨k - 1,by omega⟩
    rw [laws_szRoleS.l0,if_pos (by omega),if_pos h0,e,Option.bind_some,if_neg c,wrap_id (by omega) (by omega),e2 k (by omega)]
   ·by_cases hj : j = i
    ·rw [hj];exact hh (by omega)
    ·exact hh2 h j (by omega) h4
theorem toRole_ev (x : S49) (hx : x.f1.length ≤ 1048576) : Ev (fun k => laws_toRole.f k x.f0 x.f1 x.f2 x.f3 x.f4) (x.f0,x.f1.map to_T36,x.f2,x.f3,x.f4):=by
 unfold laws_toRole.f
 exact Ev.bind (to_T36_ev x.f1 hx) ⟨0,fun _ _ => rfl⟩
theorem toRoles_l0 (l : List S49) (hl : ∀ j : Int,0 ≤ j → j < l.length → (rd_T49 l j).f1.length ≤ 1048576) : ∀ (d : Nat) (acc : List S54) (i : Int),acc.length = l.length → 0 ≤ i → (l.length : Int) - i = d → (l.length : Int) ≤ 1152921504606846976 →
  ∃ ys : List S54,Ev (fun k => laws_toRoleS.l0 k l acc i) ys ∧ ys.length = l.length ∧ (∀ j : Nat,(j : Int) < i → ys[j]? = acc[j]?) ∧ (∀ j : Nat,i ≤ (j : Int) → ys[j]? = (l.map toRole)[j]?):=by
 intro d
 induction d with
 | zero =>
  intro acc i ha h0 hd hx
  refine ⟨acc,⟨1,fun k hk => ?_⟩,ha,fun _ _ => rfl,fun j hj => by rw [List.getElem?_eq_none (by omega),List.getElem?_eq_none (by rw [List.length_map];omega)]⟩
  obtain ⟨k,rfl⟩ : ∃ q,k = q + 1:=⟨k - 1,by omega⟩
  simp only [laws_toRoleS.l0]
  rw [if_neg (by omega)]
 | succ d ih =>
  intro acc i ha h0 hd hx
  have hlt : i < (l.length : Int):=by omega
  have hn : i.toNat < l.length:=by omega
  have ei : wrap64 (i + 1) = i + 1:=wrap_id (by omega) (by omega)
  obtain ⟨ys,hev,hlen,hold,hnew⟩:=ih (acc.set i.toNat (toRole (rd_T49 l i))) (i + 1) (by rw [List.length_set];exact ha) (by omega) (by omega) hx
  refine ⟨ys,Ev.step (f:=fun k => (laws_toRole.f k (rd_T49 l i).f0 (rd_T49 l i).f1 (rd_T49 l i).f2 (rd_T49 l i).f3 (rd_T49 l i).f4).bind fun bt => laws_toRoleS.l0 k l (acc.set i.toNat (⟨bt.1,bt.2.1,bt.2.2.1,bt.2.2.2.1,bt.2.2.2.2⟩ : S54)) (i + 1)) (fun k => ?_) (Ev.bind (toRole_ev _ (hl i h0 hlt)) hev),hlen,fun j hj => ?_,fun j hj => ?_⟩
  ·simp only [laws_toRoleS.l0]
   rw [if_pos hlt,if_pos h0]
   simp only [ei,if_pos (show i < (acc.length : Int) by omega)]
  ·rw [hold j (by omega),List.getElem?_set_ne (by omega)]
  ·by_cases hji : (j : Int) = i
   ·have e : i.toNat = j:=by omega
    rw [hold j (by omega),e,List.getElem?_set_self (by omega),List.getElem?_map,List.getElem?_eq_getElem (show j < l.length by omega)]
    simp only [Option.map_some,rd_T49,e,List.getD_eq_getElem?_getD,List.getElem?_eq_getElem (show j < l.length by omega),Option.getD_some]
   ·exact hnew j (by omega)
theorem toRoles_ev (l : List S49) (hx : l.length ≤ 1048576) (hl : ∀ j : Int,0 ≤ j → j < l.length → (rd_T49 l j).f1.length ≤ 1048576) : Ev (fun k => laws_toRoleS.f k l) (l.map toRole):=by
 obtain ⟨ys,hev,hlen,_,hnew⟩:=toRoles_l0 l hl l.length (List.replicate l.length z54) 0 (by simp) (by omega) (by omega) (by omega)
 have e : ys = l.map toRole:=List.ext_getElem? fun j => hnew j (by omega)
 rw [← e]
 refine Ev.congr (fun k => ?_) hev
 simp only [laws_toRoleS.f]
 rw [if_pos (by omega),if_pos (by omega)]
 rfl
theorem eqRole_ev (x : S54) (hx : (x.f1.length : Int) ≤ 1152921504606846976) : Ev (fun k => laws_eqRole.f k x.f0 x.f1 x.f2 x.f3 x.f4 x.f0 x.f1 x.f2 x.f3 x.f4) true:=by
 unfold laws_eqRole.f
 simp only [if_true]
 exact Ev.bind (eqS_T36_ev x.f1 hx) ⟨0,fun _ _ => rfl⟩
theorem eqRoles_l0 (xs : List S54) (hl : ∀ j : Int,((rd_T54 xs j).f1.length : Int) ≤ 1152921504606846976) : ∀ (d : Nat) (i : Int),0 ≤ i → (xs.length : Int) - i = d → (xs.length : Int) ≤ 1152921504606846976 → Ev (fun k => laws_eqRoleS.l0 k xs xs i) true:=by
 intro d
 induction d with
 | zero =>
  intro i h0 hd hx
  refine ⟨1,fun k hk => ?_⟩
  obtain ⟨k,rfl⟩ : ∃ q,k = q + 1:=⟨k - 1,by omega⟩
  simp only [laws_eqRoleS.l0]
  rw [if_neg (by omega)]
 | succ d ih =>
  intro i h0 hd hx
  have hlt : i < (xs.length : Int):=by omega
  have ei : wrap64 (i + 1) = i + 1:=wrap_id (by omega) (by omega)
  refine Ev.step (f:=fun k => (laws_eqRole.f k (rd_T54 xs i).f0 (rd_T54 xs i).f1 (rd_T54 xs i).f2 (rd_T54 xs i).f3 (rd_T54 xs i).f4 (rd_T54 xs i).f0 (rd_T54 xs i).f1 (rd_T54 xs i).f2 (rd_T54 xs i).f3 (rd_T54 xs i).f4).bind fun t => if t = true then laws_eqRoleS.l0 k xs xs (i + 1) else some false) (fun k => ?_) (Ev.bind (eqRole_ev _ (hl i)) (Ev.congr (fun k => if_pos rfl) (ih (i + 1) (by omega) (by omega) hx)))
  simp only [laws_eqRoleS.l0,ei]
  rw [if_pos hlt,if_pos h0,if_pos hlt]
theorem eqRoles_ev (xs : List S54) (hx : (xs.length : Int) ≤ 1152921504606846976) (hl : ∀ j : Int,((rd_T54 xs j).f1.length : Int) ≤ 1152921504606846976) : Ev (fun k => laws_eqRoleS.f k xs xs) true:=by
 refine Ev.congr (f:=fun k => laws_eqRoleS.l0 k xs xs 0) (fun k => ?_) (eqRoles_l0 xs hl xs.length 0 (by omega) (by omega) hx)
 simp only [laws_eqRoleS.f,if_true]
theorem szConfig_ev (ip b gate : Int) (gm wm : ByteArray) (res : Int) (g : List S116) (l : List S49) (h1 : gm.size ≤ 140737488351232) (h2 : wm.size ≤ 140737488351232) (h3 : g.length ≤ 140737488351232) (h4 : l.length ≤ 140737488351232) (hw : ∀ y ∈ l,wf49 y) :
  ∃ (t : Int) (K : Nat),(∀ k,K ≤ k → laws_szConfig.f k ip b gate gm wm res g l 1048576 = some t) ∧ (0 ≤ t → g.length ≤ 1048576 ∧ l.length ≤ 1048576 ∧ ∀ j : Int,0 ≤ j → j < l.length → (rd_T49 l j).f0.size ≤ 1048576 ∧ (rd_T49 l j).f1.length ≤ 1048576):=by
 simp only [laws_szConfig.f,laws_szPlaceS.f,laws_szRoleS.f]
 rw [wrap_id (n:=1048576 - (gm.size : Int)) (by omega) (by omega)]
 by_cases c1 : 1048576 - (gm.size : Int) < 0
 ·exact ⟨-1,0,fun k _ => by rw [if_pos c1],fun h => by omega⟩
 simp only [if_neg c1]
 rw [wrap_id (n:=1048576 - (gm.size : Int) - (wm.size : Int)) (by omega) (by omega)]
 by_cases c2 : 1048576 - (gm.size : Int) - (wm.size : Int) < 0
 ·exact ⟨-1,0,fun k _ => by rw [if_pos c2],fun h => by omega⟩
 simp only [if_neg c2]
 rw [wrap_id (n:=1048576 - (gm.size : Int) - (wm.size : Int) - (g.length : Int)) (by omega) (by omega)]
 by_cases c3 : 1048576 - (gm.size : Int) - (wm.size : Int) - (g.length : Int) < 0
 ·exact ⟨-1,0,fun k _ => by simp only [if_pos c3,Option.bind_some];rfl,fun h => by omega⟩
 simp only [if_neg c3,Option.bind_some]
 rw [wrap_id (n:=1048576 - (gm.size : Int) - (wm.size : Int) - (g.length : Int) - (l.length : Int)) (by omega) (by omega)]
 by_cases c4 : 1048576 - (gm.size : Int) - (wm.size : Int) - (g.length : Int) - (l.length : Int) < 0
 ·exact ⟨-1,0,fun k _ => by simp only [if_pos c4,Option.bind_some];rfl,fun h => by omega⟩
 simp only [if_neg c4]
 obtain ⟨t,e,ht,hh⟩:=szRoles_l0 l hw (by omega) l.length 0 (1048576 - (gm.size : Int) - (wm.size : Int) - (g.length : Int) - (l.length : Int)) (by omega) (by omega) (by omega) (by omega)
 by_cases c5 : t < 0
 ·exact ⟨-1,l.length + 1,fun k hk => by rw [e k hk,Option.bind_some,if_pos c5],fun h => by omega⟩
 ·exact ⟨t,l.length + 1,fun k hk => by rw [e k hk,Option.bind_some,if_neg c5],fun h => ⟨by omega,by omega,fun j h0 hj => hh h j h0 hj⟩⟩
end
section
-- NEEDS laws.szConfig laws.toConfig laws.eqConfig impl.ConfigOK spec.ConfigOK
theorem slim_map (l : List S49) (hx : l.length ≤ 1048576) (hr : ∀ j : Int,0 ≤ j → j < l.length → (rd_T49 l j).f0.size ≤ 1048576 ∧ (rd_T49 l j).f1.length ≤ 1048576) : Slim (l.map toRole) 2097152:=by
 intro j
 unfold rd_T54
 rw [List.getD_eq_getElem?_getD,List.getElem?_map]
 by_cases hj : j.toNat < l.length
 ·have e : l[j.toNat]? = some (rd_T49 l (j.toNat : Int)):=by
   unfold rd_T49
   rw [List.getD_eq_getElem?_getD,Int.toNat_natCast,List.getElem?_eq_getElem hj];rfl
  have h:=hr (j.toNat : Int) (by omega) (by omega)
  rw [e,Option.map_some,Option.getD_some]
  simp only [toRole,List.length_map]
  omega
 ·rw [List.getElem?_eq_none (by omega),Option.map_none,Option.getD_none]
  exact Nat.zero_le _
end
section
def to_T100 (x : S116) : S100:=(⟨(⟨x.f0.f0,x.f0.f1⟩ : S26),(⟨x.f1.f0,x.f1.f1⟩ : S34)⟩ : S100)
theorem to_T100_l0 (l : List S116) : ∀ (d : Nat) (acc : List S100) (i : Int),acc.length = l.length → 0 ≤ i → (l.length : Int) - i = d → (l.length : Int) ≤ 1152921504606846976 →
  ∃ ys : List S100,Ev (fun k => laws_toPlaceS.l0 k l acc i) ys ∧ ys.length = l.length ∧ (∀ j : Nat,(j : Int) < i → ys[j]? = acc[j]?) ∧ (∀ j : Nat,i ≤ (j : Int) → ys[j]? = (l.map to_T100)[j]?):=by
 intro d
 induction d with
 | zero =>
  intro acc i ha h0 hd hx
  refine ⟨acc,⟨1,fun k hk => ?_⟩,ha,fun _ _ => rfl,fun j hj => by rw [List.getElem?_eq_none (by omega),List.getElem?_eq_none (by rw [List.length_map];omega)]⟩
  obtain ⟨k,rfl⟩ : ∃ q,k = q + 1:=⟨k - 1,by omega⟩
  simp only [laws_toPlaceS.l0]
  rw [if_neg (by omega)]
 | succ d ih =>
  intro acc i ha h0 hd hx
  have hlt : i < (l.length : Int):=by omega
  have hn : i.toNat < l.length:=by omega
  have ei : wrap64 (i + 1) = i + 1:=wrap_id (by omega) (by omega)
  obtain ⟨ys,hev,hlen,hold,hnew⟩:=ih (acc.set i.toNat (to_T100 (rd_T116 l i))) (i + 1) (by rw [List.length_set];exact ha) (by omega) (by omega) hx
  refine ⟨ys,Ev.step (f:=fun k => laws_toPlaceS.l0 k l (acc.set i.toNat (to_T100 (rd_T116 l i))) (i + 1)) (fun k => ?_) hev,hlen,fun j hj => ?_,fun j hj => ?_⟩
  ·simp only [laws_toPlaceS.l0]
   rw [if_pos hlt,if_pos h0]
   simp only [laws_toPlace.f,Option.bind_some,laws_toNet.f,laws_toRange.f,ei,to_T100]
   rw [if_pos (by omega)]
  ·rw [hold j (by omega),List.getElem?_set_ne (by omega)]
  ·by_cases hji : (j : Int) = i
   ·have e : i.toNat = j:=by omega
    rw [hold j (by omega),e,List.getElem?_set_self (by omega),List.getElem?_map,List.getElem?_eq_getElem (show j < l.length by omega)]
    simp only [Option.map_some,rd_T116,e,List.getD_eq_getElem?_getD,List.getElem?_eq_getElem (show j < l.length by omega),Option.getD_some]
   ·exact hnew j (by omega)
theorem to_T100_ev (l : List S116) (hx : l.length ≤ 1048576) : Ev (fun k => laws_toPlaceS.f k l) (l.map to_T100):=by
 obtain ⟨ys,hev,hlen,_,hnew⟩:=to_T100_l0 l l.length (List.replicate l.length z100) 0 (by simp) (by omega) (by omega) (by omega)
 have e : ys = l.map to_T100:=List.ext_getElem? fun j => hnew j (by omega)
 rw [← e]
 refine Ev.congr (fun k => ?_) hev
 simp only [laws_toPlaceS.f]
 rw [if_pos (by omega),if_pos (by omega)]
 rfl
end
section
def wf116 (x : S116) : Prop:=wf23 x.f0 ∧ (wf30 x.f1)
set_option maxRecDepth 100000 in
theorem opens116 : Opens Try.prog 116 k116 wf116 :=
 Opens.iso (fun x : S116 => (x.f0,x.f1)) (fun y => ⟨y.1,y.2⟩) (fun _ => rfl) (Opens.struct Try.underlying116 (by kernel_rfl) (OpensF.cons rfl opens23 2 rfl (OpensF.one rfl opens30)))
end
section
def wf64 (x : S64) : Prop:=wf23 x.f0 ∧ ((Lit.int .i64 x.f1).wf = true ∧ (x.f2.size ≤ 140737488351232 ∧ (x.f3.size ≤ 140737488351232 ∧ ((Lit.int .i64 x.f4).wf = true ∧ ((x.f5.length * 32 ≤ 140737488351232 ∧ x.f5.length ≤ maxLen ∧ ∀ y ∈ x.f5,wf116 y) ∧ ((x.f6.length * 64 ≤ 140737488351232 ∧ x.f6.length ≤ maxLen ∧ ∀ y ∈ x.f6,wf49 y)))))))
set_option maxRecDepth 100000 in
theorem opens64 : Opens Try.prog 64 k64 wf64 :=
 Opens.iso (fun x : S64 => (x.f0,x.f1,x.f2,x.f3,x.f4,x.f5,x.f6)) (fun y => ⟨y.1,y.2.1,y.2.2.1,y.2.2.2.1,y.2.2.2.2.1,y.2.2.2.2.2.1,y.2.2.2.2.2.2⟩) (fun _ => rfl) (Opens.struct Try.underlying64 (by kernel_rfl) (OpensF.cons rfl opens23 2 rfl (OpensF.cons rfl (Opens.int Try.underlying3 (by kernel_rfl)) 3 rfl (OpensF.cons rfl (Opens.string Try.underlying9 (by kernel_rfl)) 4 rfl (OpensF.cons rfl (Opens.string Try.underlying9 (by kernel_rfl)) 5 rfl (OpensF.cons rfl (Opens.int Try.underlying3 (by kernel_rfl)) 6 rfl (OpensF.cons rfl (Opens.slice Try.underlying61 (by kernel_rfl) 32 (by kernel_rfl) opens116) 7 rfl (OpensF.one rfl (Opens.slice Try.underlying62 (by kernel_rfl) 64 (by kernel_rfl) opens49)))))))))
end
section
def P_FnExactConfigOK : Prop:=∀ (a0 : S64),wf64 a0 → ∃ k,laws_FnExactConfigOK.f k a0.f0.f0 a0.f0.f1 a0.f1 a0.f2 a0.f3 a0.f4 a0.f5 a0.f6 = some true
end
section
-- NEEDS laws.FnExactConfigOK
theorem pure_FnExactConfigOK : P_FnExactConfigOK:=by
 intro c hw
 obtain ⟨⟨ip,b⟩,gate,gm,wm,res,g,l⟩:=c
 have hgl : g.length * 32 ≤ 140737488351232:=hw.2.2.2.2.2.1.1
 have hll : l.length * 64 ≤ 140737488351232:=hw.2.2.2.2.2.2.1
 obtain ⟨t,K0,e0,hh⟩:=szConfig_ev ip b gate gm wm res g l hw.2.2.1 hw.2.2.2.1 (by omega) (by omega) hw.2.2.2.2.2.2.2.2
 dsimp only
 by_cases ht : t < 0
 ·refine ⟨K0,?_⟩
  simp only [laws_FnExactConfigOK.f,e0 K0 (Nat.le_refl _),Option.bind_some,if_pos ht]
 obtain ⟨hg,hl,hr⟩:=hh (by omega)
 obtain ⟨K1,h1⟩:=to_T100_ev g hg
 obtain ⟨K2,h2⟩:=toRoles_ev l hl (fun j h0 h1 => (hr j h0 h1).2)
 have hml : (l.map toRole).length = l.length:=List.length_map ..
 have hmg : (g.map to_T100).length = g.length:=List.length_map ..
 have hs : Slim (l.map toRole) 2097152:=slim_map l hl hr
 have b2:=spec_Config_ev ip b gate gm wm res (g.map to_T100) (l.map toRole) (by omega) (by omega) 2097152 hs (by omega)
 have b3:=impl_Config_ev ip b gate gm wm res (g.map to_T100) (l.map toRole) (by omega) (by omega) 2097152 hs (by omega)
 obtain ⟨K4,h4⟩:=eqS_T100_ev (g.map to_T100) (by omega)
 obtain ⟨K5,h5⟩:=eqRoles_ev (l.map toRole) (by omega) (fun j => by have:=hs j;omega)
 have b0:=e0 (K0 + K1 + K2 + K4 + K5 + (g.length + l.length + 2097152 + 8)) (by omega)
 have c1:=h1 (K0 + K1 + K2 + K4 + K5 + (g.length + l.length + 2097152 + 8)) (by omega)
 have c2:=h2 (K0 + K1 + K2 + K4 + K5 + (g.length + l.length + 2097152 + 8)) (by omega)
 have c4:=h4 (K0 + K1 + K2 + K4 + K5 + (g.length + l.length + 2097152 + 8)) (by omega)
 have c5:=h5 (K0 + K1 + K2 + K4 + K5 + (g.length + l.length + 2097152 + 8)) (by omega)
 replace b2:=b2 (K0 + K1 + K2 + K4 + K5 + (g.length + l.length + 2097152 + 8)) (by omega)
 replace b3:=b3 (K0 + K1 + K2 + K4 + K5 + (g.length + l.length + 2097152 + 8)) (by omega)
 dsimp only at c1 c2 c4 c5
 refine ⟨K0 + K1 + K2 + K4 + K5 + (g.length + l.length + 2097152 + 8),?_⟩
 simp only [laws_FnExactConfigOK.f,b0,Option.bind_some,if_neg ht,laws_toConfig.f,laws_toNet.f,c1,c2,b2,b3,bne_self_eq_false,Bool.false_eq_true,if_false,laws_eqConfig.f,laws_eqNet.f,if_true,c4,c5]
end
section
-- IMPORT Derived.Test.YtiemmhhjiplnlaaRows
-- IMPORT Derived.WalkKit
-- IMPORT Derived.ProofKit
-- IMPORT Derived.OpenShut
-- IMPORT Derived.ShutString
-- IMPORT Derived.ChangeOld
-- IMPORT Derived.Below
-- IMPORT Derived.SizedLaws
open Go.ChangeShapes Go.WideShapes Go.ChangeAt
open Go.ChangeMaps (open_string shut_string)
theorem own_FnExactConfigOK : ownKnob Try.prog.godebug = none:=by kernel_rfl
theorem laidOut_FnExactConfigOK : laidOutB Try.prog = true:=by kernel_rfl
set_option maxHeartbeats 4000000 in
set_option maxRecDepth 100000 in
theorem lifted_FnExactConfigOK (os : Os) (started : os.Started) (H : Type) (enc : TypeId × Value → H) :
  ReturnsInHanded {} Try.checked os 9 .any (Rows.fnExactConfigOKSpec.pre6 enc Try.prog Try.f9 Rows.fnExactConfigOKRow.domain false) (Rows.fnExactConfigOKSpec.post enc Try.prog Try.f9 false true false false):=by
 refine returnsInHanded_of_change_sized (C:=Try.checked) own_FnExactConfigOK started (by kernel_rfl) Try.func9
  (ChangeSpec.witness6 (enc:=enc) (C:=Try.checked) false ⟨#[],#[.agg #[.int .i64 0,.int .i64 0,.int .i64 0,.string ByteArray.empty,.string ByteArray.empty,.int .i64 0,.slice none 0 0,.slice none 0 0]],[]⟩ 8 (by kernel_rfl) (by kernel_rfl) (by kernel_rfl) (by kernel_rfl)) ?_
 intro W base args ds gs before hval0 hW hcnd hsz0 _
 have hsz : (DataW.weightsEach Try.prog (Try.f9.params.toList ++ Rows.fnExactConfigOKSpec.plain.varTypes Try.prog) (ds ++ gs)).all (· ≤ reachBytes) = true:=hsz0
 have hval : ∀ (j : Nat) t v,Try.f9.params[j]? = some t → args[j]? = some v → Value.okWide Try.prog W .any base t v:=hval0
 have hW':=hW
 obtain ⟨p,q,hA0,hV,rfl,hfz,hnd⟩:=hW
 have hA : DataW.TrodAll enc Try.prog W 0 (fun _ => true) true Try.f9.params.toList args.toList ds p:=hA0
 rw [Try.params9] at hA hval hsz
 obtain ⟨v0,vs0,d0,ds0,p0,q0,hargs,rfl,rfl,h0,r0⟩:=trodAll_cons hA
 obtain ⟨rfl,rfl,rfl⟩:=trodAll_nil r0
 obtain rfl : args = #[v0]:=by cases args;simp_all
 obtain ⟨rfl,rfl⟩:=trodVars_none hV
 have k0:=h0
 have lt0 : ∀ x ∈ p0,x.block < W.heap.size:=by obtain ⟨m,hm⟩:=k0;exact DataW.trod_lt m _ _ _ hm
 obtain ⟨cs0,rfl,_⟩:=okWide_struct Try.underlying64 (hval 0 64 v0 rfl rfl)
 obtain ⟨fuel0,hf0⟩:=h0
 obtain ⟨a0,kx0,w0⟩:=opens64.op hf0 (fun n hn => by have z:=List.all_eq_true.1 hsz _ (DataW.weights_mem_each (j:=0) (t:=64) rfl rfl n hn);simpa using z)
 obtain ⟨A0_6,c0_6,A0_7,c0_7,e0,hl0_6,hc0_6,hl0_7,hc0_7⟩:=k64_open kx0
 obtain rfl : cs0 = #[.int .i64 a0.f0.f0,.int .i64 a0.f0.f1,.int .i64 a0.f1,.string a0.f2,.string a0.f3,.int .i64 a0.f4,.slice A0_6 a0.f5.length c0_6,.slice A0_7 a0.f6.length c0_7]:=Array.toList_inj.1 e0
 clear hA0 hval0 hsz0 hsz
 obtain ⟨k,hk⟩:=pure_FnExactConfigOK a0 w0
 refine (laws_FnExactConfigOK.calls k a0.f0.f0 a0.f0.f1 a0.f1 a0.f2 a0.f3 a0.f4 _ _ a0.f5 _ _ a0.f6 true W hc0_6 hl0_6 hc0_7 hl0_7 hk).mono fun e W' hh => ?_
 obtain ⟨he,bel0⟩:=hh
 have bel : Below W.heap.size W W':=bel0
 subst he
 exact ⟨_,rfl,_,_,_,[],_,[],hW',trodAll_mk1 (shut_bool Try.underlying4 _),(trodAll_cons_mk (Below.trod laidOut_FnExactConfigOK (by kernel_rfl) (of_decide_eq_true (by kernel_rfl)) k0 bel lt0) trodAll_mk0),rfl,bel.frame _,fun h => by cases h⟩
theorem over_FnExactConfigOK : Rows.fnExactConfigOKRow.holds Try.pinned (OpenSpec.ofChange Rows.fnExactConfigOKSpec) :=
 OpenClaim.holds_of_wide 9 Try.f9 rfl rfl rfl rfl rfl rfl rfl ⟨rfl,rfl,rfl,rfl,rfl⟩ rfl rfl rfl rfl rfl (by kernel_rfl) Try.func9 (by kernel_rfl)
  (of_decide_eq_true (by kernel_rfl)) (by unfold Func.isWrapper;first|(rw [if_pos (by decide +kernel)];kernel_rfl)|(rw [if_neg (by decide +kernel)];exact ⟨rfl,rfl⟩))
  (fun os started H enc _ => lifted_FnExactConfigOK os started H enc)
theorem proved_FnExactConfigOK : Rows.FnExactConfigOKSaid:=over_FnExactConfigOK
#print axioms proved_FnExactConfigOK
end
end Go.Proofs.Ytiemmhhjiplnlaa.X
