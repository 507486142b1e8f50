/- Part 9 of the proof: LmN, LmP, LmR, LaR, LaSh, LaLaw, LmY, LmZ0, LmZ4. By an AI agent. -/
import Derived.Test.YtjfodgdlgohioaaGreatDoorP8
import Derived.Test.YtjfodgdlgohioaaGreatDoorP7
import Derived.Test.YtjfodgdlgohioaaGreatDoorP1
import Derived.Carry
import Derived.ProofKit
import Derived.OpenShut
import Derived.LaidMore
import Derived.Lay
import Derived.LaidOnce
import Derived.Stop.Joined
import Derived.Test.YtjfodgdlgohioaaGreatDoorCards
import Derived.Test.YtjfodgdlgohioaaGreatDoorTie
import Derived.JoinedOf
import Derived.SevenTiedAt
import Derived.LaidLaws
set_option linter.all false
/- Law 36: ReviveCodes, the call. -/
namespace Go.Lm
open Go Go.La Go.RowKit Go.Proofs.Tryz

theorem c6 {h : AH} {R : AV → AH → Prop} (hk : R (.bool true) h) : ACall prog (.func (.func 6) [] []) [] h R :=
  (awake_ok h).mono fun v h' ⟨e1, e2⟩ => by subst e1; subst e2; exact hk
/-- The numbers are of 64 bits. -/
def NumS (x : Sp) : Prop := I64 x.t ∧ I64 x.i ∧ I64 x.p ∧ I64 x.r ∧ I64 x.b ∧ I64 x.d
theorem few_fit {l : List Sp} (hf : few l 8 = true) (hn : ∀ x ∈ l, NumS x) : (∀ x ∈ l, FitS x) ∧ l.length ≤ 8 := by
  rw [few, Bool.and_eq_true, decide_eq_true_eq] at hf
  obtain ⟨h1, h2⟩ := hf
  rw [List.take_of_length_le h2, List.all_eq_true] at h1
  refine ⟨fun x hx => ?_, h2⟩
  obtain ⟨n1, n2, n3, n4, n5, n6⟩ := hn x hx
  have h3 := h1 x hx
  rw [sh100, Bool.and_eq_true, decide_eq_true_eq, decide_eq_true_eq] at h3
  exact ⟨n1, n2, n3, n4, n5, n6, by omega, by omega⟩
theorem c11' {l l2 : List Sp} {a a2 : Option Pt} {n n2 : Nat} {k w k2 w2 : Int} {h : AH} {R : AV → AH → Prop} (hn : n = l.length) (hn2 : n2 = l2.length) (hs : SL h a l) (hs2 : SL h a2 l2) (hl : l.length < 2 ^ 60) (hk : R (.bool (decide (k = k2) && decide (l = l2) && decide (w = w2))) h) : ACall prog (.func (.func 11) [] []) [.agg (cc k a n w), .agg (cc k2 a2 n2 w2)] h R := by
  subst hn; subst hn2; exact c11 hs hs2 hl hk
theorem c7' {l : List Sp} {a : Option Pt} {n : Nat} {k w : Int} {h : AH} {R : AV → AH → Prop} (hl : n = l.length) (hs : SL h a l) (hf : ∀ x ∈ l, FitS x) (hn : l.length < 2 ^ 60) (h1 : I64 k) (h2 : I64 w) (hk : R (.tuple [.str (enc k l w).1, .int .i64 (enc k l w).2]) h) : ACall prog (.func (.func 7) [] []) [.agg (cc k a n w)] h R := by
  subst hl; exact c7 hs hf hn h1 h2 hk
theorem ltake_len (s : Str) : (ltake s).1.length ≤ 256 := by
  unfold ltake
  split
  · simp
  · rename_i hb
    unfold ltakeB
    split
    · split
      · rw [lotL_len]
        by_cases h0 : (rnum (s, 0)).2.2 = 0
        · have := Int.not_lt.1 fun h => hb ⟨h0, h⟩
          omega
        · rw [rnum, if_pos rfl] at h0 ⊢
          have := (tk_err h0).1
          simp only [this]; decide
      · simp
    · simp
theorem dec_len (s : Str) : (dec s).2.1.length ≤ 256 := by
  unfold dec
  split
  · simp
  · split
    · split
      · simp
      · exact ltake_len _
    · split
      · split <;> simp
      · simp
theorem ltake_fit {s : Str} (hs : s.length < 2 ^ 60) : ∀ x ∈ (ltake s).1, FitS x := by
  unfold ltake
  split
  · simp
  · unfold ltakeB
    split
    · split
      · exact lotL_fit (Nat.lt_of_le_of_lt (rnum_len (s, 0)) hs) _
      · simp
    · simp
theorem dec_fit {s : Str} (hs : s.length < 2 ^ 60) : (∀ x ∈ (dec s).2.1, FitS x) ∧ I64 (dec s).1 ∧ I64 (dec s).2.2.1 := by
  have z : I64 0 ∧ I64 1 ∧ I64 2 := by unfold I64; omega
  unfold dec
  split
  · exact ⟨by simp, z.1, z.1⟩
  · split
    · split
      · exact ⟨by simp, z.1, z.1⟩
      · exact ⟨ltake_fit (Nat.lt_of_le_of_lt (rnum_len (s, 0)) hs), z.2.1, z.1⟩
    · split
      · split
        · exact ⟨by simp, z.1, z.1⟩
        · exact ⟨by simp, z.2.2, rsig_i64 _⟩
      · exact ⟨by simp, z.1, z.1⟩
section
variable {l : List Sp} {a : Option Pt} {k w : Int} {s : Str} {h : AH} {R : AV → AH → Prop}
theorem c3 (hs : SL h a l) (hn : ∀ x ∈ l, NumS x) (hk1 : I64 k) (hw : I64 w) (hk : R (.bool true) h) : ACall prog (.func (.func 3) [] []) [.agg (cc k a l.length w), .str s] h R := by
  refine ACall.isok fun hok => ACall.pure (a3 (w3 _ _ _ _ _ _ _) ⟨⟨a, l.length⟩, rc (gc _ _ _ _ _) 1 1 (by omega), ?_⟩)
  have e1 : Ext h (h.new (AObj.cells false 0 ⟨24, true, true⟩ (cc k a l.length w))) := (Ext.refl h).new _
  refine c5 (m := 8) (by omega) (hs.old hok e1) ⟨_, rfl, ?_⟩
  cases hf : few l 8 with
  | false => exact ⟨fun _ => c6 ⟨_, rfl, e1, Low.bool _ _, hk⟩, fun h => by cases h⟩
  | true =>
    obtain ⟨hfit, hl8⟩ := few_fit hf hn
    refine ⟨fun _ => c6 ⟨_, rfl, e1, Low.bool _ _, hk⟩, fun h1 => ?_⟩
    have h1 : s.length ≤ 1024 := by have := of_decide_eq_false (show decide ((s.length : Int) > 1024) = false from h1); omega
    have hs60 : s.length < 2 ^ 60 := by omega
    refine ⟨(k, ⟨a, l.length⟩, w), rc (gc _ _ _ _ _) 0 3 (by omega), c7 (hs.old hok e1) hfit (by omega) hk1 hw ⟨((enc k l w).1, (enc k l w).2, ()), rfl, (k, ⟨a, l.length⟩, w), rc (gc _ _ _ _ _) 0 3 (by omega), c8 (hs.old hok e1) hfit (by omega) hw ⟨((enc k l w).1, (enc k l w).2, ()), rfl, ?_⟩⟩⟩
    refine c9 hs60 fun h2 sl2 e2 nl2 => ⟨(((dec s).1, sl2, (dec s).2.2.1), (dec s).2.2.2, ()), rfl, _, wrg (get_new _ _) (by simp [encTup]) (Nat.zero_le _), ?_⟩
    refine c10 hs60 fun h4 sl4 e4 nl4 => ⟨(((dec s).1, sl4, (dec s).2.2.1), (dec s).2.2.2, ()), rfl, _, wrg (get_new _ _) (by simp [encTup]) (Nat.zero_le _), ?_⟩
    dsimp only
    rw [beq_self_eq_true, beq_self_eq_true, beq_self_eq_true]
    -- the heaps
    have x2 : ((h2.new (AObj.cells false 0 ⟨24, true, true⟩ (cc 0 none 0 0))).set h2.next (CB (dec s).1 sl2.1 sl2.len (dec s).2.2.1)).get h2.next = CB (dec s).1 sl2.1 sl2.len (dec s).2.2.1 := get_set _ _ _
    have e3 : Ext h2 ((h2.new (AObj.cells false 0 ⟨24, true, true⟩ (cc 0 none 0 0))).set h2.next (CB (dec s).1 sl2.1 sl2.len (dec s).2.2.1)) := ((Ext.refl h2).new _).set (Nat.le_refl _) _
    have e5 : Ext h4 ((h4.new (AObj.cells false 0 ⟨24, true, true⟩ (cc 0 none 0 0))).set h4.next (CB (dec s).1 sl4.1 sl4.len (dec s).2.2.1)) := ((Ext.refl h4).new _).set (Nat.le_refl _) _
    have x4 := (e5.2 h2.next (Nat.lt_of_lt_of_le (Nat.lt_succ_self _) e4.1)).trans ((e4.2 h2.next (Nat.lt_succ_self _)).trans x2)
    have y4 : ((h4.new (AObj.cells false 0 ⟨24, true, true⟩ (cc 0 none 0 0))).set h4.next (CB (dec s).1 sl4.1 sl4.len (dec s).2.2.1)).get h4.next = CB (dec s).1 sl4.1 sl4.len (dec s).2.2.1 := get_set _ _ _
    have n2 := (nl2.same (Nat.le_trans e3.1 (Nat.le_trans e4.1 e5.1)) fun k _ hk => (e5.2 k (Nat.lt_of_lt_of_le (Nat.lt_succ_of_lt hk) e4.1)).trans ((e4.2 k (Nat.lt_succ_of_lt hk)).trans (e3.2 k hk))).sl
    have n4 := (nl4.same e5.1 fun k _ hk => e5.2 k hk).sl
    have ee := e1.trans (e2.trans (e3.trans (e4.trans e5)))
    refine ⟨((dec s).1, sl2, (dec s).2.2.1), rc x4 0 3 (by omega), ((dec s).1, sl4, (dec s).2.2.1), rc y4 0 3 (by omega), ?_⟩
    refine c11' n2.2 n4.2 n2.1 n4.1 (by have := dec_len s; omega) ⟨_, rfl, ?_⟩
    rw [decide_eq_true rfl, decide_eq_true rfl, decide_eq_true rfl]
    exact c6 ⟨_, rfl, ee, Low.bool _ _, hk⟩
end
end Go.Lm
/- Law 36, the plain law: what is encoded is decoded as it was, and the other way round. -/
namespace Go.Lm
open Go Go.La Go.RowKit Go.Proofs.Tryz

theorem dig_pos (n : Nat) : 0 < (dig n).length := by
  by_cases h : n < 128
  · rw [dig_lt h]; exact Nat.one_pos
  · rw [dig_ge h]; simp
theorem u8n {n : Nat} (h : n < 256) : (UInt8.ofNat n).toNat = n := by simp; omega
theorem val_dig (n : Nat) : val (dig n) = n := by
  induction n using Nat.strongRecOn with
  | _ n ih =>
    by_cases h : n < 128
    · rw [dig_lt h, val, val, u8n (by omega)]; omega
    · rw [dig_ge h, val, ih _ (by omega), u8n (by omega)]; omega
theorem lst_dig (n : Nat) : ∀ (lim : Nat) (r : Str), (dig n).length ≤ lim → lst lim (dig n ++ r) = some ((dig n).length - 1) := by
  induction n using Nat.strongRecOn with
  | _ n ih =>
    intro lim r hl
    cases lim with
    | zero => have := dig_pos n; omega
    | succ lim =>
      by_cases h : n < 128
      · rw [dig_lt h]
        simp only [List.cons_append, lst]
        rw [if_pos (by rw [u8n (by omega)]; omega)]; rfl
      · rw [dig_ge h] at hl ⊢
        simp only [List.cons_append, lst, List.length_cons] at hl ⊢
        rw [if_neg (by rw [u8n (by omega)]; omega), ih _ (by omega) lim r (by omega)]
        have := dig_pos (n / 128)
        simp; omega
theorem getD_app {a b : Str} {i : Nat} (h : i < a.length) : (a ++ b).getD i 0 = a.getD i 0 := by
  rw [List.getD_eq_getElem?_getD, List.getD_eq_getElem?_getD, List.getElem?_append_left h]
theorem last_dig (n : Nat) : ((dig n).getD ((dig n).length - 1) 0).toNat = n / 128 ^ ((dig n).length - 1) := by
  induction n using Nat.strongRecOn with
  | _ n ih =>
    by_cases h : n < 128
    · rw [dig_lt h]
      show (UInt8.ofNat n).toNat = n / 1
      rw [u8n (by omega), Nat.div_one]
    · have hp := dig_pos (n / 128)
      have e : (dig n).length - 1 = ((dig (n / 128)).length - 1) + 1 := by rw [dig_ge h, List.length_cons]; omega
      rw [e, dig_ge h, List.getD_cons_succ, ih _ (by omega), Nat.pow_succ, Nat.mul_comm, Nat.div_div_eq_div_mul]
theorem dig_low (n : Nat) (h : 128 ≤ n) : 128 ^ ((dig n).length - 1) ≤ n := by
  induction n using Nat.strongRecOn with
  | _ n ih =>
    have hp := dig_pos (n / 128)
    have e : (dig n).length - 1 = ((dig (n / 128)).length - 1) + 1 := by rw [dig_ge (by omega), List.length_cons]; omega
    rw [e, Nat.pow_succ]
    by_cases h2 : 128 ≤ n / 128
    · have := ih _ (by omega) h2; omega
    · rw [dig_lt (by omega)]; simp; omega
theorem tk_dig {lim n : Nat} (r : Str) (hl : (dig n).length ≤ lim) (h10 : n < 2 ^ 64) : tk lim (dig n ++ r) = (n, (dig n).length, 0) := by
  have hp := dig_pos n
  have e : (dig n).length - 1 + 1 = (dig n).length := by omega
  rw [tk_some (lst_dig n lim r hl), e, List.take_left, val_dig, if_neg]
  rw [bad, getD_app (by omega), last_dig]
  rintro (⟨h1, h2⟩ | ⟨h1, h2⟩)
  · by_cases h : n < 128
    · rw [dig_lt h] at h1; exact absurd h1 (Nat.lt_irrefl 0)
    · have := dig_low n (by omega)
      have h3 : 0 < n / 128 ^ ((dig n).length - 1) := Nat.div_pos this (Nat.pow_pos (by omega))
      omega
  · rw [h1] at h2
    have : n / 128 ^ 9 < 2 := by rw [Nat.div_lt_iff_lt_mul (by decide)]; exact Nat.lt_of_lt_of_le h10 (by decide)
    omega
theorem dig_len9 {n : Nat} (h : n < 2 ^ 63) : (dig n).length ≤ 9 := dig_len 8 n (by omega)
theorem rnum_num {n : Int} (h0 : 0 ≤ n) (hn : I64 n) (r : Str) : rnum (num n ++ r, 0) = (n, (r, 0)) := by
  unfold I64 at hn
  have h63 : n.toNat < 2 ^ 63 := by omega
  rw [rnum, if_pos rfl, num, if_neg (by omega), tk_dig r (dig_len9 h63) (by omega), List.drop_left]
  simp only [Int.toNat_of_nonneg h0]
theorem rsig_sgn {n : Int} (hn : I64 n) (r : Str) : rsig (sgn n ++ r, 0) = (n, (r, 0)) := by
  rw [rsig, if_pos rfl, sgn, tk_dig r (dig_len10 (zig_lt hn)) (zig_lt hn), List.drop_left]
  simp only [unz_zig]
theorem rtext_txt {s : Str} (hs : s.length ≤ 24) (r : Str) : rtext 24 (txt s ++ r, 0) = (s, (r, 0)) := by
  have e : txt s ++ r = dig s.length ++ (s ++ r) := by rw [txt, num, if_neg (by omega), List.append_assoc, Int.toNat_natCast]
  rw [rtext, if_pos rfl]
  simp only [e]
  rw [tk_dig _ (dig_len9 (by omega)) (by omega)]
  have : rerr 24 (dig s.length ++ (s ++ r)) s.length (dig s.length).length 0 = 0 := by
    rw [rerr, if_neg (by omega), if_neg (by simp only [List.length_append]; omega)]
  simp only [this, if_true]
  rw [List.drop_left, List.take_left, ← List.drop_drop, List.drop_left, List.drop_left]
theorem rflag_flg (g : Bool) (r : Str) : rflag (flg g ++ r, 0) = (g, (r, 0)) := by cases g <;> rfl
theorem okS_nn {x : Sp} (h : okS x = true) : 0 < x.t ∧ 0 < x.i ∧ 0 ≤ x.p ∧ 0 ≤ x.r := by
  simp only [okS, Bool.and_eq_true, decide_eq_true_eq] at h
  exact ⟨h.1.1.1.1.1.1.1, h.1.1.1.1.1.1.2, h.1.1.1.1.1.2, h.1.1.1.1.2⟩
theorem rspan_wsp {x : Sp} (ho : okS x = true) (hf : FitS x) (r : Str) : rspan (wsp x ++ r, 0) = (x, (r, 0)) := by
  obtain ⟨f1, f2, f3, f4, f5, f6, -⟩ := hf
  obtain ⟨n1, n2, n3, n4⟩ := okS_nn ho
  obtain ⟨l1, l2⟩ := okS_len ho
  simp only [rspan, rsp, rs9, rs8, rs7, rs6, rs5, rs4, rs3, rs2, rs1, wsp, List.append_assoc]
  simp only [rnum_num (Int.le_of_lt n1) f1, rnum_num (Int.le_of_lt n2) f2, rnum_num n3 f3, rnum_num n4 f4, rtext_txt l1, rtext_txt l2, rsig_sgn f5, rsig_sgn f6, rflag_flg, if_true]
theorem lot_back {l : List Sp} (ho : l.all okS = true) (hf : ∀ x ∈ l, FitS x) (r : Str) : ∀ i, i ≤ l.length → lotSt (l.flatMap wsp ++ r, 0) i = ((l.drop i).flatMap wsp ++ r, 0) ∧ lotL (l.flatMap wsp ++ r, 0) i = l.take i
  | 0, _ => ⟨rfl, rfl⟩
  | i + 1, h => by
    obtain ⟨h1, h2⟩ := lot_back ho hf r i (by omega)
    have hi : i < l.length := by omega
    have e := List.drop_eq_getElem_cons hi
    have := rspan_wsp (List.all_eq_true.1 ho _ (List.getElem_mem hi)) (hf _ (List.getElem_mem hi)) ((l.drop (i + 1)).flatMap wsp ++ r)
    rw [← List.append_assoc, ← List.flatMap_cons, ← e] at this
    rw [lotSt, lotL, h1, h2, this]
    refine ⟨rfl, ?_⟩
    rw [List.take_add, e]; rfl
theorem ltake_lput {l : List Sp} (hf : ∀ x ∈ l, FitS x) (h : (lput l).2 = 0) : ltake (lput l).1 = (l, 0) := by
  unfold lput at h ⊢
  by_cases h1 : 256 < l.length
  · rw [if_pos h1] at h; exact absurd h (by decide)
  rw [if_neg h1] at h ⊢
  by_cases h2 : l.all okS = true
  · rw [if_pos h2]
    have hr := rnum_num (n := l.length) (by omega) (by unfold I64; omega) (l.flatMap wsp)
    have hb := lot_back h2 hf [] l.length (Nat.le_refl _)
    rw [List.append_nil, List.drop_length, List.take_length] at hb
    rw [ltake]
    simp only [hr]
    rw [if_neg (by omega), Int.toNat_natCast, ltakeB, hb.1, hb.2, if_pos h2, if_pos (by decide)]
  · rw [if_neg h2] at h; exact absurd h (by decide)
theorem dec_enc {k w : Int} {l : List Sp} (hf : ∀ x ∈ l, FitS x) (hw : I64 w) (h : (enc k l w).2 = 0) : dec (enc k l w).1 = ((bare k l w).1, (bare k l w).2.1, (bare k l w).2.2, 0) := by
  unfold enc at h ⊢
  by_cases h1 : k = 1
  · subst h1
    rw [if_pos rfl] at h ⊢
    by_cases h2 : (lput l).2 = 0
    · rw [if_pos h2]
      have hr := rnum_num (n := 1) (by omega) (by unfold I64; omega) (lput l).1
      rw [num_one] at hr
      have e : (([1] : Str) ++ (lput l).1) = 1 :: (lput l).1 := rfl
      rw [e] at hr
      rw [dec]
      simp only [hr, ltake_lput hf h2]
      rw [if_neg (by decide), if_pos trivial, if_neg (by decide), bare, if_pos rfl]
    · rw [if_neg h2] at h; exact absurd h h2
  · rw [if_neg h1] at h ⊢
    by_cases h2 : k = 2
    · subst h2
      rw [if_pos rfl]
      have hr := rnum_num (n := 2) (by omega) (by unfold I64; omega) (sgn w)
      rw [num_two] at hr
      have e : (([2] : Str) ++ sgn w) = 2 :: sgn w := rfl
      rw [e] at hr
      have hs := rsig_sgn hw []
      rw [List.append_nil] at hs
      rw [dec]
      simp only [hr, hs]
      rw [if_neg (by decide), if_neg (by decide), if_pos trivial, if_neg (by decide), bare, if_neg (by decide), if_pos rfl]
    · rw [if_neg h2] at h; exact absurd h (by decide)

/-! ### The other way round -/
theorem dig_val : ∀ {s : Str} {lim j : Nat}, lst lim s = some j → (0 < j → (s.getD j 0).toNat ≠ 0) → s.take (j + 1) = dig (val (s.take (j + 1))) ∧ (0 < j → 128 ≤ val (s.take (j + 1))) ∧ ((s.getD j 0).toNat ≠ 0 → 1 ≤ val (s.take (j + 1)))
  | _, 0, _, h, _ => by cases h
  | [], _ + 1, _, h, _ => by cases h
  | b :: r, n + 1, j, h, hz => by
    simp only [lst] at h
    split at h
    · rename_i hb
      cases h
      have e : ([b] : Str) = dig (val [b]) := by
        have : val [b] = b.toNat := by simp only [val]; omega
        rw [this, dig_lt hb]
        congr 1
        exact UInt8.toNat_inj.1 (by rw [u8n (by omega)])
      refine ⟨e, fun h => absurd h (Nat.lt_irrefl 0), fun h => ?_⟩
      show 1 ≤ val [b]
      have h : b.toNat ≠ 0 := h
      simp only [val]; omega
    · rename_i hb
      cases e : lst n r with
      | none => rw [e] at h; cases h
      | some i =>
        rw [e] at h
        have hj : i + 1 = j := Option.some.inj h
        subst hj
        have hz' : (r.getD i 0).toNat ≠ 0 := hz (Nat.succ_pos _)
        obtain ⟨h1, -, h3⟩ := dig_val e (fun _ => hz')
        have h3 := h3 hz'
        have hv : val (b :: r.take (i + 1)) = b.toNat % 128 + 128 * val (r.take (i + 1)) := rfl
        have hlt := b.toNat_lt
        have h128 : 128 ≤ val (b :: r.take (i + 1)) := by rw [hv]; omega
        refine ⟨?_, fun _ => h128, fun _ => Nat.le_trans (by decide) h128⟩
        show b :: r.take (i + 1) = dig (val (b :: r.take (i + 1)))
        rw [dig_ge (by omega), hv]
        have e1 : (b.toNat % 128 + 128 * val (r.take (i + 1))) / 128 = val (r.take (i + 1)) := by omega
        have e2 : (b.toNat % 128 + 128 * val (r.take (i + 1))) % 128 + 128 = b.toNat := by omega
        rw [e1, e2, ← h1]
        congr 1
        exact UInt8.toNat_inj.1 (by rw [u8n (by omega)])
theorem tk_back {lim : Nat} {s : Str} (h : (tk lim s).2.2 = 0) : s = dig (tk lim s).1 ++ s.drop (tk lim s).2.1 := by
  cases e : lst lim s with
  | none =>
    rw [tk_none e] at h
    exact absurd h (by simp only; split <;> decide)
  | some k =>
    have hk := lst_lt e
    have ht := tk_some e
    by_cases hb : bad s k
    · rw [if_pos hb] at ht; rw [ht] at h; exact absurd h (by decide)
    rw [if_neg hb] at ht
    rw [ht]
    have h1 := (dig_val e (fun hp hz => hb (.inl ⟨hp, hz⟩))).1
    simp only
    rw [← h1, List.take_append_drop]
theorem rnum_back {st : Str × Int} (h : (rnum st).2.2 = 0) : st.2 = 0 ∧ st.1 = num (rnum st).1 ++ (rnum st).2.1 ∧ 0 ≤ (rnum st).1 := by
  have h0 : st.2 = 0 := by
    by_cases h0 : st.2 = 0
    · exact h0
    · rw [rnum, if_neg h0] at h; exact h
  rw [rnum, if_pos h0] at h ⊢
  simp only at h
  refine ⟨h0, ?_, by simp only; omega⟩
  simp only
  rw [num, if_neg (by omega), Int.toNat_natCast]
  exact tk_back h
theorem rsig_back {st : Str × Int} (h : (rsig st).2.2 = 0) : st.2 = 0 ∧ st.1 = sgn (rsig st).1 ++ (rsig st).2.1 := by
  have h0 : st.2 = 0 := by
    by_cases h0 : st.2 = 0
    · exact h0
    · rw [rsig, if_neg h0] at h; exact h
  rw [rsig, if_pos h0] at h ⊢
  simp only at h
  refine ⟨h0, ?_⟩
  simp only
  rw [sgn, zig_unz]
  exact tk_back h
theorem rtext_back {st : Str × Int} (h : (rtext 24 st).2.2 = 0) : st.2 = 0 ∧ st.1 = txt (rtext 24 st).1 ++ (rtext 24 st).2.1 := by
  have h0 : st.2 = 0 := by
    by_cases h0 : st.2 = 0
    · exact h0
    · rw [rtext, if_neg h0] at h; exact h
  rw [rtext, if_pos h0] at h ⊢
  by_cases he : rerr 24 st.1 (tk 9 st.1).1 (tk 9 st.1).2.1 (tk 9 st.1).2.2 = 0
  · rw [if_pos he]
    have hn : (tk 9 st.1).2.2 = 0 ∧ (tk 9 st.1).2.1 + (tk 9 st.1).1 ≤ st.1.length := by
      unfold rerr at he
      split at he
      · exact absurd he (by decide)
      · split at he
        · exact absurd he (by decide)
        · rename_i h1; exact ⟨he, Nat.le_of_not_lt fun h2 => h1 ⟨he, h2⟩⟩
    refine ⟨h0, ?_⟩
    have hb := tk_back hn.1
    have hl : (List.take (tk 9 st.1).1 (List.drop (tk 9 st.1).2.1 st.1)).length = (tk 9 st.1).1 := by simp; omega
    simp only [txt]
    rw [hl, num, if_neg (by omega), Int.toNat_natCast, List.append_assoc, ← List.drop_drop, List.take_append_drop]
    exact hb
  · rw [if_neg he] at h; exact absurd h he
theorem rflag_back {st : Str × Int} (h : (rflag st).2.2 = 0) : st.2 = 0 ∧ st.1 = flg (rflag st).1 ++ (rflag st).2.1 := by
  obtain ⟨s, e⟩ := st
  have h0 : e = 0 := by
    by_cases h0 : e = 0
    · exact h0
    · rw [rflag, if_neg h0] at h; exact h
  subst h0
  refine ⟨rfl, ?_⟩
  cases s with
  | nil => exact absurd h (by decide)
  | cons c r =>
    simp only [rflag, if_true] at h ⊢
    by_cases hc : 1 < c.toNat
    · rw [if_pos hc] at h; exact absurd h (show ¬ ((2 : Int) = 0) by decide)
    · rw [if_neg hc]
      have : c = 0 ∨ c = 1 := by
        have : c.toNat = 0 ∨ c.toNat = 1 := by omega
        rcases this with h | h
        · exact .inl (UInt8.toNat_inj.1 h)
        · exact .inr (UInt8.toNat_inj.1 h)
      rcases this with rfl | rfl <;> rfl
theorem rspan_back {st : Str × Int} (h : (rspan st).2.2 = 0) : st.2 = 0 ∧ st.1 = wsp (rspan st).1 ++ (rspan st).2.1 := by
  have h : (rs9 st).2 = 0 := h
  obtain ⟨a8, b8⟩ := rflag_back (st := rs8 st) h
  obtain ⟨a7, b7⟩ := rsig_back (st := rs7 st) a8
  obtain ⟨a6, b6⟩ := rsig_back (st := rs6 st) a7
  obtain ⟨a5, b5⟩ := rtext_back (st := rs5 st) a6
  obtain ⟨a4, b4⟩ := rtext_back (st := rs4 st) a5
  obtain ⟨a3, b3, -⟩ := rnum_back (st := rs3 st) a4
  obtain ⟨a2, b2, -⟩ := rnum_back (st := rs2 st) a3
  obtain ⟨a1, b1, -⟩ := rnum_back (st := rs1 st) a2
  obtain ⟨a0, b0, -⟩ := rnum_back (st := st) a1
  have b0 : st.1 = num (rnum st).1 ++ (rs1 st).1 := b0
  have b1 : (rs1 st).1 = num (rnum (rs1 st)).1 ++ (rs2 st).1 := b1
  have b2 : (rs2 st).1 = num (rnum (rs2 st)).1 ++ (rs3 st).1 := b2
  have b3 : (rs3 st).1 = num (rnum (rs3 st)).1 ++ (rs4 st).1 := b3
  have b4 : (rs4 st).1 = txt (rtext 24 (rs4 st)).1 ++ (rs5 st).1 := b4
  have b5 : (rs5 st).1 = txt (rtext 24 (rs5 st)).1 ++ (rs6 st).1 := b5
  have b6 : (rs6 st).1 = sgn (rsig (rs6 st)).1 ++ (rs7 st).1 := b6
  have b7 : (rs7 st).1 = sgn (rsig (rs7 st)).1 ++ (rs8 st).1 := b7
  have b8 : (rs8 st).1 = flg (rflag (rs8 st)).1 ++ (rs9 st).1 := b8
  refine ⟨a0, ?_⟩
  rw [rspan, if_pos h]
  simp only [rsp, wsp, List.append_assoc]
  rw [← b8, ← b7, ← b6, ← b5, ← b4, ← b3, ← b2, ← b1, ← b0]
theorem lot_out {st : Str × Int} : ∀ {i : Nat}, (lotSt st i).2 = 0 → st.2 = 0 ∧ st.1 = (lotL st i).flatMap wsp ++ (lotSt st i).1
  | 0, h => ⟨h, rfl⟩
  | i + 1, h => by
    obtain ⟨h1, h2⟩ := rspan_back (st := lotSt st i) h
    obtain ⟨h3, h4⟩ := lot_out h1
    refine ⟨h3, ?_⟩
    rw [lotL, List.flatMap_append, List.flatMap_cons, List.flatMap_nil, List.append_nil, List.append_assoc]
    rw [lotSt, ← h2]; exact h4
theorem rend_back {st : Str × Int} (h : rend st = 0) : st.2 = 0 ∧ st.1 = [] := by
  unfold rend at h
  split at h
  · exact absurd h (by decide)
  · rename_i h1
    refine ⟨h, Classical.byContradiction fun h2 => h1 ⟨h, h2⟩⟩
theorem lput_ltake {s : Str} (h : (ltake s).2 = 0) : lput (ltake s).1 = (s, 0) := by
  have hlen := ltake_len s
  unfold ltake at h hlen ⊢
  by_cases hb : (rnum (s, 0)).2.2 = 0 ∧ 256 < (rnum (s, 0)).1
  · rw [if_pos hb] at h; exact absurd h (by decide)
  rw [if_neg hb] at h hlen ⊢
  unfold ltakeB at h hlen ⊢
  by_cases he : rend (lotSt (rnum (s, 0)).2 (rnum (s, 0)).1.toNat) = 0
  · rw [if_pos he] at h hlen ⊢
    by_cases ho : (lotL (rnum (s, 0)).2 (rnum (s, 0)).1.toNat).all okS = true
    · rw [if_pos ho] at hlen ⊢
      obtain ⟨h1, h2⟩ := rend_back he
      obtain ⟨h3, h4⟩ := lot_out h1
      obtain ⟨-, h5, h6⟩ := rnum_back h3
      rw [lput, if_neg (by simp only at hlen ⊢; omega), if_pos ho]
      rw [lotL_len, Int.toNat_of_nonneg h6]
      rw [h2, List.append_nil] at h4
      rw [← h4, ← h5]
    · rw [if_neg ho] at h; exact absurd h (by decide)
  · rw [if_neg he] at h; exact absurd h he
theorem enc_dec {s : Str} (h : (dec s).2.2.2 = 0) : enc (dec s).1 (dec s).2.1 (dec s).2.2.1 = (s, 0) := by
  unfold dec at h ⊢
  by_cases h1 : (rnum (s, 0)).2.2 ≠ 0
  · rw [if_pos h1] at h; exact absurd h h1
  rw [if_neg h1] at h ⊢
  obtain ⟨-, hs, -⟩ := rnum_back (Classical.not_not.1 h1)
  by_cases h2 : (rnum (s, 0)).1 = 1
  · rw [if_pos h2] at h ⊢
    by_cases h3 : (ltake (rnum (s, 0)).2.1).2 ≠ 0
    · rw [if_pos h3] at h; exact absurd h h3
    · rw [if_neg h3]
      have h4 := lput_ltake (Classical.not_not.1 h3)
      simp only [enc, h4, if_true]
      rw [h2, num_one] at hs
      have hs : s = 1 :: (rnum (s, 0)).2.1 := hs
      rw [← hs]
  · rw [if_neg h2] at h ⊢
    by_cases h3 : (rnum (s, 0)).1 = 2
    · rw [if_pos h3] at h ⊢
      by_cases h4 : rend (rsig (rnum (s, 0)).2).2 ≠ 0
      · rw [if_pos h4] at h; exact absurd h h4
      · rw [if_neg h4]
        obtain ⟨h5, h6⟩ := rend_back (Classical.not_not.1 h4)
        obtain ⟨-, h7⟩ := rsig_back h5
        rw [h6, List.append_nil] at h7
        simp only [enc]
        rw [if_neg (by decide), if_pos trivial, ← h7]
        rw [h3, num_two] at hs
        have hs : s = 2 :: (rnum (s, 0)).2.1 := hs
        rw [← hs]
    · rw [if_neg h3] at h; exact absurd h (by decide)
theorem dec_err {s : Str} (h : (dec s).2.2.2 ≠ 0) : (dec s).1 = 0 ∧ (dec s).2.1 = [] ∧ (dec s).2.2.1 = 0 := by
  unfold dec at h ⊢
  split
  · exact ⟨rfl, rfl, rfl⟩
  · rename_i h1
    rw [if_neg h1] at h
    split
    · rename_i h2
      rw [if_pos h2] at h
      split
      · exact ⟨rfl, rfl, rfl⟩
      · rename_i h3; rw [if_neg h3] at h; exact absurd rfl h
    · rename_i h2
      rw [if_neg h2] at h
      split
      · rename_i h3
        rw [if_pos h3] at h
        split
        · exact ⟨rfl, rfl, rfl⟩
        · rename_i h4; rw [if_neg h4] at h; exact absurd rfl h
      · exact ⟨rfl, rfl, rfl⟩
end Go.Lm
/- Law 36: ReviveBack, the call. -/
namespace Go.Lm
open Go Go.La Go.RowKit Go.Proofs.Tryz

theorem enc_len {k w : Int} {l : List Sp} (hf : ∀ x ∈ l, FitS x) (hw : I64 w) : (enc k l w).1.length ≤ 33035 := by
  have h1 := lput_len hf
  have h2 := sgn_len hw
  unfold enc
  split
  · split <;> simp; omega
  · split <;> simp; omega
theorem bare_len {k w : Int} {l : List Sp} (hl : l.length ≤ 8) : (bare k l w).2.1.length ≤ 8 := by
  unfold bare
  split
  · exact hl
  · split <;> simp
section
variable {l : List Sp} {a : Option Pt} {k w : Int} {s : Str} {h : AH} {R : AV → AH → Prop}
theorem c4 (hs : SL h a l) (hn : ∀ x ∈ l, NumS x) (hk1 : I64 k) (hw : I64 w) (hk : R (.bool true) h) : ACall prog (.func (.func 4) [] []) [.agg (cc k a l.length w), .str s] h R := by
  refine ACall.isok fun hok => ACall.pure (a4 (w4 _ _ _ _ _ _ _) ⟨⟨a, l.length⟩, rc (gc _ _ _ _ _) 1 1 (by omega), ?_⟩)
  have e1 : Ext h (h.new (AObj.cells false 0 ⟨24, true, true⟩ (cc k a l.length w))) := (Ext.refl h).new _
  refine c5 (m := 8) (by omega) (hs.old hok e1) ⟨_, rfl, ?_⟩
  cases hf : few l 8 with
  | false => exact ⟨fun _ => c6 ⟨_, rfl, e1, Low.bool _ _, hk⟩, fun h => by cases h⟩
  | true =>
  obtain ⟨hfit, hl8⟩ := few_fit hf hn
  refine ⟨fun _ => c6 ⟨_, rfl, e1, Low.bool _ _, hk⟩, fun h1 => ?_⟩
  have h1 : s.length ≤ 1024 := by have := of_decide_eq_false (show decide ((s.length : Int) > 1024) = false from h1); omega
  have hs60 : s.length < 2 ^ 60 := by omega
  refine ⟨(k, ⟨a, l.length⟩, w), rc (gc _ _ _ _ _) 0 3 (by omega), c7 (hs.old hok e1) hfit (by omega) hk1 hw ⟨((enc k l w).1, (enc k l w).2, ()), rfl, fun _ h' => Ext h h', fun he => ?_, fun _ => e1, ?_⟩⟩
  · have he : (enc k l w).2 = 0 := eq_of_beq he
    have hd := dec_enc (k := k) hfit hw he
    have hel := enc_len (k := k) hfit hw
    refine c9 (by simp only; omega) fun h2 sl2 e2 nl2 => ?_
    dsimp only at nl2 ⊢
    rw [hd] at nl2 ⊢
    refine ⟨(((bare k l w).1, sl2, (bare k l w).2.2), 0, ()), rfl, _, wrg (get_new _ _) (by simp [encTup]) (Nat.zero_le _), ?_⟩
    have x2 : ((h2.new (AObj.cells false 0 ⟨24, true, true⟩ (cc 0 none 0 0))).set h2.next (CB (bare k l w).1 sl2.1 sl2.len (bare k l w).2.2)).get h2.next = CB (bare k l w).1 sl2.1 sl2.len (bare k l w).2.2 := get_set _ _ _
    have e3 : Ext h2 ((h2.new (AObj.cells false 0 ⟨24, true, true⟩ (cc 0 none 0 0))).set h2.next (CB (bare k l w).1 sl2.1 sl2.len (bare k l w).2.2)) := ((Ext.refl h2).new _).set (Nat.le_refl _) _
    have y2 := (e3.2 h.next (Nat.lt_of_lt_of_le (Nat.lt_succ_self _) e2.1)).trans ((e2.2 h.next (Nat.lt_succ_self _)).trans (gc h k a l.length w))
    have n2 := (nl2.same e3.1 fun k _ hk => e3.2 k hk).sl
    have ee := e1.trans (e2.trans e3)
    refine ⟨((bare k l w).1, sl2, (bare k l w).2.2), rc x2 0 3 (by omega), (k, ⟨a, l.length⟩, w), rc y2 0 3 (by omega), c12 (hs.old hok ee) fun a' sa' => ?_⟩
    refine ⟨((bare k l w).1, ⟨a', (bare k l w).2.1.length⟩, (bare k l w).2.2), rfl, rc x2 0 3 (by omega), c11' (l := (bare k l w).2.1) n2.2 rfl n2.1 sa' (by have := bare_len (k := k) (w := w) hl8; omega) ⟨_, rfl, ?_⟩⟩
    rw [decide_eq_true rfl, decide_eq_true rfl, decide_eq_true rfl]
    exact ⟨fun h => (by cases h), fun _ => ee⟩
  · intro h' ej
    refine c9 hs60 fun h2 sl2 e2 nl2 => ⟨(((dec s).1, sl2, (dec s).2.2.1), (dec s).2.2.2, ()), rfl, _, wrg (get_new _ _) (by simp [encTup]) (Nat.zero_le _), ?_⟩
    have x2 : ((h2.new (AObj.cells false 0 ⟨24, true, true⟩ (cc 0 none 0 0))).set h2.next (CB (dec s).1 sl2.1 sl2.len (dec s).2.2.1)).get h2.next = CB (dec s).1 sl2.1 sl2.len (dec s).2.2.1 := get_set _ _ _
    have e3 : Ext h2 ((h2.new (AObj.cells false 0 ⟨24, true, true⟩ (cc 0 none 0 0))).set h2.next (CB (dec s).1 sl2.1 sl2.len (dec s).2.2.1)) := ((Ext.refl h2).new _).set (Nat.le_refl _) _
    have n2 := (nl2.same e3.1 fun k _ hk => e3.2 k hk).sl
    have ee := ej.trans (e2.trans e3)
    refine ⟨fun h3 => ⟨((dec s).1, sl2, (dec s).2.2.1), rc x2 0 3 (by omega), ?_⟩, fun h3 => ⟨((dec s).1, sl2, (dec s).2.2.1), rc x2 0 3 (by omega), ?_⟩⟩
    · obtain ⟨d1, d2, d3⟩ := dec_err ((bne0 _).1 h3)
      rw [d2] at n2
      refine c11' (l := []) (l2 := []) (a2 := none) n2.2 rfl n2.1 ⟨rfl, rfl⟩ (by simp) ⟨_, rfl, ?_⟩
      rw [decide_eq_true (show (((dec s).1, sl2, (dec s).2.2.1) : Int × Sl × Int).1 = 0 from d1), decide_eq_true (show (((dec s).1, sl2, (dec s).2.2.1) : Int × Sl × Int).2.2 = 0 from d3), decide_eq_true rfl]
      exact c6 ⟨_, rfl, ee, Low.bool _ _, hk⟩
    · have h3 : (dec s).2.2.2 = 0 := (bnef _).1 h3
      obtain ⟨f1, f2, f3⟩ := dec_fit hs60
      have hd := enc_dec h3
      refine c7' n2.2 n2.1 f1 (by have := dec_len s; omega) f2 f3 ⟨((enc (dec s).1 (dec s).2.1 (dec s).2.2.1).1, (enc (dec s).1 (dec s).2.1 (dec s).2.2.1).2, ()), rfl, ?_⟩
      rw [hd]
      dsimp only
      rw [beq_self_eq_true]
      exact c6 ⟨_, rfl, ee, Low.bool _ _, hk⟩
end
end Go.Lm
/- Layer A, rows: what a call's arguments read as, as an abstract heap of which nothing may be written; and what a call that hands back true leaves. -/
namespace Go.La
open Go Go.RowKit

variable {P : Program} {H : Type} {enc : TypeId × Value → H} {W : World}

/-- All that is named is for reading alone. -/
structure Ro (m : Mp) (h : AH) (W : World) : Prop where
  sim : Sim m h W
  ro : ∀ b o, h.get b = some o → o.fixed = true
def Mp.put (m : Mp) (b : Nat) (s : Slot) : Mp := fun x => if x = b then some s else m x
def Mp.none : Mp := fun _ => Option.none
def AH.none : AH := ⟨0, fun _ => Option.none⟩
theorem Ro.none (W : World) : Ro Mp.none AH.none W :=
  ⟨⟨fun _ _ => ⟨rfl, rfl⟩, fun _ _ h => (by cases h), fun _ _ _ _ _ _ h => (by cases h), fun _ _ _ _ _ _ _ _ _ _ _ h => (by cases h), fun _ _ _ h => (by cases h), fun _ _ _ _ _ _ h => (by cases h)⟩, fun _ _ h => (by cases h)⟩
theorem Mp.le_put {m : Mp} {b : Nat} {s : Slot} (h : m b = Option.none) : m.le (m.put b s) := fun x t e => by
  unfold Mp.put
  split
  · rename_i hx; subst hx; rw [h] at e; cases e
  · exact e
theorem Ro.new {m : Mp} {h : AH} (r : Ro m h W) {s : Slot} {t : TypeId} {arr : Array Value} {lo hi : Nat} {c : List AV} (hb : W.heap[s.cb]? = some (.cells arr t (lo, hi))) (hr : s.co + s.room ≤ arr.size) (hl : c.length ≤ s.room)
    (hc : ∀ i v, c[i]? = some v → v.one = true ∧ ∃ v', arr[s.co + i]? = some v' ∧ VRel m v v') : Ro (m.put h.next s) (h.new (.cells true 0 ⟨t, false, false⟩ c)) W ∧ m.le (m.put h.next s) := by
  have hn := (r.sim.top h.next (Nat.le_refl _)).2
  have hle := Mp.le_put (s := s) hn
  have old : ∀ b o, (h.new (.cells true 0 ⟨t, false, false⟩ c)).get b = some o → (b = h.next ∧ o = .cells true 0 ⟨t, false, false⟩ c) ∨ (b ≠ h.next ∧ h.get b = some o) := by
    intro b o hg
    rw [AH.new_get] at hg
    split at hg
    · rename_i e; cases hg; exact .inl ⟨e, rfl⟩
    · rename_i e; exact .inr ⟨e, hg⟩
  have pm : ∀ b t, b ≠ h.next → m.put h.next s b = some t → m b = some t := fun b t hb ht => by
    unfold Mp.put at ht; rw [if_neg hb] at ht; exact ht
  have ps : m.put h.next s h.next = some s := by unfold Mp.put; rw [if_pos rfl]
  refine ⟨⟨⟨fun b hb => ?_, fun b o hg => ?_, fun b ro fz el c' t' hg ht => ?_, fun b b' fz el c1 ro' fz' el' c2 s1 s2 hg _ _ _ _ => ?_, fun b o t' hg hne ht => ?_, fun b b' o o' s1 s2 hg _ _ hne _ _ => ?_⟩, fun b o hg => ?_⟩, hle⟩
  · have hb : h.next + 1 ≤ b := hb
    rw [AH.new_get, if_neg (by omega)]
    unfold Mp.put
    rw [if_neg (by omega)]
    exact r.sim.top b (by omega)
  · rcases old b o hg with ⟨rfl, rfl⟩ | ⟨hne, hg⟩
    · exact ⟨s, ps, (Array.getElem?_eq_some_iff.1 hb).1⟩
    · obtain ⟨u, hu, hl⟩ := r.sim.lies b o hg
      exact ⟨u, hle _ _ hu, hl⟩
  · rcases old b _ hg with ⟨rfl, e⟩ | ⟨hne, hg⟩
    · cases e
      rw [ps] at ht; cases ht
      refine ⟨arr, lo, hi, hb, hr, hl, fun i v hi => ?_, fun h => (by cases h), fun h => (by cases h), fun h => (by cases h)⟩
      obtain ⟨h1, v', h2, h3⟩ := hc i v hi
      exact ⟨h1, v', h2, h3.mono hle⟩
    · obtain ⟨arr', lo', hi', c1, c2, c3, c4, c5⟩ := r.sim.cells b ro fz el c' t' hg (pm b t' hne ht)
      refine ⟨arr', lo', hi', c1, c2, c3, fun i v hi => ?_, c5⟩
      obtain ⟨h1, v', h2, h3⟩ := c4 i v hi
      exact ⟨h1, v', h2, h3.mono hle⟩
  · rcases old b _ hg with ⟨rfl, e⟩ | ⟨hne, hg⟩
    · cases e
    · have := r.ro b _ hg; cases this
  · rcases old b o hg with ⟨rfl, rfl⟩ | ⟨hne', hg⟩
    · exact absurd rfl (hne _ _ _ _)
    · have := r.ro b o hg
      cases o with
      | cells => exact absurd rfl (hne _ _ _ _)
      | _ => cases this
  · rcases old b o hg with ⟨rfl, rfl⟩ | ⟨hne', hg⟩
    · exact absurd rfl (hne _ _ _ _)
    · have := r.ro b o hg
      cases o with
      | cells => exact absurd rfl (hne _ _ _ _)
      | _ => cases this
  · rcases old b o hg with ⟨rfl, rfl⟩ | ⟨hne, hg⟩
    · rfl
    · exact r.ro b o hg

/-- Everything old is as it was. -/
def Exd (h h' : AH) : Prop := h.next ≤ h'.next ∧ ∀ b, b < h.next → h'.get b = h.get b
theorem Exd.refl (h : AH) : Exd h h := ⟨Nat.le_refl _, fun _ _ => rfl⟩
theorem Exd.trans {a b c : AH} (h : Exd a b) (k : Exd b c) : Exd a c := ⟨Nat.le_trans h.1 k.1, fun x hx => (k.2 x (Nat.lt_of_lt_of_le hx h.1)).trans (h.2 x hx)⟩
theorem Exd.new (h : AH) (o : AObj) : Exd h (h.new o) := ⟨Nat.le_succ _, fun x hx => by rw [AH.new_get, if_neg (by omega)]⟩
/-- What is said of a heap whose blocks lie below its next is so in each that goes on from it. -/
def Mono (A : AH → List AV → Prop) : Prop := ∀ h h' vs, Exd h h' → (∀ b, h.next ≤ b → h.get b = none) → A h vs → A h' vs

/-- How cells of a type read: n of them, of which A is said. -/
def Reads (enc : TypeId × Value → H) (P : Program) (W : World) (t : TypeId) (n : Nat) (A : AH → List AV → Prop) : Prop :=
  ∀ (m : Mp) (h : AH), Ro m h W → ∀ (fuel : Nat) (cs : List Value) (x : DataW H × List MemPlace), DataW.trod enc P W 0 (fun _ => true) true fuel t cs = some x →
    ∃ m' h' vs, Ro m' h' W ∧ m.le m' ∧ Exd h h' ∧ VsRel m' vs cs ∧ vs.length = n ∧ (∀ v ∈ vs, v.one = true) ∧ A h' vs
def AInt (k : IntKind) : AH → List AV → Prop := fun _ vs => ∃ n, vs = [.int k n] ∧ (Lit.int k n).wf = true
def AStr : AH → List AV → Prop := fun _ vs => ∃ s : Str, vs = [.str s]
def ABool : AH → List AV → Prop := fun _ vs => ∃ b, vs = [.bool b]
theorem mono_int (k : IntKind) : Mono (AInt k) := fun _ _ _ _ _ h => h
theorem mono_str : Mono AStr := fun _ _ _ _ _ h => h
theorem mono_bool : Mono ABool := fun _ _ _ _ _ h => h
theorem reads_int {t : TypeId} {k : IntKind} (ht : P.underlying t = some (.int k)) : Reads enc P W t 1 (AInt k) := by
  intro m h r fuel cs x hd
  obtain ⟨n, rfl, rfl, hw⟩ := DataW.trod_int ht hd
  exact ⟨m, h, [.int k n], r, Mp.le.refl m, Exd.refl h, .cons _ _ _ _ (.int k n) .nil, rfl, by simp [AV.one], n, rfl, hw⟩
theorem reads_str {t : TypeId} (ht : P.underlying t = some .string) : Reads enc P W t 1 AStr := by
  intro m h r fuel cs x hd
  obtain ⟨s, rfl, rfl, -⟩ := DataW.trod_string ht hd
  exact ⟨m, h, [.str s.data.toList], r, Mp.le.refl m, Exd.refl h, .cons _ _ _ _ (by cases s; exact .str _) .nil, rfl, by simp [AV.one], _, rfl⟩
theorem reads_bool {t : TypeId} (ht : P.underlying t = some .bool) : Reads enc P W t 1 ABool := by
  intro m h r fuel cs x hd
  obtain ⟨b, rfl, rfl⟩ := DataW.trod_bool ht hd
  exact ⟨m, h, [.bool b], r, Mp.le.refl m, Exd.refl h, .cons _ _ _ _ (.bool b) .nil, rfl, by simp [AV.one], b, rfl⟩

/-- How fields read that lie one behind the other from o on. -/
inductive FReads (enc : TypeId × Value → H) (P : Program) (W : World) : Nat → List Field → Nat → (AH → List AV → Prop) → Prop
  | nil (o : Nat) : FReads enc P W o [] o (fun _ vs => vs = [])
  | cons {o n e : Nat} {f : Field} {fs : List Field} {A B : AH → List AV → Prop} (ho : f.offset = o) (hn : P.cellsOf f.type = n) (hr : Reads enc P W f.type n A) (hm : Mono A) (hs : FReads enc P W (o + n) fs e B) :
      FReads enc P W o (f :: fs) e (fun h vs => ∃ a b, vs = a ++ b ∧ A h a ∧ B h b)
theorem FReads.le {o e : Nat} {fs : List Field} {B : AH → List AV → Prop} (h : FReads enc P W o fs e B) : o ≤ e := by
  induction h with
  | nil => exact Nat.le_refl _
  | cons _ _ _ _ _ ih => omega
theorem FReads.mono {o e : Nat} {fs : List Field} {B : AH → List AV → Prop} (h : FReads enc P W o fs e B) : Mono B := by
  induction h with
  | nil => exact fun _ _ _ _ _ h => h
  | cons _ _ _ hm _ ih => exact fun h h' vs he hk ⟨a, b, e, ha, hb⟩ => ⟨a, b, e, hm h h' a he hk ha, ih h h' b he hk hb⟩
theorem FReads.run {o e : Nat} {fs : List Field} {B : AH → List AV → Prop} (hf : FReads enc P W o fs e B) (cs : List Value) (hd : ∀ f ∈ fs, ∃ fuel x, DataW.trod enc P W 0 (fun _ => true) true fuel f.type ((cs.drop f.offset).take (P.cellsOf f.type)) = some x) :
    ∀ (m : Mp) (h : AH), Ro m h W → ∃ m' h' vs, Ro m' h' W ∧ m.le m' ∧ Exd h h' ∧ VsRel m' vs ((cs.drop o).take (e - o)) ∧ vs.length = e - o ∧ (∀ v ∈ vs, v.one = true) ∧ B h' vs := by
  induction hf with
  | nil o => exact fun m h r => ⟨m, h, [], r, Mp.le.refl m, Exd.refl h, by rw [Nat.sub_self]; exact .nil, by simp, by simp, rfl⟩
  | @cons o n e f fs A B ho hn hr hm hs ih =>
    intro m h r
    have hle := hs.le
    obtain ⟨fuel, x, hx⟩ := hd f (by simp)
    obtain ⟨m1, h1, v1, r1, l1, e1, q1, n1, o1, a1⟩ := hr m h r fuel _ x hx
    obtain ⟨m2, h2, v2, r2, l2, e2, q2, n2, o2, a2⟩ := ih (fun g hg => hd g (by simp [hg])) m1 h1 r1
    refine ⟨m2, h2, v1 ++ v2, r2, l1.trans l2, e1.trans e2, ?_, ?_, ?_, v1, v2, rfl, hm _ _ _ e2 (fun b hb => (r1.sim.top b hb).1) a1, a2⟩
    · rw [show e - o = n + (e - (o + n)) by omega, List.take_add, List.drop_drop]
      rw [ho, hn] at q1
      exact (q1.mono l2).append q2
    · rw [List.length_append, n1, n2]; omega
    · intro v hv
      rcases List.mem_append.1 hv with hv | hv
      · exact o1 v hv
      · exact o2 v hv
theorem reads_struct {t : TypeId} {fs : Array Field} {e : Nat} {B : AH → List AV → Prop} (ht : P.underlying t = some (.struct fs)) (hc : P.cellsOf t = e) (hf : FReads enc P W 0 fs.toList e B) : Reads enc P W t e B := by
  intro m h r fuel cs x hd
  obtain ⟨xs, n, -, -, hl, hxs, hfs⟩ := DataW.trod_struct ht hd
  obtain ⟨m', h', vs, q1, q2, q3, q4, q5, q6, q7⟩ := hf.run cs (fun f hm => by
    obtain ⟨i, hi⟩ := List.getElem?_of_mem hm
    have hi' : fs[i]? = some f := by rw [← Array.getElem?_toList]; exact hi
    have := hfs i f hi'
    have hlt : i < xs.length := by rw [hxs]; exact (Array.getElem?_eq_some_iff.1 hi').1
    exact ⟨n, xs[i], by rw [this, List.getElem?_eq_getElem hlt]⟩) m h r
  rw [Nat.sub_zero, List.drop_zero, List.take_of_length_le (by rw [hl, hc]; exact Nat.le_refl _)] at q4
  exact ⟨m', h', vs, q1, q2, q3, q4, by simpa using q5, q6, q7⟩
/-- A row of what reads as A. -/
def ARow (n : Nat) (A : AH → List AV → Prop) : AH → List AV → Prop := fun h vs => ∃ (a : Option Pt) (l : List (List AV)), vs = [.slice a l.length n] ∧ SlAt h a (l.length * n) l.flatten ∧ ∀ r ∈ l, r.length = n ∧ A h r
theorem slAt_lt {h : AH} {p : Pt} {N : Nat} {l : List AV} (hk : ∀ b, h.next ≤ b → h.get b = none) (hs : h.rd p N = some l) : p.b < h.next := by
  refine Nat.lt_of_not_le fun hle => ?_
  unfold AH.rd at hs
  rw [hk _ hle] at hs
  cases hs
theorem mono_row {n : Nat} {A : AH → List AV → Prop} (hm : Mono A) : Mono (ARow n A) := by
  rintro h h' vs he hk ⟨a, l, e, hs, hr⟩
  refine ⟨a, l, e, ?_, fun r hx => ⟨(hr r hx).1, hm _ _ _ he hk (hr r hx).2⟩⟩
  cases a with
  | none => exact hs
  | some p =>
    have hs : h.rd p _ = some _ := hs
    show h'.rd p _ = some _
    unfold AH.rd at hs ⊢
    rw [he.2 _ (slAt_lt hk (by unfold AH.rd; exact hs))]; exact hs
theorem add_block (a : Addr) (n : Nat) : (a.add n).block = a.block := by unfold Addr.add; split <;> rfl
theorem add_off (a : Addr) (n : Nat) : (a.add n).off = a.off + n := by
  unfold Addr.add; split
  · rename_i h; rw [h]; rfl
  · rfl
theorem add_spot {a : Addr} (h : a.spot = none) (n : Nat) : (a.add n).spot = none := by unfold Addr.add; split <;> first | exact h | rfl
theorem cells_at {a : Addr} {n : Nat} {cs : List Value} (hn : 0 < n) (h : W.cells? 0 a n = some cs) : a.spot = none ∧ cs.length = n ∧ ∃ arr t fr, W.heap[a.block]? = some (.cells arr t fr) ∧ ∀ i, i < n → arr[a.off + i]? = cs[i]? ∧ a.off + i < arr.size := by
  unfold World.cells? at h
  rw [if_pos (Nat.zero_le _)] at h
  have hl := mapM_some_length h
  have hg : ∀ i, i < n → W.cell? (a.add i) = cs[i]? := fun i hi => mapM_some_get h i i (by simp [hi])
  have hlen : cs.length = n := by simpa using hl
  have h0 : W.cell? a = cs[0]? := hg 0 hn
  unfold World.cell? at h0
  cases hW : W.heap[a.block]? with
  | none => rw [hW] at h0; rw [List.getElem?_eq_getElem (by omega)] at h0; cases h0
  | some o =>
    rw [hW] at h0
    cases o with
    | cells arr t fr =>
      have hs : a.spot = none := by
        cases hsp : a.spot with
        | none => rfl
        | some q =>
          simp only [hsp, Option.isSome_some, if_true] at h0
          rw [List.getElem?_eq_getElem (by omega)] at h0; cases h0
      refine ⟨hs, hlen, arr, t, fr, rfl, fun i hi => ?_⟩
      have h1 := hg i hi
      unfold World.cell? at h1
      rw [add_block, hW] at h1
      simp only [add_spot hs i, Option.isSome_none, add_off] at h1
      have h1 : arr[a.off + i]? = cs[i]? := by simpa using h1
      refine ⟨h1, ?_⟩
      rw [List.getElem?_eq_getElem (by omega)] at h1
      exact (Array.getElem?_eq_some_iff.1 h1).1
    | _ => rw [List.getElem?_eq_getElem (by omega)] at h0; cases h0
/-- Elements one behind the other. -/
theorem reads_many {e n : Nat} {A : AH → List AV → Prop} (hr : Reads enc P W e n A) (hm : Mono A) (css : List (List Value)) (hd : ∀ cs ∈ css, ∃ fuel x, DataW.trod enc P W 0 (fun _ => true) true fuel e cs = some x) :
    ∀ (m : Mp) (h : AH), Ro m h W → ∃ (m' : Mp) (h' : AH) (l : List (List AV)), Ro m' h' W ∧ m.le m' ∧ Exd h h' ∧ VsRel m' (List.flatten l) css.flatten ∧ List.length l = css.length ∧ (∀ r ∈ l, r.length = n ∧ (∀ v ∈ r, v.one = true) ∧ A h' r) := by
  induction css with
  | nil => exact fun m h r => ⟨m, h, [], r, Mp.le.refl m, Exd.refl h, .nil, rfl, by simp⟩
  | cons cs css ih =>
    intro m h r
    obtain ⟨fuel, x, hx⟩ := hd cs (by simp)
    obtain ⟨m1, h1, v1, r1, l1, e1, q1, n1, o1, a1⟩ := hr m h r fuel _ x hx
    obtain ⟨m2, h2, l, r2, l2, e2, q2, n2, a2⟩ := ih (fun c hc => hd c (by simp [hc])) m1 h1 r1
    refine ⟨m2, h2, v1 :: l, r2, l1.trans l2, e1.trans e2, ?_, by simp [n2], ?_⟩
    · rw [List.flatten_cons, List.flatten_cons]
      exact (q1.mono l2).append q2
    · intro rr hrr
      rcases List.mem_cons.1 hrr with rfl | hrr
      · exact ⟨n1, o1, hm _ _ _ e2 (fun b hb => (r1.sim.top b hb).1) a1⟩
      · exact a2 rr hrr
theorem flatten_get {α : Type} {n : Nat} : ∀ {l : List (List α)} (_ : ∀ r ∈ l, r.length = n) (i j : Nat), j < n → l.flatten[i * n + j]? = (l[i]?).bind (·[j]?)
  | [], _, i, j, _ => by simp
  | r :: l, h, 0, j, hj => by
    have hr := h r (by simp)
    rw [Nat.zero_mul, Nat.zero_add, List.flatten_cons, List.getElem?_append_left (by omega)]; rfl
  | r :: l, h, i + 1, j, hj => by
    have hr := h r (by simp)
    rw [List.flatten_cons, Nat.succ_mul, List.getElem?_append_right (by omega), show i * n + n + j - r.length = i * n + j by omega]
    rw [flatten_get (fun r hr => h r (by simp [hr])) i j hj]; rfl
theorem flatten_len {α : Type} {n : Nat} : ∀ {l : List (List α)} (_ : ∀ r ∈ l, r.length = n), l.flatten.length = l.length * n
  | [], _ => by simp
  | r :: l, h => by rw [List.flatten_cons, List.length_append, h r (by simp), flatten_len (fun r hr => h r (by simp [hr])), List.length_cons, Nat.succ_mul, Nat.add_comm]
theorem flatten_bound {α : Type} {n : Nat} {l : List (List α)} (h : ∀ r ∈ l, r.length = n) {k : Nat} {v : α} (e : l.flatten[k]? = some v) : 0 < n ∧ k / n < l.length ∧ k % n < n ∧ k = k / n * n + k % n := by
  have hk := (List.getElem?_eq_some_iff.1 e).1
  rw [flatten_len h] at hk
  have hn : 0 < n := Nat.pos_of_ne_zero fun h0 => by subst h0; omega
  refine ⟨hn, (Nat.div_lt_iff_lt_mul hn).2 hk, Nat.mod_lt _ hn, ?_⟩
  have := Nat.div_add_mod k n
  rw [Nat.mul_comm] at this; exact this.symm
theorem list_of_range {α : Type} {n : Nat} {Q : Nat → α → Prop} (h : ∀ i, i < n → ∃ x, Q i x) : ∃ l : List α, l.length = n ∧ ∀ i x, l[i]? = some x → Q i x := by
  induction n with
  | zero => exact ⟨[], rfl, fun i x e => by simp at e⟩
  | succ n ih =>
    obtain ⟨l, h1, h2⟩ := ih fun i hi => h i (by omega)
    obtain ⟨x, hx⟩ := h n (by omega)
    refine ⟨l ++ [x], by simp [h1], fun i y e => ?_⟩
    by_cases hi : i < n
    · rw [List.getElem?_append_left (by omega)] at e; exact h2 i y e
    · rw [List.getElem?_append_right (by omega)] at e
      have hi2 : i - l.length = 0 := by
        cases hq : i - l.length with
        | zero => rfl
        | succ q => rw [hq] at e; simp at e
      rw [hi2] at e
      have : i = n := by omega
      subst this
      cases e; exact hx
/-- A slice of what reads as A: 'some block' is wanted for a slice of no room. -/
theorem reads_slice {t e n : Nat} {A : AH → List AV → Prop} (ht : P.underlying t = some (.slice e)) (hc : P.cellsOf e = n) (hn : 0 < n) (hr : Reads enc P W e n A) (hm : Mono A)
    (some_block : ∃ (k : Nat) (arr : Array Value) (u : TypeId) (fr : Nat × Nat), W.heap[k]? = some (Obj.cells arr u fr)) : Reads enc P W t 1 (ARow n A) := by
  intro m h r fuel cs x hd
  rcases DataW.trod_slice ht hd with ⟨rfl, -⟩ | ⟨a, len, cap, elems, rest, nf, -, rfl, -, -, hl, -, hlen, hel, hsp, -⟩
  · exact ⟨m, h, [.slice none 0 n], r, Mp.le.refl m, Exd.refl h, .cons _ _ _ _ (.snil n) .nil, rfl, by simp [AV.one], none, [], rfl, ⟨by simp, rfl⟩, by simp⟩
  rw [hc] at hel hsp
  have all : ∀ i, i < cap → ∃ cs', W.cells? 0 (a.add (i * n)) n = some cs' ∧ ∃ x, DataW.trod enc P W 0 (fun _ => true) true nf e cs' = some x := by
    intro i hi
    by_cases hil : i < len
    · have h1 := hel i hil
      rw [List.getElem?_eq_getElem (by omega)] at h1
      obtain ⟨cs', h2, h3⟩ := Option.bind_eq_some_iff.1 h1
      exact ⟨cs', h2, _, h3⟩
    · obtain ⟨h1, h2⟩ := hsp rfl
      have h3 := h2 (i - len) (by omega)
      rw [show len + (i - len) = i by omega, List.getElem?_eq_getElem (by omega)] at h3
      obtain ⟨cs', h4, h5⟩ := Option.bind_eq_some_iff.1 h3
      exact ⟨cs', h4, _, h5⟩
  obtain ⟨css, hcl, hcs⟩ := list_of_range (n := cap) (Q := fun i cs' => W.cells? 0 (a.add (i * n)) n = some cs' ∧ ∃ x, DataW.trod enc P W 0 (fun _ => true) true nf e cs' = some x) all
  obtain ⟨m1, h1, l, r1, le1, e1, q1, n1, a1⟩ := reads_many hr hm (css.take len) (fun cs' hx => by
    obtain ⟨i, hi⟩ := List.getElem?_of_mem (List.mem_of_mem_take hx)
    exact ⟨nf, (hcs i cs' hi).2⟩) m h r
  have hlenl : l.length = len := by rw [n1, List.length_take]; omega
  have hone : ∀ v ∈ l.flatten, v.one = true := by
    intro v hv
    obtain ⟨rr, h2, h3⟩ := List.mem_flatten.1 hv
    exact (a1 rr h2).2.1 v h3
  -- the slot
  have slot : ∃ (s : Slot) (arr : Array Value) (u : TypeId) (fr : Nat × Nat), W.heap[s.cb]? = some (.cells arr u fr) ∧ s.co + s.room ≤ arr.size ∧ s.room = cap * n ∧ (cap = 0 ∨ a = s.addr 0) ∧ ∀ i j cs' v', css[i]? = some cs' → cs'[j]? = some v' → arr[s.co + (i * n + j)]? = some v' := by
    by_cases h0 : cap = 0
    · obtain ⟨k, arr, u, fr, hk⟩ := some_block
      refine ⟨⟨k, 0, 0⟩, arr, u, fr, hk, Nat.zero_le _, by rw [h0, Nat.zero_mul], .inl h0, fun i j cs' v' hi => ?_⟩
      have := (List.getElem?_eq_some_iff.1 hi).1
      omega
    · obtain ⟨cs0, hc0, -⟩ := all 0 (by omega)
      obtain ⟨hs, -, arr, u, fr, hW, -⟩ := cells_at hn hc0
      rw [add_block] at hW
      have hs : a.spot = none := by rw [Nat.zero_mul] at hs; exact hs
      have ha : ∀ i cs', css[i]? = some cs' → ∀ j, j < n → arr[a.off + i * n + j]? = cs'[j]? ∧ a.off + i * n + j < arr.size := by
        intro i cs' hi j hj
        obtain ⟨-, -, arr', u', fr', hW', hg⟩ := cells_at hn (hcs i cs' hi).1
        rw [add_block, hW] at hW'
        cases hW'
        have := hg j hj
        rw [add_off] at this
        exact this
      refine ⟨⟨a.block, a.off, cap * n⟩, arr, u, fr, hW, ?_, rfl, .inr (by cases a; simp only at hs; subst hs; rfl), fun i j cs' v' hi hj => ?_⟩
      · have hlast : css[cap - 1]? = some css[cap - 1] := List.getElem?_eq_getElem (by omega)
        have := (ha (cap - 1) _ hlast (n - 1) (by omega)).2
        have h2 : (cap - 1) * n + n = cap * n := by rw [← Nat.succ_mul]; congr 1; omega
        show a.off + cap * n ≤ arr.size
        omega
      · obtain ⟨-, hl', -⟩ := cells_at hn (hcs i cs' hi).1
        have hj' : j < n := by rw [← hl']; exact (List.getElem?_eq_some_iff.1 hj).1
        have := (ha i cs' hi j hj').1
        rw [← Nat.add_assoc, this]; exact hj
  obtain ⟨s, arr, u, ⟨lo, hi⟩, hW, hsz, hroom, hadr, hcell⟩ := slot
  have hrl : ∀ rr ∈ l, rr.length = n := fun rr hx => (a1 rr hx).1
  have hfl := flatten_len hrl
  have hle : len * n ≤ cap * n := Nat.mul_le_mul_right _ hl
  obtain ⟨r2, le2⟩ := r1.new (s := s) (c := l.flatten) hW hsz (by rw [hfl, hlenl, hroom]; exact hle) (fun k v hk => by
    refine ⟨hone v (List.mem_of_getElem? hk), ?_⟩
    obtain ⟨-, k1, k2, k3⟩ := flatten_bound hrl hk
    obtain ⟨v', hv', hrel⟩ := q1.get hk
    refine ⟨v', ?_, hrel⟩
    rw [k3] at hv'
    have hcn : ∀ c ∈ css.take len, c.length = n := by
      intro c hx
      obtain ⟨i, hi⟩ := List.getElem?_of_mem (List.mem_of_mem_take hx)
      exact (cells_at hn (hcs i c hi).1).2.1
    rw [flatten_get hcn _ _ k2] at hv'
    obtain ⟨cs', g1, g2⟩ := Option.bind_eq_some_iff.1 hv'
    have g1' : css[k / n]? = some cs' := by
      rw [List.getElem?_take] at g1
      split at g1
      · exact g1
      · cases g1
    rw [k3]
    exact hcell _ _ _ _ g1' g2)
  refine ⟨_, _, [.slice (some ⟨h1.next, 0⟩) l.length n], r2, le1.trans le2, e1.trans (Exd.new _ _), .cons _ _ _ _ ?_ .nil, rfl, by simp [AV.one], some ⟨h1.next, 0⟩, l, rfl, ?_, fun rr hx => ⟨(a1 rr hx).1, hm _ _ _ (Exd.new _ _) (fun b hb => (r1.sim.top b hb).1) (a1 rr hx).2.2⟩⟩
  · rw [hlenl]
    exact .slice ⟨h1.next, 0⟩ len n a cap s (by unfold Mp.put; rw [if_pos rfl]) hl (by rw [hroom]; show 0 + cap * n ≤ _; omega) hadr
  · show (h1.new _).rd ⟨h1.next, 0⟩ _ = _
    unfold AH.rd
    rw [AH.new_get, if_pos rfl]
    simp only
    rw [if_pos (by rw [hfl]; omega), List.drop_zero, ← hfl, List.take_length]

/-! ### The call -/
/-- What the arguments read as, one behind the other. -/
inductive AReads (enc : TypeId × Value → H) (P : Program) (W : World) : List TypeId → (AH → List AV → Prop) → Prop
  | nil : AReads enc P W [] (fun _ vs => vs = [])
  | agg {t n : Nat} {ts : List TypeId} {A B : AH → List AV → Prop} (hs : (∃ fs, P.underlying t = some (.struct fs)) ∨ ∃ k e, P.underlying t = some (.array k e)) (hr : Reads enc P W t n A) (hm : Mono A) (h : AReads enc P W ts B) :
      AReads enc P W (t :: ts) (fun h vs => ∃ l r, vs = .agg l :: r ∧ A h l ∧ B h r)
  | one {t : Nat} {ts : List TypeId} {A B : AH → List AV → Prop} (hs : (P.underlying t = some .bool ∨ P.underlying t = some .string ∨ (∃ k, P.underlying t = some (.int k)) ∨ ∃ e, P.underlying t = some (.slice e))) (hr : Reads enc P W t 1 A) (hm : Mono A) (h : AReads enc P W ts B) :
      AReads enc P W (t :: ts) (fun h vs => ∃ v r, vs = v :: r ∧ A h [v] ∧ B h r)
theorem AReads.mono {ts : List TypeId} {B : AH → List AV → Prop} (h : AReads enc P W ts B) : Mono B := by
  induction h with
  | nil => exact fun _ _ _ _ _ h => h
  | agg _ _ hm _ ih => exact fun h h' vs he hk ⟨l, r, e, ha, hb⟩ => ⟨l, r, e, hm _ _ _ he hk ha, ih _ _ _ he hk hb⟩
  | one _ _ hm _ ih => exact fun h h' vs he hk ⟨l, r, e, ha, hb⟩ => ⟨l, r, e, hm _ _ _ he hk ha, ih _ _ _ he hk hb⟩
theorem AReads.run {ts : List TypeId} {B : AH → List AV → Prop} (hA : AReads enc P W ts B) : ∀ {vs : List Value} {ds : List (DataW H)} {ps : List MemPlace}, DataW.TrodAll enc P W 0 (fun _ => true) true ts vs ds ps →
    (∀ (j : Nat) t v, ts[j]? = some t → vs[j]? = some v → ∃ b, Value.okWide P W .any b t v) → ∀ (m : Mp) (h : AH), Ro m h W → ∃ m' h' l, Ro m' h' W ∧ m.le m' ∧ Exd h h' ∧ VsRel m' l vs ∧ B h' l := by
  induction hA with
  | nil =>
    intro vs ds ps hd _ m h r
    cases vs with
    | nil => exact ⟨m, h, [], r, Mp.le.refl m, Exd.refl h, .nil, rfl⟩
    | cons v vs => cases ds <;> simp [DataW.TrodAll] at hd
  | @agg t n ts A B hs hr hm _ ih =>
    intro vs ds ps hd hok m h r
    cases vs with
    | nil => cases ds <;> simp [DataW.TrodAll] at hd
    | cons v vs =>
    cases ds with
    | nil => simp [DataW.TrodAll] at hd
    | cons d ds =>
    obtain ⟨p, q, ⟨fuel, h1⟩, h2, -⟩ := hd
    obtain ⟨b, hb⟩ := hok 0 t v rfl rfl
    obtain ⟨cs, rfl⟩ : ∃ cs, v = .agg cs := by
      unfold Value.okWide at hb
      rcases hs with ⟨fs, hs⟩ | ⟨k, e, hs⟩ <;> rw [hs] at hb <;> exact ⟨_, hb.choose_spec.1⟩
    obtain ⟨m1, g1, l1, r1, le1, e1, q1, -, -, a1⟩ := hr m h r fuel _ _ h1
    obtain ⟨m2, g2, l2, r2, le2, e2, q2, a2⟩ := ih h2 (fun j t v hj hv => hok (j + 1) t v hj hv) m1 g1 r1
    exact ⟨m2, g2, .agg l1 :: l2, r2, le1.trans le2, e1.trans e2, .cons _ _ _ _ (.agg _ _ (q1.mono le2)) q2, l1, l2, rfl, hm _ _ _ e2 (fun b hb => (r1.sim.top b hb).1) a1, a2⟩
  | @one t ts A B hs hr hm _ ih =>
    intro vs ds ps hd hok m h r
    cases vs with
    | nil => cases ds <;> simp [DataW.TrodAll] at hd
    | cons v vs =>
    cases ds with
    | nil => simp [DataW.TrodAll] at hd
    | cons d ds =>
    obtain ⟨p, q, ⟨fuel, h1⟩, h2, -⟩ := hd
    obtain ⟨b, hb⟩ := hok 0 t v rfl rfl
    have hv : v.cells.toList = [v] := by
      unfold Value.okWide at hb
      rcases hs with hs | hs | ⟨k, hs⟩ | ⟨e, hs⟩ <;> rw [hs] at hb <;> simp only [Cell.okWide, hs] at hb <;> unfold Cell.ok at hb <;> rw [hs] at hb <;> cases v <;> first | rfl | exact hb.elim
    rw [hv] at h1
    obtain ⟨m1, g1, l1, r1, le1, e1, q1, n1, -, a1⟩ := hr m h r fuel _ _ h1
    obtain ⟨m2, g2, l2, r2, le2, e2, q2, a2⟩ := ih h2 (fun j t v hj hv => hok (j + 1) t v hj hv) m1 g1 r1
    match l1, q1, n1, a1 with
    | [u], .cons _ _ _ _ q1 _, _, a1 => exact ⟨m2, g2, u :: l2, r2, le1.trans le2, e1.trans e2, .cons _ _ _ _ (q1.mono le2) q2, u, l2, rfl, hm _ _ _ e2 (fun b hb => (r1.sim.top b hb).1) a1, a2⟩
/-- From a call over a heap for reading alone to the kit's 'Calls'. -/
theorem ACall.calls {f : FuncId} {fn : Func} (hf : P.funcs[f]? = some fn) (hn : (fn.name == "runtime.NumGoroutine") = false) (hb : fn.body.isNone = false) {args : List AV} {h : AH} (hc : ACall P (.func (.func f) [] []) args h fun v _ => v = .bool true) {m : Mp} {args' : Array Value} (r : Ro m h W) (ha : VsRel m args args'.toList) :
    Calls P f args' W fun e W' => e = .returned (.bool true) ∧ Below W.heap.size W W' := by
  have h1 := hc m W (.func (.func f) #[] #[]) args'.toList r.sim (.func _ _ [] [] #[] #[] (.func f) .nil .nil) ha
  have hn' : ¬ fn.name = "runtime.NumGoroutine" := by simpa using hn
  have hb' : ¬ fn.body = none := fun e => by rw [e] at hb; cases hb
  have : (do let d ← Deferred.ofValue (.func (.func f) #[] #[]) args'.toList.toArray; invoke d.target d.args : Sem Next).run P W = .ok (.enter f args') W := by
    simp [Deferred.ofValue, invoke, callFunc, hf, hn', hb']
  rw [this] at h1
  have h1 : CallsIn Fence.wide 0 P f args' W _ := h1
  refine (callsIn_wide.1 h1).mono ?_
  rintro e W' ⟨v, rfl, m', h', u, s', st, hv, rfl⟩
  cases hv
  refine ⟨rfl, st.os, st.tape, st.out, st.size, fun k hk => st.keep k hk fun b o s hg hfx _ => ?_⟩
  rw [r.ro b o hg] at hfx; cases hfx
theorem Below.trodAll (hl : laidOutB P = true) {W' : World} (hb : Below W.heap.size W W') : ∀ {ts : List TypeId} {vs : List Value} {ds : List (DataW H)} {ps : List MemPlace}, (∀ t ∈ ts, P.readableRec t = true ∧ t < P.types.size) → DataW.TrodAll enc P W 0 (fun _ => true) true ts vs ds ps → (∀ x ∈ ps, x.block < W.heap.size) →
    DataW.TrodAll enc P W' 0 (fun b => decide (b < W.heap.size)) true ts vs ds ps
  | [], [], [], ps, _, h, _ => h
  | t :: ts, v :: vs, d :: ds, ps, ht, ⟨p, q, h1, h2, e⟩, hp => by
    subst e
    exact ⟨p, q, Below.trod hl (ht t (by simp)).1 (ht t (by simp)).2 h1 hb (fun x hx => hp x (by simp [hx])), Below.trodAll hl hb (fun u hu => ht u (by simp [hu])) h2 (fun x hx => hp x (by simp [hx])), rfl⟩
  | [], _ :: _, _, _, _, h, _ => h.elim
  | [], [], _ :: _, _, _, h, _ => h.elim
  | _ :: _, [], _, _, _, h, _ => h.elim
  | _ :: _, _ :: _, [], _, _, h, _ => h.elim
/-- A law's end: true, and nothing has turned. -/
theorem post_true (hl : laidOutB P = true) {fn : Func} {s : ChangeSpec} {apart fresh handsOn : Bool} {W' : World} {args : Array Value} {ds gs : List (DataW H)} {before : List MemPlace} {tb : TypeId}
    (hW : DataW.Whole enc P fn.params.toList s.vars apart W args.toList ds gs before) (hvars : s.vars = []) (hs : (s.fn H ds).results = [.lit (.bool true)] ∧ (s.fn H ds).args = ds ∧ (s.fn H ds).vars = [])
    (hres : fn.resultTypes = #[tb]) (htb : P.underlying tb = some .bool) (ht : ∀ t ∈ fn.params.toList, P.readableRec t = true ∧ t < P.types.size) (hb : Below W.heap.size W W') :
    s.post enc P fn apart fresh handsOn false W args (.bool true) W' := by
  have hlt := hW.lt
  have hW' := hW
  obtain ⟨p, q, hA, hV, rfl, -, -⟩ := hW
  rw [hvars] at hV
  have hgs : gs = [] ∧ q = [] := ChangeShapes.trodVars_none hV
  obtain ⟨rfl, rfl⟩ := hgs
  refine ⟨ds, [], p ++ [], [], p, [], hW', ?_, ?_, ?_, hb.frame _, fun h => by cases h⟩
  · rw [List.append_nil, hs.1, hres]
    exact ChangeShapes.trodAll_mk1 (shut_bool htb true)
  · rw [List.append_nil, hs.2.1]
    exact Below.trodAll hl hb ht hA (fun x hx => hlt x (by simp [hx]))
  · rw [List.append_nil, hs.2.2, hvars]; rfl
end Go.La
/- Layer A, rows: the shape of a type of plain data, found out of the program; what is of it reads so. -/
namespace Go.La
open Go Go.RowKit

variable {P : Program} {H : Type} {enc : TypeId × Value → H} {W : World}

/-- What a cell is: a number, a text, a bool, a row of elements of so many cells. -/
inductive Sh where
  | int (k : IntKind)
  | str
  | bool
  | row (e : List Sh)
mutual
def A1 : Sh → AH → AV → Prop
  | .int k, _, v => ∃ n, v = .int k n ∧ (Lit.int k n).wf = true
  | .str, _, v => ∃ s : Str, v = .str s
  | .bool, _, v => ∃ b, v = .bool b
  | .row e, h, v => ∃ (a : Option Pt) (l : List (List AV)), v = .slice a l.length e.length ∧ SlAt h a (l.length * e.length) l.flatten ∧ ∀ r ∈ l, r.length = e.length ∧ AL e h r
def AL : List Sh → AH → List AV → Prop
  | [], _, vs => vs = []
  | s :: r, h, vs => ∃ v w, vs = v :: w ∧ A1 s h v ∧ AL r h w
end
mutual
theorem mono_A1 : ∀ (s : Sh), Mono fun h vs => ∃ v, vs = [v] ∧ A1 s h v
  | .int k => fun h h' vs _ _ ⟨v, e, hv⟩ => ⟨v, e, hv⟩
  | .str => fun h h' vs _ _ ⟨v, e, hv⟩ => ⟨v, e, hv⟩
  | .bool => fun h h' vs _ _ ⟨v, e, hv⟩ => ⟨v, e, hv⟩
  | .row e => fun h h' vs he hk ⟨v, e1, a, l, e2, h1, h2⟩ => by
    obtain ⟨a', l', e3, h3, h4⟩ := mono_row (n := e.length) (mono_AL e) h h' vs he hk ⟨a, l, by rw [e1, e2], h1, h2⟩
    exact ⟨v, e1, a', l', by rw [e1] at e3; cases e3; rfl, h3, h4⟩
theorem mono_AL : ∀ (l : List Sh), Mono (AL l)
  | [] => fun _ _ _ _ _ h => h
  | s :: r => fun h h' vs he hk ⟨v, w, e, h1, h2⟩ => by
    obtain ⟨v', e', h1'⟩ := mono_A1 s h h' [v] he hk ⟨v, rfl, h1⟩
    cases e'
    exact ⟨v, w, e, h1', mono_AL r h h' w he hk h2⟩
end
theorem AL.append : ∀ {a b : List Sh} {h : AH} {v w : List AV}, AL a h v → AL b h w → AL (a ++ b) h (v ++ w)
  | [], _, _, v, _, h1, h2 => by
    have : v = [] := h1
    subst this; exact h2
  | s :: r, b, h, v, w, ⟨x, y, e, h1, h3⟩, h2 => by
    subst e
    exact ⟨x, y ++ w, rfl, h1, AL.append h3 h2⟩

def shapeFs (P : Program) (sh : TypeId → Option (List Sh)) : List Field → Nat → Option (List Sh)
  | [], _ => some []
  | f :: fs, o => if Nat.beq f.offset o then (sh f.type).bind fun l => if Nat.beq (P.cellsOf f.type) l.length then (shapeFs P sh fs (o + l.length)).map (l ++ ·) else none else none
def shapeN (l : List Sh) : Nat → List Sh
  | 0 => []
  | n + 1 => l ++ shapeN l n
def shapeOf (P : Program) : Nat → TypeId → Option (List Sh)
  | 0, _ => none
  | n + 1, t =>
    match P.underlying t with
    | some .bool => some [.bool]
    | some (.int k) => some [.int k]
    | some .string => some [.str]
    | some (.slice e) => (shapeOf P n e).bind fun l => if Nat.beq (P.cellsOf e) l.length && Nat.ble 1 l.length then some [.row l] else none
    | some (.struct fs) => (shapeFs P (shapeOf P n) fs.toList 0).bind fun l => if Nat.beq (P.cellsOf t) l.length then some l else none
    | some (.array k e) => (shapeOf P n e).bind fun l => if Nat.beq (P.cellsOf e) l.length && Nat.beq (P.cellsOf t) (k * l.length) then some (shapeN l k) else none
    | _ => none
theorem fields_shape {sh : TypeId → Option (List Sh)} (hs : ∀ t l, sh t = some l → Reads enc P W t l.length (AL l)) : ∀ (fs : List Field) (o : Nat) (l : List Sh), shapeFs P sh fs o = some l →
    ∃ B, FReads enc P W o fs (o + l.length) B ∧ ∀ h vs, B h vs → AL l h vs
  | [], o, l, h => by cases h; exact ⟨_, .nil o, fun _ _ h => h⟩
  | f :: fs, o, l, h => by
    simp only [shapeFs] at h
    split at h
    · rename_i ho
      obtain ⟨a, h1, h2⟩ := Option.bind_eq_some_iff.1 h
      split at h2
      · rename_i hc
        obtain ⟨b, h3, rfl⟩ := Option.map_eq_some_iff.1 h2
        obtain ⟨B, h4, h5⟩ := fields_shape hs fs _ _ h3
        rw [List.length_append, ← Nat.add_assoc]
        refine ⟨_, .cons (Nat.eq_of_beq_eq_true ho) (Nat.eq_of_beq_eq_true hc) (hs _ _ h1) (mono_AL a) h4, fun h vs ⟨x, y, e, hx, hy⟩ => ?_⟩
        rw [e]; exact hx.append (h5 _ _ hy)
      · cases h2
    · cases h
theorem shapeN_len (l : List Sh) : ∀ n, (shapeN l n).length = n * l.length
  | 0 => by simp [shapeN]
  | n + 1 => by rw [shapeN, List.length_append, shapeN_len l n, Nat.succ_mul, Nat.add_comm]
theorem AL.flatten {l : List Sh} {h : AH} : ∀ {rs : List (List AV)}, (∀ r ∈ rs, AL l h r) → AL (shapeN l rs.length) h rs.flatten
  | [], _ => rfl
  | r :: rs, hr => (hr r (by simp)).append (AL.flatten fun x hx => hr x (by simp [hx]))
theorem chunks {α : Type} (n : Nat) : ∀ (k : Nat) (cs : List α), cs.length = k * n → ((List.range k).map fun i => (cs.drop (i * n)).take n).flatten = cs
  | 0, cs, h => by
    have : cs = [] := List.eq_nil_of_length_eq_zero (by omega)
    subst this; rfl
  | k + 1, cs, h => by
    rw [List.range_succ_eq_map, List.map_cons, List.map_map, List.flatten_cons]
    rw [Nat.zero_mul, List.drop_zero]
    have ih := chunks n k (cs.drop n) (by rw [List.length_drop, h, Nat.succ_mul]; omega)
    have e : (List.map ((fun i => List.take n (List.drop (i * n) cs)) ∘ Nat.succ) (List.range k)) = (List.range k).map fun i => ((cs.drop n).drop (i * n)).take n := by
      refine List.map_congr_left fun i _ => ?_
      simp only [Function.comp, List.drop_drop, Nat.succ_mul]
      rw [Nat.add_comm]
    rw [e, ih, List.take_append_drop]
theorem reads_shape (some_block : ∃ (k : Nat) (arr : Array Value) (u : TypeId) (fr : Nat × Nat), W.heap[k]? = some (Obj.cells arr u fr)) : ∀ (n : Nat) (t : TypeId) (l : List Sh), shapeOf P n t = some l → Reads enc P W t l.length (AL l)
  | 0, _, _, h => by cases h
  | n + 1, t, l, h => by
    have ih := fun t l h => reads_shape some_block n t l h
    simp only [shapeOf] at h
    split at h
    · rename_i ht
      cases h
      intro m h r fuel cs x hd
      obtain ⟨m', h', vs, q1, q2, q3, q4, q5, q6, b, e⟩ := reads_bool ht m h r fuel cs x hd
      exact ⟨m', h', vs, q1, q2, q3, q4, q5, q6, _, [], e, ⟨b, rfl⟩, rfl⟩
    · rename_i k ht
      cases h
      intro m h r fuel cs x hd
      obtain ⟨m', h', vs, q1, q2, q3, q4, q5, q6, b, e, hw⟩ := reads_int ht m h r fuel cs x hd
      exact ⟨m', h', vs, q1, q2, q3, q4, q5, q6, _, [], e, ⟨b, rfl, hw⟩, rfl⟩
    · rename_i ht
      cases h
      intro m h r fuel cs x hd
      obtain ⟨m', h', vs, q1, q2, q3, q4, q5, q6, b, e⟩ := reads_str ht m h r fuel cs x hd
      exact ⟨m', h', vs, q1, q2, q3, q4, q5, q6, _, [], e, ⟨b, rfl⟩, rfl⟩
    · rename_i e ht
      obtain ⟨a, h1, h2⟩ := Option.bind_eq_some_iff.1 h
      split at h2
      · rename_i hc
        rw [Bool.and_eq_true] at hc
        cases h2
        intro m h r fuel cs x hd
        obtain ⟨m', h', vs, q1, q2, q3, q4, q5, q6, ad, rows, e1, e2, e3⟩ := reads_slice ht (Nat.eq_of_beq_eq_true hc.1) (Nat.le_of_ble_eq_true hc.2) (ih _ _ h1) (mono_AL a) some_block m h r fuel cs x hd
        exact ⟨m', h', vs, q1, q2, q3, q4, q5, q6, _, [], e1, ⟨ad, rows, rfl, e2, e3⟩, rfl⟩
      · cases h2
    · rename_i fs ht
      obtain ⟨a, h1, h2⟩ := Option.bind_eq_some_iff.1 h
      split at h2
      · rename_i hc
        cases h2
        obtain ⟨B, h3, h4⟩ := fields_shape ih _ _ _ h1
        rw [Nat.zero_add] at h3
        intro m h r fuel cs x hd
        obtain ⟨m', h', vs, q1, q2, q3, q4, q5, q6, q7⟩ := reads_struct ht (Nat.eq_of_beq_eq_true hc) h3 m h r fuel cs x hd
        exact ⟨m', h', vs, q1, q2, q3, q4, q5, q6, h4 _ _ q7⟩
      · cases h2
    · rename_i k e ht
      obtain ⟨a, h1, h2⟩ := Option.bind_eq_some_iff.1 h
      split at h2
      · rename_i hc
        rw [Bool.and_eq_true] at hc
        cases h2
        intro m h r fuel cs x hd
        obtain ⟨xs, nf, -, -, hl, hn, hel⟩ := DataW.trod_array ht hd
        have hce := Nat.eq_of_beq_eq_true hc.1
        have hct := Nat.eq_of_beq_eq_true hc.2
        obtain ⟨m', h', rs, q1, q2, q3, q4, q5, q6⟩ := reads_many (ih _ _ h1) (mono_AL a) ((List.range k).map fun i => (cs.drop (i * a.length)).take a.length) (fun c hx => by
          obtain ⟨i, hi, rfl⟩ := List.mem_map.1 hx
          have hi := List.mem_range.1 hi
          have := hel i (by omega)
          rw [hce] at this
          exact ⟨nf, xs[i]'(by omega), by rw [this, List.getElem?_eq_getElem (by omega)]⟩) m h r
        rw [chunks a.length k cs (by rw [hl, hct])] at q4
        rw [List.length_map, List.length_range] at q5
        refine ⟨m', h', rs.flatten, q1, q2, q3, q4, ?_, ?_, ?_⟩
        · rw [flatten_len fun rr hx => (q6 rr hx).1, q5, shapeN_len]
        · intro v hv
          obtain ⟨rr, h3, h4⟩ := List.mem_flatten.1 hv
          exact (q6 rr h3).2.1 v h4
        · rw [← q5]; exact AL.flatten fun rr hx => (q6 rr hx).2.2
      · cases h2
    · cases h
end Go.La
/- Layer A, rows: a law's row, from the call in the abstract. -/
namespace Go.La
open Go Go.RowKit

variable {P : Program} {H : Type} {enc : TypeId × Value → H} {W : World}

inductive PS where
  | agg (l : List Sh)
  | one (s : Sh)
def AP : List PS → AH → List AV → Prop
  | [], _, vs => vs = []
  | .agg l :: r, h, vs => ∃ x w, vs = .agg x :: w ∧ AL l h x ∧ AP r h w
  | .one s :: r, h, vs => ∃ v w, vs = v :: w ∧ A1 s h v ∧ AP r h w
def paramOf (P : Program) (n : Nat) (t : TypeId) : Option PS :=
  match P.underlying t with
  | some (.struct _) => (shapeOf P n t).map .agg
  | some (.array _ _) => (shapeOf P n t).map .agg
  | some .bool => some (.one .bool)
  | some .string => some (.one .str)
  | some (.int k) => some (.one (.int k))
  | some (.slice _) => (shapeOf P n t).bind fun l => match l with | [s] => some (.one s) | _ => none
  | _ => none
def paramsOf (P : Program) (n : Nat) : List TypeId → Option (List PS)
  | [] => some []
  | t :: ts => (paramOf P n t).bind fun a => (paramsOf P n ts).map (a :: ·)
theorem areads_params (some_block : ∃ (k : Nat) (arr : Array Value) (u : TypeId) (fr : Nat × Nat), W.heap[k]? = some (Obj.cells arr u fr)) {n : Nat} : ∀ {ts : List TypeId} {ps : List PS}, paramsOf P n ts = some ps →
    ∃ B, AReads enc P W ts B ∧ ∀ h vs, B h vs → AP ps h vs
  | [], ps, h => by cases h; exact ⟨_, .nil, fun _ _ h => h⟩
  | t :: ts, ps, h => by
    obtain ⟨a, h1, h2⟩ := Option.bind_eq_some_iff.1 h
    obtain ⟨b, h3, rfl⟩ := Option.map_eq_some_iff.1 h2
    obtain ⟨B, h4, h5⟩ := areads_params some_block h3
    have one : ∀ s, shapeOf P (n + 1) t = some [s] → (P.underlying t = some .bool ∨ P.underlying t = some .string ∨ (∃ k, P.underlying t = some (.int k)) ∨ ∃ e, P.underlying t = some (.slice e)) → ∃ B', AReads enc P W (t :: ts) B' ∧ ∀ h vs, B' h vs → AP (.one s :: b) h vs := by
      intro s hs ht
      refine ⟨_, .one ht (reads_shape some_block _ _ _ hs) (mono_AL _) h4, fun h vs ⟨v, r, e, ⟨v', w', e2, h6, e3⟩, h7⟩ => ?_⟩
      have : w' = [] := e3
      subst this
      cases e2
      exact ⟨v, r, e, h6, h5 _ _ h7⟩
    have agg : ∀ l, shapeOf P n t = some l → ((∃ fs, P.underlying t = some (.struct fs)) ∨ ∃ k e, P.underlying t = some (.array k e)) → ∃ B', AReads enc P W (t :: ts) B' ∧ ∀ h vs, B' h vs → AP (.agg l :: b) h vs := by
      intro l hs ht
      exact ⟨_, .agg ht (reads_shape some_block _ _ _ hs) (mono_AL _) h4, fun h vs ⟨v, r, e, h6, h7⟩ => ⟨v, r, e, h6, h5 _ _ h7⟩⟩
    unfold paramOf at h1
    split at h1
    · rename_i fs ht
      obtain ⟨l, h6, rfl⟩ := Option.map_eq_some_iff.1 h1
      exact agg l h6 (.inl ⟨fs, ht⟩)
    · rename_i k e ht
      obtain ⟨l, h6, rfl⟩ := Option.map_eq_some_iff.1 h1
      exact agg l h6 (.inr ⟨k, e, ht⟩)
    · rename_i ht; cases h1; exact one _ (by simp only [shapeOf, ht]) (.inl ht)
    · rename_i ht; cases h1; exact one _ (by simp only [shapeOf, ht]) (.inr (.inl ht))
    · rename_i k ht; cases h1; exact one _ (by simp only [shapeOf, ht]) (.inr (.inr (.inl ⟨k, ht⟩)))
    · rename_i e ht
      obtain ⟨l, h6, h7⟩ := Option.bind_eq_some_iff.1 h1
      split at h7
      · cases h7
        refine ⟨_, .one (.inr (.inr (.inr ⟨e, ht⟩))) (reads_shape some_block _ _ _ h6) (mono_AL _) h4, fun h vs ⟨v, r, e, ⟨v', w', e2, h6, e3⟩, h7⟩ => ?_⟩
        have : w' = [] := e3
        subst this
        cases e2
        exact ⟨v, r, e, h6, h5 _ _ h7⟩
      · cases h7
    · cases h1
theorem laid_block {laid : List (String × DataW Unit)} (hl : (laid.filter fun x => x.2.handleName?.isSome) = []) (hne : laid ≠ []) (h : laidMetH P laid W) : ∃ (k : Nat) (arr : Array Value) (u : TypeId) (fr : Nat × Nat), W.heap[k]? = some (Obj.cells arr u fr) := by
  unfold laidMetH at h
  rw [hl] at h
  obtain ⟨x, r, rfl⟩ := List.exists_cons_of_ne_nil hne
  obtain ⟨ps, h1, -⟩ := h
  obtain ⟨g, t, cs, f, p, q, hg, ht, hv, hd, -⟩ := h1
  unfold World.var? at hv
  rw [hg] at hv
  simp only [Option.bind_some] at hv
  split at hv
  · rename_i c u fr e; exact ⟨_, _, _, _, e⟩
  · cases hv
theorem trodAll_len : ∀ {ts : List TypeId} {vs : List Value} {ds : List (DataW H)} {ps : List MemPlace} {base : Nat} {spare : Nat → Bool} {held : Bool}, DataW.TrodAll enc P W base spare held ts vs ds ps → ds.length = ts.length
  | [], [], [], _, _, _, _, _ => rfl
  | _ :: ts, _ :: vs, _ :: ds, _, _, _, _, ⟨_, _, _, h, _⟩ => by rw [List.length_cons, List.length_cons, trodAll_len h]
  | [], _ :: _, _, _, _, _, _, h => h.elim
  | [], [], _ :: _, _, _, _, _, h => h.elim
  | _ :: _, [], _, _, _, _, _, h => h.elim
  | _ :: _, _ :: _, [], _, _, _, _, h => h.elim
/-- A law's row: from its call in the abstract. -/
theorem law_lifted {C : Checked} {os : Os} {f : FuncId} {fn : Func} {s : ChangeSpec} {laid : List (String × DataW Unit)} {ps : List PS} {n : Nat} {tb : TypeId}
    (own : ownKnob C.prog.godebug = none) (started : os.Started) (noInit : C.prog.inits.idxOf? f = none) (hfn : C.prog.funcs[f]? = some fn)
    (witness : ∃ (w : World) (tape : Tape) (i : Input), w.os = os ∧ (w.forCall tape i).Shaped C.prog ∧ i.vars = [] ∧ Input.okWide C.prog (w.forCall tape i) .any w.heap.size f i ∧
      ((s.pre enc C.prog fn [] false (w.forCall tape i).memory i.args ∧ laidMetH C.prog laid (w.forCall tape i).memory) ∧ sizedMet enc C.prog fn (OpenSpec.ofChange s) false (w.forCall tape i).memory i.args) ∧ ({} : Assume).holds C.prog (lone (Frame.enter C.prog f i.args .normal) [] (w.forCall tape i)))
    (hnh : (laid.filter fun x => x.2.handleName?.isSome) = []) (hne : laid ≠ [])
    (hps : paramsOf C.prog n fn.params.toList = some ps) (hl : laidOutB C.prog = true) (ht : ∀ t ∈ fn.params.toList, C.prog.readableRec t = true ∧ t < C.prog.types.size)
    (hvars : s.vars = []) (hs : ∀ ds : List (DataW H), ds.length = fn.params.toList.length → (s.fn H ds).results = [.lit (.bool true)] ∧ (s.fn H ds).args = ds ∧ (s.fn H ds).vars = [])
    (hres : fn.resultTypes = #[tb]) (htb : C.prog.underlying tb = some .bool) (hname : (fn.name == "runtime.NumGoroutine") = false) (hbody : fn.body.isNone = false)
    (hcall : ∀ (h : AH) (vs : List AV), (∀ b, h.next ≤ b → h.get b = none) → AP ps h vs → ACall C.prog (.func (.func f) [] []) vs h fun v _ => v = .bool true) :
    ReturnsInHanded {} C os f .any (fun w args => (s.pre enc C.prog fn [] false w args ∧ laidMetH C.prog laid w) ∧ sizedMet enc C.prog fn (OpenSpec.ofChange s) false w args) (s.post enc C.prog fn false true false false) := by
  refine returnsInHanded_of_change_and (X := fun w _ => laidMetH C.prog laid w) (fun _ _ _ hh h => h.of_heap hh) own started noInit hfn witness ?_
  intro W base args ds gs before hval hW _ _ hL _
  obtain ⟨B, hB, hBA⟩ := areads_params (enc := enc) (laid_block hnh hne hL) hps
  have hW' := hW
  obtain ⟨p, q, hA, hV, rfl, -, -⟩ := hW
  obtain ⟨m, h, l, r, -, -, hq, hb⟩ := hB.run hA (fun j t v hj hv => ⟨base, hval j t v (by rw [← Array.getElem?_toList]; exact hj) (by rw [← Array.getElem?_toList]; exact hv)⟩) Mp.none AH.none (Ro.none W)
  have hc := hcall h l (fun b hb => (r.sim.top b hb).1) (hBA _ _ hb)
  refine (hc.calls hfn hname hbody r hq).mono fun e W' ⟨he, hbw⟩ => ⟨_, he, post_true hl hW' hvars (hs ds (trodAll_len hA)) hres htb ht hbw⟩
end Go.La
/- Law 36: the calls of its statements at whatever is of their types. -/
namespace Go.Lm
open Go Go.La Go.RowKit Go.Proofs.Tryz

theorem wf_i64 {n : Int} (h : (Lit.int .i64 n).wf = true) : I64 n := by
  simp only [Lit.wf, IntKind.min, IntKind.max, IntKind.signed, IntKind.bits, Bool.and_eq_true, decide_eq_true_eq, if_true] at h
  unfold I64; omega
def kSp : List Sh := [.int .i64, .int .i64, .int .i64, .int .i64, .str, .str, .int .i64, .int .i64, .bool]
theorem al_sp {h : AH} {r : List AV} (hr : AL kSp h r) : ∃ x : Sp, r = sc x ∧ NumS x := by
  obtain ⟨_, _, rfl, ⟨n1, rfl, w1⟩, _, _, rfl, ⟨n2, rfl, w2⟩, _, _, rfl, ⟨n3, rfl, w3⟩, _, _, rfl, ⟨n4, rfl, w4⟩, _, _, rfl, ⟨s1, rfl⟩, _, _, rfl, ⟨s2, rfl⟩, _, _, rfl, ⟨n5, rfl, w5⟩, _, _, rfl, ⟨n6, rfl, w6⟩, _, _, rfl, ⟨b, rfl⟩, hnil⟩ := hr
  have hnil : _ = ([] : List AV) := hnil
  subst hnil
  exact ⟨⟨n1, n2, n3, n4, s1, s2, n5, n6, b⟩, rfl, wf_i64 w1, wf_i64 w2, wf_i64 w3, wf_i64 w4, wf_i64 w5, wf_i64 w6⟩
theorem rows_sp {h : AH} : ∀ {l : List (List AV)}, (∀ r ∈ l, AL kSp h r) → ∃ L : List Sp, l = L.map sc ∧ ∀ x ∈ L, NumS x
  | [], _ => ⟨[], rfl, by simp⟩
  | r :: l, hr => by
    obtain ⟨x, rfl, hx⟩ := al_sp (hr r (by simp))
    obtain ⟨L, rfl, hL⟩ := rows_sp (l := l) fun r h => hr r (by simp [h])
    exact ⟨x :: L, rfl, fun y hy => by rcases List.mem_cons.1 hy with rfl | hy; exact hx; exact hL y hy⟩
def psChange : List PS := [.agg [.int .i64, .row kSp, .int .i64], .one .str]
theorem open_change {h : AH} {vs : List AV} (hap : AP psChange h vs) : ∃ (k w : Int) (a : Option Pt) (l : List Sp) (s : Str), vs = [.agg (cc k a l.length w), .str s] ∧ SL h a l ∧ (∀ x ∈ l, NumS x) ∧ I64 k ∧ I64 w := by
  obtain ⟨_, _, rfl, ⟨_, _, rfl, ⟨k, rfl, hk⟩, _, _, rfl, ⟨a, rows, rfl, hs, hr⟩, _, _, rfl, ⟨w, rfl, hw⟩, hnil⟩, _, _, rfl, ⟨s, rfl⟩, hnil2⟩ := hap
  have hnil : _ = ([] : List AV) := hnil
  subst hnil
  have hnil2 : _ = ([] : List AV) := hnil2
  subst hnil2
  obtain ⟨L, rfl, hL⟩ := rows_sp fun r hx => (hr r hx).2
  refine ⟨k, w, a, L, s, by rw [List.length_map]; rfl, ?_, hL, wf_i64 hk, wf_i64 hw⟩
  rw [List.length_map] at hs
  have e : (L.map sc).flatten = L.flatMap sc := by rw [List.flatMap_def]
  rw [e] at hs
  exact hs
theorem true3 (h : AH) (vs : List AV) (_ : ∀ b, h.next ≤ b → h.get b = none) (hap : AP psChange h vs) : ACall prog (.func (.func 3) [] []) vs h fun v _ => v = .bool true := by
  obtain ⟨k, w, a, l, s, rfl, hs, hn, hk, hw⟩ := open_change hap
  exact c3 hs hn hk hw rfl
theorem true4 (h : AH) (vs : List AV) (_ : ∀ b, h.next ≤ b → h.get b = none) (hap : AP psChange h vs) : ACall prog (.func (.func 4) [] []) vs h fun v _ => v = .bool true := by
  obtain ⟨k, w, a, l, s, rfl, hs, hn, hk, hw⟩ := open_change hap
  exact c4 hs hn hk hw rfl
end Go.Lm
/- Law 36: what both rows have in common. -/
namespace Go.Proofs.YtjfodgdlgohioaaGreatDoor
open Go Go.La Go.RowKit

set_option maxRecDepth 100000
theorem own : ownKnob Tryz.prog.godebug = none := by kernel_rfl
theorem laidOut : laidOutB Tryz.prog = true := by kernel_rfl
theorem func3 : Tryz.prog.funcs[3]? = some Tryz.f3 := by kernel_rfl
theorem func4 : Tryz.prog.funcs[4]? = some Tryz.f4 := by kernel_rfl
theorem bool_of {P : Program} {t : TypeId} (h : (match P.underlying t with | some .bool => true | _ => false) = true) : P.underlying t = some .bool := by
  split at h
  · assumption
  · cases h
theorem params_of {P : Program} {l : List TypeId} (h : (l.all fun t => P.readableRec t && Nat.blt t P.types.size) = true) : ∀ t ∈ l, P.readableRec t = true ∧ t < P.types.size := by
  intro t ht
  have := List.all_eq_true.1 h t ht
  rw [Bool.and_eq_true] at this
  exact ⟨this.1, Nat.le_of_ble_eq_true this.2⟩
theorem two_args {H : Type} {ds : List (DataW H)} (h : ds.length = 2) : ∃ a b, ds = [a, b] := by
  match ds, h with
  | [a, b], _ => exact ⟨a, b, rfl⟩
theorem andI {a b : Bool} (h : a = true) (k : b = true) : (a && b) = true := by rw [h, k]; rfl
theorem nogo : (Tryz.prog.funcs.toList.any Func.goes) = false := by kernel_rfl
theorem goes_no {P : Program} (h : (P.funcs.toList.any Func.goes) = false) (f : FuncId) : P.goes f = false := by
  have ha : ∀ fn ∈ P.funcs.toList, fn.goes = false := fun fn hf => by
    cases hg : fn.goes with
    | false => rfl
    | true => rw [List.any_eq_true.2 ⟨fn, hf, hg⟩] at h; cases h
  unfold Program.goes
  have h1 : ((P.closure f).any fun g => (P.funcs[g]?).any Func.goes) = false := by
    rw [List.any_eq_false]
    intro g _
    cases e : P.funcs[g]? with
    | none => simp
    | some fn =>
      have : fn ∈ P.funcs.toList := by rw [Array.mem_toList_iff]; exact Array.mem_of_getElem? e
      simp [ha fn this]
  have h2 : P.funcs.any Func.goes = false := by rw [← Array.any_toList]; exact h
  rw [h1, h2]; simp
theorem goesBy_no {P : Program} (h : (P.funcs.toList.any Func.goes) = false) {c : OpenClaim} (hs : c.start = .entering) : false = c.goesBy P := by
  unfold OpenClaim.goesBy Program.goesAt Program.goesFrom
  rw [hs]
  cases P.funcNamed c.func with
  | none => rfl
  | some f => simp [goes_no h f]
theorem all_k2 : laidOutB Tryz.prog = true := by kernel_rfl
theorem all_k3 : mapsRowed Tryz.prog = true := by kernel_rfl
theorem all_k7 : (Tryz.prog.stops == []) = true := by kernel_rfl
theorem all_k9 : (Tryz.prog.stopKnobs == []) = true := by kernel_rfl
theorem all_k25 : Tryz.prog.stopsHeard = true := by kernel_rfl
theorem all_k26 : Tryz.prog.mayEnter = true := by kernel_rfl
end Go.Proofs.YtjfodgdlgohioaaGreatDoor
/- Law 36: ReviveBack holds: whatever the change and the text, the call hands back true and leaves its arguments as they were. The card ties the library's tables that the row lists. -/
namespace Go.Proofs.YtjfodgdlgohioaaGreatDoor
open Go Go.La Go.RowKit

set_option maxRecDepth 100000
theorem cl4 : Tryz.prog.closure 4 = [4, 5, 13, 6, 14, 7, 23, 62, 121, 61, 120, 178, 251, 24, 63, 122, 179, 123, 124, 180, 64, 125, 26, 66, 126, 25, 65, 9, 29, 30, 71, 31, 128, 129, 72, 130, 33, 32, 73, 131, 34, 74, 132, 35, 15, 17, 16, 40, 41, 81, 87, 145, 206, 276, 356, 421, 478, 479, 275, 520, 521, 480, 481, 522, 523, 545, 546, 80, 110, 170, 171, 172, 248, 335, 82, 138, 107, 168, 247, 334, 401, 456, 139, 42, 83, 140, 183, 185, 184, 187, 186, 188, 253, 338, 337, 190, 254, 189, 192, 191, 194, 255, 193, 195, 198, 260, 346, 104, 101, 161, 221, 159, 118, 279, 359, 422, 355, 423, 102, 162, 220, 285, 374, 286, 287, 288, 259, 60, 117, 119, 197, 257, 340, 411, 98, 158, 217, 216, 218, 412, 413, 465, 96, 154, 466, 341, 164, 233, 312, 234, 313, 387, 439, 496, 388, 440, 497, 527, 528, 547, 561, 548, 549, 550, 441, 498, 235, 314, 414, 389, 467, 508, 530, 551, 552, 342, 238, 319, 323, 394, 324, 325, 395, 396, 449, 504, 450, 451, 318, 390, 442, 499, 529, 500, 501, 502, 415, 468, 509, 510, 469, 511, 531, 553, 560, 564, 568, 565, 566, 567, 569, 317, 512, 443, 343, 166, 239, 326, 97, 155, 156, 157, 215, 290, 332, 302, 327, 397, 241, 240, 328, 296, 377, 299, 348, 378, 432, 433, 434, 281, 304, 228, 225, 297, 379, 435, 429, 484, 524, 485, 486, 487, 298, 380, 436, 437, 492, 526, 493, 494, 495, 242, 329, 398, 399, 452, 505, 453, 454, 455, 226, 292, 375, 300, 381, 243, 330, 244, 416, 470, 205, 274, 513, 532, 533, 554, 534, 351, 352, 535, 555, 556, 562, 536, 537, 538, 539, 471, 473, 427, 472, 344, 167, 245, 331, 246, 333, 400, 417, 474, 227, 301, 303, 514, 540, 475, 476, 515, 541, 557, 558, 563, 542, 559, 543, 256, 339, 402, 457, 403, 404, 458, 506, 459, 405, 460, 406, 407, 461, 408, 409, 462, 410, 463, 507, 464, 141, 84, 142, 196, 177, 258, 345, 199, 200, 261, 105, 201, 262, 213, 284, 202, 263, 283, 372, 373, 428, 483, 477, 516, 544, 517, 518, 519, 347, 418, 43, 86, 85, 143, 203, 264, 349, 419, 144, 204, 265, 271, 266, 350, 267, 268, 353, 354, 420, 269, 270, 272, 273, 88, 146, 207, 89, 91, 90, 147, 45, 46, 92, 148, 208, 277, 357, 358, 209, 278, 149, 210, 280, 360, 361, 362, 211, 282, 363, 369, 364, 424, 365, 366, 425, 426, 482, 367, 368, 370, 371, 212, 100, 160, 219, 47, 48, 93, 150, 94, 151, 152, 214, 114, 176, 250, 95, 153, 49, 50, 44, 21, 58, 116, 59, 51, 99, 103, 163, 222, 289, 223, 291, 224, 293, 229, 305, 310, 384, 431, 488, 525, 489, 490, 491, 294, 376, 430, 295, 230, 306, 382, 438, 307, 308, 383, 309, 231, 232, 311, 385, 386, 165, 236, 315, 237, 316, 321, 320, 391, 444, 322, 392, 446, 445, 447, 393, 448, 503, 53, 52, 18, 54, 55, 106, 56, 108, 109, 169, 57, 111, 173, 112, 113, 174, 175, 249, 336, 115, 11, 20, 19, 22, 12] := by kernel_rfl
theorem reviveBack_k1 : Rows.reviveBackRow.wf (OpenSpec.ofChange Rows.reviveBackSpec) = true := by kernel_rfl
theorem reviveBack_k4 : Tryz.f4.params.all (Tryz.prog.readableRec ·) = true := by kernel_rfl
theorem reviveBack_k5 : namedTie Tryz.prog Rows.reviveBackRow.named Rows.reviveBackSpec.vars = true := by kernel_rfl
theorem reviveBack_k6 : (Rows.reviveBackRow.stops == []) = true := by kernel_rfl
theorem reviveBack_k8 : (Rows.reviveBackRow.knobs == []) = true := by kernel_rfl
theorem reviveBack_k10 : (Rows.reviveBackRow.inPlace == Tryz.prog.inPlace 4) = true := by unfold Program.inPlace; rw [cl4]; kernel_rfl
theorem reviveBack_unf : Tryz.prog.unfollowed 4 = true := by unfold Program.unfollowed; rw [cl4]; kernel_rfl
theorem reviveBack_k11 : (Rows.reviveBackRow.unfollowed == Tryz.prog.unfollowed 4) = true := by rw [reviveBack_unf]; rfl
theorem reviveBack_k12 : (Rows.reviveBackRow.recurses == Tryz.prog.recurses 4) = true := by unfold Program.recurses; rw [reviveBack_unf]; rfl
theorem reviveBack_k13 : (Rows.reviveBackRow.named == Tryz.prog.varsNamed 4) = true := by unfold Program.varsNamed; rw [cl4]; kernel_rfl
theorem reviveBack_k14 : (Rows.reviveBackRow.maps == (Tryz.f4.params.toList ++ Rows.reviveBackSpec.plain.varTypes Tryz.prog).any (Tryz.prog.mapsRec ·)) = true := by kernel_rfl
theorem reviveBack_k15 : (Rows.reviveBackRow.ifaces == (Tryz.f4.params.toList ++ Rows.reviveBackSpec.plain.varTypes Tryz.prog).any (Tryz.prog.ifacesRec ·)) = true := by kernel_rfl
theorem reviveBack_k16 : (Rows.reviveBackRow.mapsOut == Tryz.prog.mapsAmong Tryz.f4.resultTypes.toList) = true := by kernel_rfl
theorem reviveBack_k17 : (Rows.reviveBackRow.loops == (Tryz.f4.params.toList ++ Rows.reviveBackSpec.plain.varTypes Tryz.prog).any (Tryz.prog.loopsFrom ·)) = true := by kernel_rfl
theorem reviveBack_k18 : (Rows.reviveBackRow.wideKeys == (Tryz.f4.params.toList ++ Rows.reviveBackSpec.plain.varTypes Tryz.prog ++ Tryz.f4.resultTypes.toList).any (Tryz.prog.wideKeysFrom ·)) = true := by kernel_rfl
theorem reviveBack_k19 : Rows.reviveBackSpec.vars.all (Tryz.prog.varReadable ·) = true := by kernel_rfl
theorem reviveBack_k20 : Tryz.f4.resultTypes.all (fun t => Tryz.prog.readableRec t && decide (t < Tryz.prog.types.size)) = true := by kernel_rfl
theorem reviveBack_k21 : (Rows.reviveBackRow.ifacesOut == Tryz.f4.resultTypes.toList.any (Tryz.prog.ifacesRec ·)) = true := by kernel_rfl
theorem reviveBack_k22 : (Rows.reviveBackRow.loopsOut == Tryz.f4.resultTypes.toList.any (Tryz.prog.loopsFrom ·)) = true := by kernel_rfl
theorem reviveBack_k23 : (Rows.reviveBackRow.plainKeys == Tryz.prog.plainKeys) = true := by kernel_rfl
theorem reviveBack_k24 : Rows.reviveBackRow.shortTexts.isNone = true := by kernel_rfl
theorem reviveBack_k27 : (Rows.reviveBackRow.lifted == Tryz.prog.liftsFinal) = true := by kernel_rfl
theorem reviveBack_k28 : (Tryz.prog.make == some Rows.reviveBackRow.make) = true := by kernel_rfl
theorem reviveBack_k29 : (Rows.reviveBackRow.kinds == (if Rows.reviveBackRow.domain.isEmpty then [] else Tryz.f4.params.toList.map fun t => match Tryz.prog.underlying t with | some (.int k) => some k | _ => none)) = true := by kernel_rfl
theorem reviveBack_k30 : (Rows.reviveBackRow.pinned == Rows.reviveBackRow.pinnedBy) = true := by kernel_rfl
theorem reviveBack_k31 : (Rows.reviveBackRow.veiled == (Tryz.f4.params.toList ++ Rows.reviveBackSpec.plain.varTypes Tryz.prog ++ Tryz.f4.resultTypes.toList).any (Tryz.prog.veiledRec ·)) = true := by kernel_rfl
theorem reviveBack_k32 : Rows.reviveBackRow.veiledFits Tryz.prog Tryz.f4.params.toList (Tryz.f4.params.toList ++ Rows.reviveBackSpec.plain.varTypes Tryz.prog ++ Tryz.f4.resultTypes.toList) = true := by kernel_rfl
theorem reviveBack_facts : joinedFacts Tryz.prog 4 Tryz.f4 Rows.reviveBackSpec Rows.reviveBackRow = true := andI (andI (andI (andI (andI (andI (andI (andI (andI (andI (andI (andI (andI (andI (andI (andI (andI (andI (andI (andI (andI (andI (andI (andI (andI (andI (andI (andI (andI (andI (andI reviveBack_k1 all_k2) all_k3) reviveBack_k4) reviveBack_k5) reviveBack_k6) all_k7) reviveBack_k8) all_k9) reviveBack_k10) reviveBack_k11) reviveBack_k12) reviveBack_k13) reviveBack_k14) reviveBack_k15) reviveBack_k16) reviveBack_k17) reviveBack_k18) reviveBack_k19) reviveBack_k20) reviveBack_k21) reviveBack_k22) reviveBack_k23) reviveBack_k24) all_k25) all_k26) reviveBack_k27) reviveBack_k28) reviveBack_k29) reviveBack_k30) reviveBack_k31) reviveBack_k32
theorem lifted4 (os : Os) (started : os.Started) (H : Type) (enc : TypeId × Value → H) :
    ReturnsInHanded {} Tryz.checked os 4 .any (fun w args => (Rows.reviveBackSpec.pre enc Tryz.prog Tryz.f4 [] false w args ∧ laidMetH Tryz.prog Rows.reviveBackRow.laid w) ∧ sizedMet enc Tryz.prog Tryz.f4 (OpenSpec.ofChange Rows.reviveBackSpec) false w args)
      (Rows.reviveBackSpec.post enc Tryz.prog Tryz.f4 false true false false) :=
  law_lifted (C := Tryz.checked) (ps := Go.Lm.psChange) (n := 10) (tb := 4) own started (by kernel_rfl) func4
    (ChangeSpec.witness_shaped (enc := enc) (C := Tryz.checked) (os := os) (X := fun w _ => laidMetH Tryz.prog Rows.reviveBackRow.laid w) false (World.laidAll Tryz.prog os Rows.reviveBackRow.laid) #[.agg #[.int .i64 0, .slice none 0 0, .int .i64 0], .string ⟨#[]⟩] 8 (World.laidAll_os _ _ _)
      (World.shaped_of_ZipB (by kernel_rfl) (by kernel_rfl)) (by kernel_rfl) (by kernel_rfl) (by kernel_rfl)
      (by rw [MakeChecks.laidMetH_plain _ _ _ (by kernel_rfl)]; exact laidMet_laidAll _ (by kernel_rfl) (by kernel_rfl)))
    (by kernel_rfl) (by intro h; cases h) (by kernel_rfl) laidOut (params_of (by kernel_rfl)) rfl
    (fun ds hd => by
      obtain ⟨a, b, rfl⟩ := two_args (hd.trans (by kernel_rfl))
      exact ⟨rfl, rfl, rfl⟩)
    (by kernel_rfl) (bool_of (by kernel_rfl)) (by kernel_rfl) (by kernel_rfl) Go.Lm.true4
theorem reviveBack_row : Rows.ReviveBackSaid :=
  OpenClaim.holds_of_wide 4 Tryz.f4 rfl rfl rfl rfl rfl rfl rfl ⟨rfl, rfl, rfl, rfl, rfl⟩ rfl rfl rfl rfl rfl (by kernel_rfl) func4 reviveBack_facts
    (of_decide_eq_true (by kernel_rfl)) (by unfold Func.isWrapper; first | (rw [if_pos (by decide +kernel)]; kernel_rfl) | (rw [if_neg (by decide +kernel)]; exact ⟨rfl, rfl⟩))
    (fun os started H enc _ => lifted4 os started H enc)
theorem reviveBack_name : Tryz.prog.funcNamed "gossamer/gossamerlaw36.ReviveBack" = some 4 := by kernel_rfl
theorem reviveBack_stand : ∀ t ∈ Tryz.f4.params.toList, Tryz.prog.wantsStandIn t = false := by
  have h : (Tryz.f4.params.toList.all fun t => !Tryz.prog.wantsStandIn t) = true := by kernel_rfl
  intro t ht
  simpa using List.all_eq_true.1 h t ht
theorem reviveBack_holds : Rows.ReviveBackCardSaid :=
  Claim7.holds_tied_plain_at .later [] [.data, .data, .data, .data, .pinned] true (true, "fb684c1914dfdc8fa47f1e418312ef85178f21eb709a184f938601baea2f4ba6") false
    reviveBack_row (fun _ h => by cases h) (by kernel_rfl) (fun _ h => by cases h) reviveBack_row_tie rfl ⟨rfl, rfl⟩ (by kernel_rfl) rfl
    (fun f fn hf hfn => by
      obtain rfl : f = 4 := (Option.some.inj (reviveBack_name.symm.trans hf)).symm
      obtain rfl : fn = Tryz.f4 := (Option.some.inj (func4.symm.trans hfn)).symm
      exact ⟨by kernel_rfl, fun j t ht => reviveBack_stand t (by rw [Array.mem_toList_iff]; exact Array.mem_of_getElem? ht)⟩)
    (goesBy_no nogo rfl)
end Go.Proofs.YtjfodgdlgohioaaGreatDoor
