import Derived.Test.YtokpejlicanbmaaSTy
import Derived.Test.YtokpejlicanbmaaSBasic
import Derived.Test.YtokpejlicanbmaaSRing
import Derived.Test.YtokpejlicanbmaaSRing2
set_option linter.all false
set_option linter.unusedSimpArgs false
set_option linter.unusedVariables false
set_option maxRecDepth 100000
set_option maxHeartbeats 1000000
open Go Am TyA Go.Proofs
attribute [local irreducible] Beh Con
namespace SA

-- needs basic ring ring2
theorem emod_inj {n a b : Int} (hn : 0 < n) (h1 : a - b < n) (h2 : b - a < n) (h : a % n = b % n) : a = b := by
  have hd : n ∣ a - b := Int.dvd_of_emod_eq_zero (Int.emod_eq_emod_iff_emod_sub_eq_zero.1 h)
  obtain ⟨c, hc⟩ := hd
  have h3 : c = 0 := by
    rcases Int.lt_trichotomy c 0 with h | h | h
    · have h5 : n * c ≤ n * (-1) := Int.mul_le_mul_of_nonneg_left (by omega) (by omega)
      omega
    · exact h
    · have h5 : n * 1 ≤ n * c := Int.mul_le_mul_of_nonneg_left (by omega) (by omega)
      omega
  subst h3
  omega

theorem slotAt_set (xs : List (Int × Int)) (a b : Int) (s : Int × Int) (hn : 1 ≤ xs.length) :
    slotAt (xs.set (a % (xs.length : Int)).toNat s) b = if a % (xs.length : Int) = b % (xs.length : Int) then s else slotAt xs b := by
  have ha := emod_len a xs.length (by omega)
  have hb := emod_len b xs.length (by omega)
  unfold slotAt
  simp only [List.length_set, List.getD_eq_getElem?_getD, List.getElem?_set]
  by_cases h : a % (xs.length : Int) = b % (xs.length : Int)
  · rw [if_pos h, if_pos (by rw [h]), if_pos (by omega)]
    rfl
  · rw [if_neg h, if_neg (by omega)]

theorem push_law {hd tl v : Int} {xs : List (Int × Int)} (hp : pushP hd tl v xs) : ringP hd (tl + 1) (pushXs tl v xs) ∧ ringList hd (tl + 1) (pushXs tl v xs) = ringList hd tl xs ++ [v] ∧ (pushXs tl v xs).length = xs.length := by
  obtain ⟨⟨h1, h2, h3, h4, h5, h6, h7⟩, hv0, hv1, hf, ht⟩ := hp
  have hlen : (pushXs tl v xs).length = xs.length := by simp [pushXs]
  have hat : ∀ j : Nat, j < xs.length → slotAt (pushXs tl v xs) (hd + j) = if hd + j = tl then (tl + 1, v) else slotAt xs (hd + j) := by
    intro j hj
    unfold pushXs
    rw [slotAt_set _ _ _ _ h1]
    by_cases h : hd + (j : Int) = tl
    · rw [if_pos h, if_pos (by rw [h])]
    · rw [if_neg h, if_neg (fun hc => h (emod_inj (by omega) (by omega) (by omega) hc).symm)]
  refine ⟨⟨by omega, by omega, h3, by omega, by omega, by omega, fun j hj => ?_⟩, ?_, hlen⟩
  · rw [hlen] at hj
    rw [hat j hj]
    have := h7 j hj
    unfold slotOk at this ⊢
    split
    · omega
    · omega
  · unfold ringList
    rw [show (tl + 1 - hd).toNat = (tl - hd).toNat + 1 by omega, slots_succ]
    have e : hd + (((tl - hd).toNat : Nat) : Int) = tl := by omega
    rw [hat _ (by omega), if_pos e]
    congr 1
    unfold slots
    apply List.map_congr_left
    intro i hi
    have hi := List.mem_range.1 hi
    rw [hat i (by omega), if_neg (by omega)]

theorem pop_law {hd tl : Int} {xs : List (Int × Int)} (hr : ringP hd tl xs) (hne : hd ≠ tl) : ringP (hd + 1) tl (popXs hd xs) ∧ ringList hd tl xs = (slotAt xs hd).2 :: ringList (hd + 1) tl (popXs hd xs) ∧ (popXs hd xs).length = xs.length := by
  obtain ⟨h1, h2, h3, h4, h5, h6, h7⟩ := hr
  have hlen : (popXs hd xs).length = xs.length := by simp [popXs]
  have hat : ∀ j : Nat, j < xs.length → slotAt (popXs hd xs) (hd + 1 + j) = if j + 1 = xs.length then (hd + xs.length, 0) else slotAt xs (hd + 1 + j) := by
    intro j hj
    unfold popXs
    rw [slotAt_set _ _ _ _ h1]
    by_cases h : j + 1 = xs.length
    · rw [if_pos h, if_pos]
      rw [show hd + 1 + (j : Int) = hd + xs.length by omega, Int.add_emod_right]
    · rw [if_neg h, if_neg (fun hc => by have := emod_inj (by omega) (by omega) (by omega) hc; omega)]
  refine ⟨⟨by omega, by omega, by omega, by omega, by omega, by omega, fun j hj => ?_⟩, ?_, hlen⟩
  · rw [hlen] at hj
    rw [hat j hj]
    split
    · rename_i hl
      refine ⟨by simp only; omega, by simp only; omega, fun h => by omega, fun _ => ⟨by simp only; omega, rfl⟩⟩
    · have := h7 (j + 1) (by omega)
      rw [show hd + ((j + 1 : Nat) : Int) = hd + 1 + j by omega] at this
      exact this
  · unfold ringList slots
    rw [show (tl - hd).toNat = (tl - (hd + 1)).toNat + 1 by omega, List.range_succ_eq_map, List.map_cons, List.map_map]
    congr 1
    · rw [show hd + ((0 : Nat) : Int) = hd by omega]
    · apply List.map_congr_left
      intro i hi
      have hi := List.mem_range.1 hi
      simp only [Function.comp]
      rw [hat i (by omega), if_neg (by omega)]
      rw [show hd + ((i.succ : Nat) : Int) = hd + 1 + i by omega]

def newXs (n : Nat) : List (Int × Int) := (List.range n).map fun k : Nat => ((k : Int), 0)
theorem newXs_len (n : Nat) : (newXs n).length = n := by simp [newXs]
theorem new_law (n : Nat) (h1 : 1 ≤ n) (h2 : n ≤ 32) : ringP 0 0 (newXs n) ∧ ringList 0 0 (newXs n) = [] := by
  refine ⟨⟨by rw [newXs_len]; exact h1, by rw [newXs_len]; exact h2, by omega, by omega, by omega, by omega, fun j hj => ?_⟩, rfl⟩
  rw [newXs_len] at hj
  have : slotAt (newXs n) (0 + j) = ((j : Int), 0) := by
    unfold slotAt
    rw [newXs_len, Int.zero_add, Int.emod_eq_of_lt (by omega) (by omega)]
    simp [newXs, List.getD_eq_getElem?_getD, hj]
  rw [this]
  exact ⟨by simp only; omega, by simp only; omega, fun h => by omega, fun _ => ⟨by simp only; omega, rfl⟩⟩

theorem set_new (n j : Nat) (hj : j < n) : ((newXs j) ++ List.replicate (n - j) (0, 0)).set j ((j : Int), 0) = newXs (j + 1) ++ List.replicate (n - (j + 1)) (0, 0) := by
  rw [List.set_append, if_neg (by simp [newXs_len]), newXs_len, Nat.sub_self, show n - j = (n - (j + 1)) + 1 by omega, List.replicate_succ, List.set_cons_zero]
  simp [newXs, List.range_succ]

theorem c_RingNew (n : Nat) (h1 : 1 ≤ n) (h2 : n ≤ 32) : Con Try.prog 15 [(.v (.int .i64 (n)))] [] (.tup [.agg [(.v (.int .i64 (0))), (.v (.int .i64 (0))), .sl 0 0 n], (.v (.bool (true)))]) [some { es := (newXs n).map cSl, sz := 2, flat := true }] := by
  refine con_of_body (C := cxOf Try.prog) cxOk [(2, some 27), (3, none)] Try.func15 rfl rfl rfl ?_
  simp only [Try.ntmps15, List.length_cons, List.length_nil, Nat.reduceAdd, Nat.reduceSub, List.replicate, List.cons_append, List.nil_append, List.append_nil]
  repeat' (first
    | ((with_reducible refine nrm ?_); try simp (implicitDefEqProofs := false) (dsimp := false) (disch := first | assumption | omega) only [go_sem, Int.reduceAdd, Int.reduceSub, Int.reduceMul, Int.reduceNeg, Int.reduceLT, Int.reduceLE, Int.reduceEq, Int.reduceNe, Int.reduceToNat, Int.reduceMod, Int.reduceDiv, Int.reducePow, Nat.reduceAdd, Nat.reduceSub, Nat.reduceMul, Nat.reduceLT, Nat.reduceLeDiff, Nat.reduceEqDiff, Nat.reduceMod, Nat.reduceDiv, Nat.reducePow, reduceCtorEq, ↓reduceIte, wrap_i64, wrap_u8, wrap_u32, wrap_u64, Int.tmod_eq_emod_of_nonneg, Int.tdiv_eq_ediv_of_nonneg])
    | (with_reducible refine sem_seqK fun K => ?_)
    | (with_reducible refine kt_f _ ?_)
    | (with_reducible refine regionN cxOk ?_)
    | (with_reducible refine drawN cxOk 4 ?_)
    | ((with_reducible refine chk_by ?_); decide +kernel)
    | (with_reducible refine retN ?_)
    | (with_reducible refine skipN ?_)
    | (with_reducible refine exitN ?_)
    | (with_reducible refine sem_block ?_)
    | (with_reducible refine condN ?_)
    | (with_reducible refine condD_true ?_)
    | (with_reducible refine condD_false ?_)
    | (with_reducible refine condNq (fun hc => ?_) ?_)
    | (with_reducible refine condPN (by simp only [go_sem]; rfl) (by simp only [go_sem]; rfl) (fun hc => ?_) (fun hc => ?_))
    | (with_reducible refine condNN (by simp only [go_sem]; rfl) (by simp only [go_sem]; rfl) (fun hc => ?_) (fun hc => ?_))
    | (with_reducible refine condBN (by simp only [go_sem]; rfl) (by simp only [go_sem]; rfl) (fun hc => ?_) (fun hc => ?_) <;> (try simp only [Bool.not_eq_eq_eq_not, Bool.not_true, Bool.not_false, Bool.and_eq_true, Bool.and_eq_false_imp, Bool.or_eq_true, Bool.or_eq_false_iff, decide_eq_true_eq, decide_eq_false_iff_not] at hc))
    | (with_reducible apply callN)
    | (with_reducible apply callRN [])
    | ((with_reducible refine nrmE ?_); (simp (implicitDefEqProofs := false) (dsimp := false) (disch := first | assumption | omega) only [go_sem, Int.reduceAdd, Int.reduceSub, Int.reduceMul, Int.reduceNeg, Int.reduceLT, Int.reduceLE, Int.reduceEq, Int.reduceNe, Int.reduceToNat, Int.reduceMod, Int.reduceDiv, Int.reducePow, Nat.reduceAdd, Nat.reduceSub, Nat.reduceMul, Nat.reduceLT, Nat.reduceLeDiff, Nat.reduceEqDiff, Nat.reduceMod, Nat.reduceDiv, Nat.reducePow, reduceCtorEq, ↓reduceIte, wrap_i64, wrap_u8, wrap_u32, wrap_u64, Int.tmod_eq_emod_of_nonneg, Int.tdiv_eq_ediv_of_nonneg]) <;> rfl)
    | apply c_within
    | (with_reducible refine aft_intro ?_ (fun hc => ?_))
    | (with_reducible refine imp_intro' (fun hc => ?_))
    | (with_reducible refine And.intro ?_ ?_)
    | (with_reducible intro hc)
    | (with_reducible assumption)
    | omega
    | (with_reducible refine Int.emod_nonneg _ ?_)
    | (with_reducible refine Int.emod_lt_of_pos _ ?_))
  refine sem_loopF (α := Nat) [] [0, 1, 2] [false, false, true, false, true, false, false, false, false, false, false, false, false, false, false, true, true, false, false, false, false, false, false, false, false, false, false] (fun j => j ≤ n) (fun j S => ⟨(S.t).set 16 ((.v (.int .i64 (j)))), S.h.set 1 (some { es := (newXs j ++ List.replicate (n - j) (0, 0)).map cSl, sz := 2, flat := true })⟩) (fun j => n - j) (0) rfl (by simp only [go_sem, Int.reduceAdd, Int.reduceSub, Int.reduceMul, Int.reduceNeg, Int.reduceLT, Int.reduceLE, Int.reduceEq, Int.reduceNe, Int.reduceToNat, Int.reduceMod, Int.reduceDiv, Int.reducePow, Nat.reduceAdd, Nat.reduceSub, Nat.reduceMul, Nat.reduceLT, Nat.reduceLeDiff, Nat.reduceEqDiff, Nat.reduceMod, Nat.reduceDiv, Nat.reducePow, reduceCtorEq, ↓reduceIte]; rfl) ?_ ?_ ?_
  · rfl
  · omega
  rintro j hI
  try simp only at hI
  simp only [go_sem, Int.reduceAdd, Int.reduceSub, Int.reduceMul, Int.reduceNeg, Int.reduceLT, Int.reduceLE, Int.reduceEq, Int.reduceNe, Int.reduceToNat, Int.reduceMod, Int.reduceDiv, Int.reducePow, Nat.reduceAdd, Nat.reduceSub, Nat.reduceMul, Nat.reduceLT, Nat.reduceLeDiff, Nat.reduceEqDiff, Nat.reduceMod, Nat.reduceDiv, Nat.reducePow, reduceCtorEq, ↓reduceIte]
  repeat' (first
    | ((with_reducible refine nrm ?_); try simp (implicitDefEqProofs := false) (dsimp := false) (disch := first | assumption | omega) only [go_sem, Int.reduceAdd, Int.reduceSub, Int.reduceMul, Int.reduceNeg, Int.reduceLT, Int.reduceLE, Int.reduceEq, Int.reduceNe, Int.reduceToNat, Int.reduceMod, Int.reduceDiv, Int.reducePow, Nat.reduceAdd, Nat.reduceSub, Nat.reduceMul, Nat.reduceLT, Nat.reduceLeDiff, Nat.reduceEqDiff, Nat.reduceMod, Nat.reduceDiv, Nat.reducePow, reduceCtorEq, ↓reduceIte, wrap_i64, wrap_u8, wrap_u32, wrap_u64, Int.tmod_eq_emod_of_nonneg, Int.tdiv_eq_ediv_of_nonneg, newXs_len])
    | (with_reducible refine sem_seqK fun K => ?_)
    | (with_reducible refine kt_f _ ?_)
    | (with_reducible refine regionN cxOk ?_)
    | (with_reducible refine drawN cxOk 4 ?_)
    | ((with_reducible refine chk_by ?_); decide +kernel)
    | (with_reducible refine retN ?_)
    | (with_reducible refine skipN ?_)
    | (with_reducible refine exitN ?_)
    | (with_reducible refine sem_block ?_)
    | (with_reducible refine condN ?_)
    | (with_reducible refine condD_true ?_)
    | (with_reducible refine condD_false ?_)
    | (with_reducible refine condNq (fun hc => ?_) ?_)
    | (with_reducible refine condPN (by simp only [go_sem]; rfl) (by simp only [go_sem]; rfl) (fun hc => ?_) (fun hc => ?_))
    | (with_reducible refine condNN (by simp only [go_sem]; rfl) (by simp only [go_sem]; rfl) (fun hc => ?_) (fun hc => ?_))
    | (with_reducible refine condBN (by simp only [go_sem]; rfl) (by simp only [go_sem]; rfl) (fun hc => ?_) (fun hc => ?_) <;> (try simp only [Bool.not_eq_eq_eq_not, Bool.not_true, Bool.not_false, Bool.and_eq_true, Bool.and_eq_false_imp, Bool.or_eq_true, Bool.or_eq_false_iff, decide_eq_true_eq, decide_eq_false_iff_not] at hc))
    | (with_reducible refine aft_intro ?_ (fun hc => ?_))
    | (with_reducible refine imp_intro' (fun hc => ?_))
    | (with_reducible refine And.intro ?_ ?_)
    | (with_reducible intro hc)
    | (with_reducible assumption)
    | omega
    | (with_reducible refine Int.emod_nonneg _ ?_)
    | (with_reducible refine Int.emod_lt_of_pos _ ?_))
  · focus (refine loop_next (j + 1) [] [0, 1, 2] [false, false, true, false, true, false, false, false, false, false, false, false, false, false, false, true, true, false, false, false, false, false, false, false, false, false, false] rfl ?_ ?_ ?_; (try (first | rfl | (simp (implicitDefEqProofs := false) (dsimp := false) only [go_sem, Int.reduceAdd, Int.reduceSub, Int.reduceMul, Int.reduceNeg, Int.reduceLT, Int.reduceLE, Int.reduceEq, Int.reduceNe, Int.reduceToNat, Int.reduceMod, Int.reduceDiv, Int.reducePow, Nat.reduceAdd, Nat.reduceSub, Nat.reduceMul, Nat.reduceLT, Nat.reduceLeDiff, Nat.reduceEqDiff, Nat.reduceMod, Nat.reduceDiv, Nat.reducePow, reduceCtorEq, ↓reduceIte, St.mk.injEq, List.cons.injEq, AV.v.injEq, Value.int.injEq, AV.sl.injEq, Option.some.injEq, Ob.mk.injEq, true_and, and_true, Int.natCast_add, Int.cast_ofNat_Int, newXs_len]; omega) | (simp (implicitDefEqProofs := false) (dsimp := false) only [go_sem, Int.reduceAdd, Int.reduceSub, Int.reduceMul, Int.reduceNeg, Int.reduceLT, Int.reduceLE, Int.reduceEq, Int.reduceNe, Int.reduceToNat, Int.reduceMod, Int.reduceDiv, Int.reducePow, Nat.reduceAdd, Nat.reduceSub, Nat.reduceMul, Nat.reduceLT, Nat.reduceLeDiff, Nat.reduceEqDiff, Nat.reduceMod, Nat.reduceDiv, Nat.reducePow, reduceCtorEq, ↓reduceIte, St.mk.injEq, List.cons.injEq, AV.v.injEq, Value.int.injEq, AV.sl.injEq, Option.some.injEq, Ob.mk.injEq, true_and, and_true, Int.natCast_add, Int.cast_ofNat_Int, newXs_len]; done) | (simp (implicitDefEqProofs := false) (dsimp := false) only [go_sem, Int.reduceAdd, Int.reduceSub, Int.reduceMul, Int.reduceNeg, Int.reduceLT, Int.reduceLE, Int.reduceEq, Int.reduceNe, Int.reduceToNat, Int.reduceMod, Int.reduceDiv, Int.reducePow, Nat.reduceAdd, Nat.reduceSub, Nat.reduceMul, Nat.reduceLT, Nat.reduceLeDiff, Nat.reduceEqDiff, Nat.reduceMod, Nat.reduceDiv, Nat.reducePow, reduceCtorEq, ↓reduceIte, St.mk.injEq, List.cons.injEq, AV.v.injEq, Value.int.injEq, AV.sl.injEq, Option.some.injEq, Ob.mk.injEq, true_and, and_true, Int.natCast_add, Int.cast_ofNat_Int, newXs_len]))); all_goals try (first | omega | (simp only; omega)); all_goals (try dsimp only))
    have hj : j < n := by omega
    rw [getD_map _ _ _ (by simp [newXs_len]; omega), ← set_new n j hj]
    have e : (newXs j ++ List.replicate (n - j) ((0 : Int), (0 : Int))).getD j default = (0, 0) := by
      rw [List.getD_eq_getElem?_getD, List.getElem?_append_right (by rw [newXs_len]; exact Nat.le_refl _), newXs_len, Nat.sub_self, show n - j = (n - (j + 1)) + 1 by omega]
      rfl
    rw [e]
    exact set_map _ _ _ _ _ rfl
  · obtain rfl : j = n := by omega
    focus (refine body_ret [] [1] rfl rfl ?_ ?_; all_goals (first | (with_reducible rfl) | (simp (implicitDefEqProofs := false) (dsimp := false) (disch := first | assumption | omega) only [go_sem, Int.reduceAdd, Int.reduceSub, Int.reduceMul, Int.reduceNeg, Int.reduceLT, Int.reduceLE, Int.reduceEq, Int.reduceNe, Int.reduceToNat, Int.reduceMod, Int.reduceDiv, Int.reducePow, Nat.reduceAdd, Nat.reduceSub, Nat.reduceMul, Nat.reduceLT, Nat.reduceLeDiff, Nat.reduceEqDiff, Nat.reduceMod, Nat.reduceDiv, Nat.reducePow, reduceCtorEq, ↓reduceIte, wrap_i64, wrap_u8, wrap_u32, wrap_u64, Int.tmod_eq_emod_of_nonneg, Int.tdiv_eq_ediv_of_nonneg]) | skip))
    simp

theorem pickF_bd' (code : List Int) (a n : Int) (hn : 1 ≤ n) : 0 ≤ pickF code a n ∧ pickF code a n < n := pickF_bd hn

theorem ringList_take (hd tl : Int) (xs : List (Int × Int)) : (ringList hd tl xs).take (tl - hd).toNat = ringList hd tl xs := slots_take _ _ _
theorem win_head (A : List Int) (off len : Nat) (h0 : 0 < len) (h1 : off + len ≤ A.length) : (A.drop off).take len = A.getD off 0 :: (A.drop (off + 1)).take (len - 1) := by
  obtain ⟨m, rfl⟩ : ∃ m, len = m + 1 := ⟨len - 1, by omega⟩
  rw [List.drop_eq_getElem_cons (by omega), List.take_succ_cons]
  simp [List.getD_eq_getElem?_getD, List.getElem?_eq_getElem (show off < A.length by omega)]
theorem win_len (A : List Int) (off len : Nat) (h1 : off + len ≤ A.length) : ((A.drop off).take len).length = len := by simp; omega

theorem c_FnRing (b : Bool) (code : List Int) (hB : Bytes code) (hl : code.length ≤ 9223372036854775807) : Con Try.prog 3 [.bor b (code.map (cI .u8))] [] ((.v (.bool (true)))) [] := by
  have hp3 := pickF_bd' code 3 5 (by omega)
  obtain ⟨n, hn⟩ : ∃ n : Nat, (n : Int) = 1 + pickF code 3 5 := ⟨(1 + pickF code 3 5).toNat, by omega⟩
  have hnl := newXs_len n
  refine con_of_body (C := cxOf Try.prog) cxOk [(2, none)] Try.func3 rfl rfl rfl ?_
  simp only [Try.ntmps3, List.length_cons, List.length_nil, Nat.reduceAdd, Nat.reduceSub, List.replicate, List.cons_append, List.nil_append, List.append_nil]
  repeat' (first
    | ((with_reducible refine nrm ?_); try simp (implicitDefEqProofs := false) (dsimp := false) (disch := first | assumption | omega) only [go_sem, Int.reduceAdd, Int.reduceSub, Int.reduceMul, Int.reduceNeg, Int.reduceLT, Int.reduceLE, Int.reduceEq, Int.reduceNe, Int.reduceToNat, Int.reduceMod, Int.reduceDiv, Int.reducePow, Nat.reduceAdd, Nat.reduceSub, Nat.reduceMul, Nat.reduceLT, Nat.reduceLeDiff, Nat.reduceEqDiff, Nat.reduceMod, Nat.reduceDiv, Nat.reducePow, reduceCtorEq, ↓reduceIte, wrap_i64, wrap_u8, wrap_u32, wrap_u64, Int.tmod_eq_emod_of_nonneg, Int.tdiv_eq_ediv_of_nonneg, ←hn])
    | (with_reducible refine sem_seqK fun K => ?_)
    | (with_reducible refine kt_f _ ?_)
    | (with_reducible refine regionN cxOk ?_)
    | (with_reducible refine drawN cxOk 4 ?_)
    | ((with_reducible refine chk_by ?_); decide +kernel)
    | (with_reducible refine retN ?_)
    | (with_reducible refine skipN ?_)
    | (with_reducible refine exitN ?_)
    | (with_reducible refine sem_block ?_)
    | (with_reducible refine condN ?_)
    | (with_reducible refine condD_true ?_)
    | (with_reducible refine condD_false ?_)
    | (with_reducible refine condNq (fun hc => ?_) ?_)
    | (with_reducible refine condPN (by simp only [go_sem]; rfl) (by simp only [go_sem]; rfl) (fun hc => ?_) (fun hc => ?_))
    | (with_reducible refine condNN (by simp only [go_sem]; rfl) (by simp only [go_sem]; rfl) (fun hc => ?_) (fun hc => ?_))
    | (with_reducible refine condBN (by simp only [go_sem]; rfl) (by simp only [go_sem]; rfl) (fun hc => ?_) (fun hc => ?_) <;> (try simp only [Bool.not_eq_eq_eq_not, Bool.not_true, Bool.not_false, Bool.and_eq_true, Bool.and_eq_false_imp, Bool.or_eq_true, Bool.or_eq_false_iff, decide_eq_true_eq, decide_eq_false_iff_not] at hc))
    | (with_reducible apply callN)
    | (with_reducible apply callRN [])
    | ((with_reducible refine nrmE ?_); (simp (implicitDefEqProofs := false) (dsimp := false) (disch := first | assumption | omega) only [go_sem, Int.reduceAdd, Int.reduceSub, Int.reduceMul, Int.reduceNeg, Int.reduceLT, Int.reduceLE, Int.reduceEq, Int.reduceNe, Int.reduceToNat, Int.reduceMod, Int.reduceDiv, Int.reducePow, Nat.reduceAdd, Nat.reduceSub, Nat.reduceMul, Nat.reduceLT, Nat.reduceLeDiff, Nat.reduceEqDiff, Nat.reduceMod, Nat.reduceDiv, Nat.reducePow, reduceCtorEq, ↓reduceIte, wrap_i64, wrap_u8, wrap_u32, wrap_u64, Int.tmod_eq_emod_of_nonneg, Int.tdiv_eq_ediv_of_nonneg, ←hn]) <;> rfl)
    | apply c_big
    | apply c_pick
    | apply c_RingNew
    | (with_reducible refine aft_intro ?_ (fun hc => ?_))
    | (with_reducible refine imp_intro' (fun hc => ?_))
    | (with_reducible refine And.intro ?_ ?_)
    | (with_reducible intro hc)
    | (with_reducible assumption)
    | omega
    | (with_reducible refine Int.emod_nonneg _ ?_)
    | (with_reducible refine Int.emod_lt_of_pos _ ?_))
  · focus (refine body_ret [] [] rfl rfl ?_ ?_; all_goals (first | (with_reducible rfl) | (simp (implicitDefEqProofs := false) (dsimp := false) (disch := first | assumption | omega) only [go_sem, Int.reduceAdd, Int.reduceSub, Int.reduceMul, Int.reduceNeg, Int.reduceLT, Int.reduceLE, Int.reduceEq, Int.reduceNe, Int.reduceToNat, Int.reduceMod, Int.reduceDiv, Int.reducePow, Nat.reduceAdd, Nat.reduceSub, Nat.reduceMul, Nat.reduceLT, Nat.reduceLeDiff, Nat.reduceEqDiff, Nat.reduceMod, Nat.reduceDiv, Nat.reducePow, reduceCtorEq, ↓reduceIte, wrap_i64, wrap_u8, wrap_u32, wrap_u64, Int.tmod_eq_emod_of_nonneg, Int.tdiv_eq_ediv_of_nonneg]) | skip))
  refine sem_loopF (α := Nat × Int × Int × List (Int × Int) × List Int × Nat × Nat) [(.slot 6, .virt 1 true)] [0, 1, 2] [true, false, false, true, true, false, true, true, false, false, false, false, false, false, false, false, false, false, false, false, false, false, false, false, false, false, false, false, false, false, false, false, false, false, false, false, false, false, false, false, false, false, false, false, false, false, false, false, false, false, false, false, false, false, false, false, false, false, false, false, false, false, false, false, false, false, false, false, false, false, false, false, false, false, false, false, false, false, false, false, false, false, false, false, false, false, false, false, false, false, false, false, false, false, false, false, false, false, false, false, false, false, false, false, false, false, false, false, false, false] (fun (k, hd, tl, xs, A, off, len) => k ≤ 40 ∧ xs.length = n ∧ ringP hd tl xs ∧ tl ≤ k ∧ off + len ≤ A.length ∧ len ≤ 40 ∧ ringList hd tl xs = (A.drop off).take len ∧ tl - hd = len) (fun (k, hd, tl, xs, A, off, len) S => ⟨((S.t).set 6 (.sl 2 off len)).set 7 ((.v (.int .i64 (k)))), [some { es := xs.map cSl, sz := 2, flat := true }, some { es := [[(.v (.int .i64 (hd))), (.v (.int .i64 (tl))), .sl 0 0 xs.length]], sz := 3, flat := false }, some { es := A.map (cI .i64), sz := 1, flat := true }]⟩) (fun (k, hd, tl, xs, A, off, len) => 40 - k) (0, 0, 0, newXs n, [], 0, 0) rfl (by simp only [go_sem, Int.reduceAdd, Int.reduceSub, Int.reduceMul, Int.reduceNeg, Int.reduceLT, Int.reduceLE, Int.reduceEq, Int.reduceNe, Int.reduceToNat, Int.reduceMod, Int.reduceDiv, Int.reducePow, Nat.reduceAdd, Nat.reduceSub, Nat.reduceMul, Nat.reduceLT, Nat.reduceLeDiff, Nat.reduceEqDiff, Nat.reduceMod, Nat.reduceDiv, Nat.reducePow, reduceCtorEq, ↓reduceIte]; rfl) ?_ ?_ ?_
  · simp only [hnl]; rfl
  · exact ⟨by omega, hnl, (new_law n (by omega) (by omega)).1, by omega, by simp, by omega, rfl, by omega⟩
  rintro ⟨k, hd, tl, xs, A, off, len⟩ hI
  try simp only at hI
  simp only [go_sem, Int.reduceAdd, Int.reduceSub, Int.reduceMul, Int.reduceNeg, Int.reduceLT, Int.reduceLE, Int.reduceEq, Int.reduceNe, Int.reduceToNat, Int.reduceMod, Int.reduceDiv, Int.reducePow, Nat.reduceAdd, Nat.reduceSub, Nat.reduceMul, Nat.reduceLT, Nat.reduceLeDiff, Nat.reduceEqDiff, Nat.reduceMod, Nat.reduceDiv, Nat.reducePow, reduceCtorEq, ↓reduceIte]
  obtain ⟨hk, hxn, hr, htk, hol, hlen, hL, hw⟩ := hI
  have hxs := hr.2.1
  have hxt := hr.2.2.2.2.2.1
  have hv := pickF_bd' code (k + 1) 256 (by omega)
  have hE : (tl - hd).toNat = len := by omega
  have hW := win_len A off len hol
  have hT0 : ((A.drop off).take len).take len = (A.drop off).take len := by rw [List.take_of_length_le (by omega)]
  by_cases hop : pickF code k 5 < 3
  · by_cases hfull : len < n
    · have hp : pushP hd tl (pickF code (k + 1) 256) xs := ⟨hr, by omega, by omega, by omega, by omega⟩
      obtain ⟨hr2, hL2, hx2⟩ := push_law hp
      have hB2 := ringB_true hr2
      have hE2 : (tl + 1 - hd).toNat = len + 1 := by omega
      have hW2 : ((A.drop off).take len ++ [pickF code (k + 1) 256]).length = len + 1 := by rw [List.length_append, hW]; rfl
      have hT : ((A.drop off).take len ++ [pickF code (k + 1) 256]).take (len + 1) = (A.drop off).take len ++ [pickF code (k + 1) 256] := by rw [List.take_of_length_le (by omega)]
      have hX : (pushXs tl (pickF code (k + 1) 256) xs).take xs.length = pushXs tl (pickF code (k + 1) 256) xs := by rw [List.take_of_length_le (by omega)]
      have hD : decide ((len : Int) < (n : Int)) = true := by simp; omega
      repeat' (first
        | ((with_reducible refine nrm ?_); try simp (implicitDefEqProofs := false) (dsimp := false) (disch := first | assumption | omega) only [go_sem, Int.reduceAdd, Int.reduceSub, Int.reduceMul, Int.reduceNeg, Int.reduceLT, Int.reduceLE, Int.reduceEq, Int.reduceNe, Int.reduceToNat, Int.reduceMod, Int.reduceDiv, Int.reducePow, Nat.reduceAdd, Nat.reduceSub, Nat.reduceMul, Nat.reduceLT, Nat.reduceLeDiff, Nat.reduceEqDiff, Nat.reduceMod, Nat.reduceDiv, Nat.reducePow, reduceCtorEq, ↓reduceIte, wrap_i64, wrap_u8, wrap_u32, wrap_u64, Int.tmod_eq_emod_of_nonneg, Int.tdiv_eq_ediv_of_nonneg, hE2, hT, hB2, hL2, hL, hX, hD])
        | (with_reducible refine sem_seqK fun K => ?_)
        | (with_reducible refine kt_f _ ?_)
        | (with_reducible refine regionN cxOk ?_)
        | (with_reducible refine drawN cxOk 4 ?_)
        | ((with_reducible refine chk_by ?_); decide +kernel)
        | (with_reducible refine retN ?_)
        | (with_reducible refine skipN ?_)
        | (with_reducible refine exitN ?_)
        | (with_reducible refine sem_block ?_)
        | (with_reducible refine condN ?_)
        | (with_reducible refine condD_true ?_)
        | (with_reducible refine condD_false ?_)
        | (with_reducible refine condNq (fun hc => ?_) ?_)
        | (with_reducible refine condPN (by simp only [go_sem]; rfl) (by simp only [go_sem]; rfl) (fun hc => ?_) (fun hc => ?_))
        | (with_reducible refine condNN (by simp only [go_sem]; rfl) (by simp only [go_sem]; rfl) (fun hc => ?_) (fun hc => ?_))
        | (with_reducible refine condBN (by simp only [go_sem]; rfl) (by simp only [go_sem]; rfl) (fun hc => ?_) (fun hc => ?_) <;> (try simp only [Bool.not_eq_eq_eq_not, Bool.not_true, Bool.not_false, Bool.and_eq_true, Bool.and_eq_false_imp, Bool.or_eq_true, Bool.or_eq_false_iff, decide_eq_true_eq, decide_eq_false_iff_not] at hc))
        | (with_reducible apply callN)
        | (with_reducible apply callRN [])
        | ((with_reducible refine nrmE ?_); (simp (implicitDefEqProofs := false) (dsimp := false) (disch := first | assumption | omega) only [go_sem, Int.reduceAdd, Int.reduceSub, Int.reduceMul, Int.reduceNeg, Int.reduceLT, Int.reduceLE, Int.reduceEq, Int.reduceNe, Int.reduceToNat, Int.reduceMod, Int.reduceDiv, Int.reducePow, Nat.reduceAdd, Nat.reduceSub, Nat.reduceMul, Nat.reduceLT, Nat.reduceLeDiff, Nat.reduceEqDiff, Nat.reduceMod, Nat.reduceDiv, Nat.reducePow, reduceCtorEq, ↓reduceIte, wrap_i64, wrap_u8, wrap_u32, wrap_u64, Int.tmod_eq_emod_of_nonneg, Int.tdiv_eq_ediv_of_nonneg, hE2, hT, hB2, hL2, hL, hX, hD]) <;> rfl)
        | apply c_big
        | apply c_pick
        | apply c_RingPush
        | apply c_RingList
        | apply c_same
        | apply c_specRingOk
        | apply c_RingOk
        | (with_reducible refine aft_intro ?_ (fun hc => ?_))
        | (with_reducible refine imp_intro' (fun hc => ?_))
        | (with_reducible refine And.intro ?_ ?_)
        | (with_reducible intro hc)
        | (with_reducible assumption)
        | omega
        | (with_reducible refine Int.emod_nonneg _ ?_)
        | (with_reducible refine Int.emod_lt_of_pos _ ?_))
      · focus (refine loop_next (k + 1, hd, tl + 1, pushXs tl (pickF code (k + 1) 256) xs, (A.drop off).take len ++ [pickF code (k + 1) 256], 0, len + 1) [] [3, 1, 6] [true, false, false, true, true, false, true, true, false, false, false, false, false, false, false, false, false, false, false, false, false, false, false, false, false, false, false, false, false, false, false, false, false, false, false, false, false, false, false, false, false, false, false, false, false, false, false, false, false, false, false, false, false, false, false, false, false, false, false, false, false, false, false, false, false, false, false, false, false, false, false, false, false, false, false, false, false, false, false, false, false, false, false, false, false, false, false, false, false, false, false, false, false, false, false, false, false, false, false, false, false, false, false, false, false, false, false, false, false, false] rfl ?_ ?_ ?_; (try (first | rfl | (simp (implicitDefEqProofs := false) (dsimp := false) only [go_sem, Int.reduceAdd, Int.reduceSub, Int.reduceMul, Int.reduceNeg, Int.reduceLT, Int.reduceLE, Int.reduceEq, Int.reduceNe, Int.reduceToNat, Int.reduceMod, Int.reduceDiv, Int.reducePow, Nat.reduceAdd, Nat.reduceSub, Nat.reduceMul, Nat.reduceLT, Nat.reduceLeDiff, Nat.reduceEqDiff, Nat.reduceMod, Nat.reduceDiv, Nat.reducePow, reduceCtorEq, ↓reduceIte, St.mk.injEq, List.cons.injEq, AV.v.injEq, Value.int.injEq, AV.sl.injEq, Option.some.injEq, Ob.mk.injEq, true_and, and_true, Int.natCast_add, Int.cast_ofNat_Int, hx2]; omega) | (simp (implicitDefEqProofs := false) (dsimp := false) only [go_sem, Int.reduceAdd, Int.reduceSub, Int.reduceMul, Int.reduceNeg, Int.reduceLT, Int.reduceLE, Int.reduceEq, Int.reduceNe, Int.reduceToNat, Int.reduceMod, Int.reduceDiv, Int.reducePow, Nat.reduceAdd, Nat.reduceSub, Nat.reduceMul, Nat.reduceLT, Nat.reduceLeDiff, Nat.reduceEqDiff, Nat.reduceMod, Nat.reduceDiv, Nat.reducePow, reduceCtorEq, ↓reduceIte, St.mk.injEq, List.cons.injEq, AV.v.injEq, Value.int.injEq, AV.sl.injEq, Option.some.injEq, Ob.mk.injEq, true_and, and_true, Int.natCast_add, Int.cast_ofNat_Int, hx2]; done) | (simp (implicitDefEqProofs := false) (dsimp := false) only [go_sem, Int.reduceAdd, Int.reduceSub, Int.reduceMul, Int.reduceNeg, Int.reduceLT, Int.reduceLE, Int.reduceEq, Int.reduceNe, Int.reduceToNat, Int.reduceMod, Int.reduceDiv, Int.reducePow, Nat.reduceAdd, Nat.reduceSub, Nat.reduceMul, Nat.reduceLT, Nat.reduceLeDiff, Nat.reduceEqDiff, Nat.reduceMod, Nat.reduceDiv, Nat.reducePow, reduceCtorEq, ↓reduceIte, St.mk.injEq, List.cons.injEq, AV.v.injEq, Value.int.injEq, AV.sl.injEq, Option.some.injEq, Ob.mk.injEq, true_and, and_true, Int.natCast_add, Int.cast_ofNat_Int, hx2]))); all_goals try (first | omega | (simp only; omega)); all_goals (try dsimp only))
        dsimp only
        exact ⟨by omega, by omega, hr2, by omega, by omega, by omega, by rw [hL2, hL, List.drop_zero, hT], by omega⟩
      · focus (refine body_ret [] [] rfl rfl ?_ ?_; all_goals (first | (with_reducible rfl) | (simp (implicitDefEqProofs := false) (dsimp := false) (disch := first | assumption | omega) only [go_sem, Int.reduceAdd, Int.reduceSub, Int.reduceMul, Int.reduceNeg, Int.reduceLT, Int.reduceLE, Int.reduceEq, Int.reduceNe, Int.reduceToNat, Int.reduceMod, Int.reduceDiv, Int.reducePow, Nat.reduceAdd, Nat.reduceSub, Nat.reduceMul, Nat.reduceLT, Nat.reduceLeDiff, Nat.reduceEqDiff, Nat.reduceMod, Nat.reduceDiv, Nat.reducePow, reduceCtorEq, ↓reduceIte, wrap_i64, wrap_u8, wrap_u32, wrap_u64, Int.tmod_eq_emod_of_nonneg, Int.tdiv_eq_ediv_of_nonneg]) | skip))
    · have hp : ¬ pushP hd tl (pickF code (k + 1) 256) xs := fun h => by have := h.2.2.2.1; omega
      have hB2 := ringB_true hr
      have hD : decide ((len : Int) < (n : Int)) = false := by simp; omega
      repeat' (first
        | ((with_reducible refine nrm ?_); try simp (implicitDefEqProofs := false) (dsimp := false) (disch := first | assumption | omega) only [go_sem, Int.reduceAdd, Int.reduceSub, Int.reduceMul, Int.reduceNeg, Int.reduceLT, Int.reduceLE, Int.reduceEq, Int.reduceNe, Int.reduceToNat, Int.reduceMod, Int.reduceDiv, Int.reducePow, Nat.reduceAdd, Nat.reduceSub, Nat.reduceMul, Nat.reduceLT, Nat.reduceLeDiff, Nat.reduceEqDiff, Nat.reduceMod, Nat.reduceDiv, Nat.reducePow, reduceCtorEq, ↓reduceIte, wrap_i64, wrap_u8, wrap_u32, wrap_u64, Int.tmod_eq_emod_of_nonneg, Int.tdiv_eq_ediv_of_nonneg, hE, hT0, hB2, hL, hD])
        | (with_reducible refine sem_seqK fun K => ?_)
        | (with_reducible refine kt_f _ ?_)
        | (with_reducible refine regionN cxOk ?_)
        | (with_reducible refine drawN cxOk 4 ?_)
        | ((with_reducible refine chk_by ?_); decide +kernel)
        | (with_reducible refine retN ?_)
        | (with_reducible refine skipN ?_)
        | (with_reducible refine exitN ?_)
        | (with_reducible refine sem_block ?_)
        | (with_reducible refine condN ?_)
        | (with_reducible refine condD_true ?_)
        | (with_reducible refine condD_false ?_)
        | (with_reducible refine condNq (fun hc => ?_) ?_)
        | (with_reducible refine condPN (by simp only [go_sem]; rfl) (by simp only [go_sem]; rfl) (fun hc => ?_) (fun hc => ?_))
        | (with_reducible refine condNN (by simp only [go_sem]; rfl) (by simp only [go_sem]; rfl) (fun hc => ?_) (fun hc => ?_))
        | (with_reducible refine condBN (by simp only [go_sem]; rfl) (by simp only [go_sem]; rfl) (fun hc => ?_) (fun hc => ?_) <;> (try simp only [Bool.not_eq_eq_eq_not, Bool.not_true, Bool.not_false, Bool.and_eq_true, Bool.and_eq_false_imp, Bool.or_eq_true, Bool.or_eq_false_iff, decide_eq_true_eq, decide_eq_false_iff_not] at hc))
        | (with_reducible apply callN)
        | (with_reducible apply callRN [])
        | ((with_reducible refine nrmE ?_); (simp (implicitDefEqProofs := false) (dsimp := false) (disch := first | assumption | omega) only [go_sem, Int.reduceAdd, Int.reduceSub, Int.reduceMul, Int.reduceNeg, Int.reduceLT, Int.reduceLE, Int.reduceEq, Int.reduceNe, Int.reduceToNat, Int.reduceMod, Int.reduceDiv, Int.reducePow, Nat.reduceAdd, Nat.reduceSub, Nat.reduceMul, Nat.reduceLT, Nat.reduceLeDiff, Nat.reduceEqDiff, Nat.reduceMod, Nat.reduceDiv, Nat.reducePow, reduceCtorEq, ↓reduceIte, wrap_i64, wrap_u8, wrap_u32, wrap_u64, Int.tmod_eq_emod_of_nonneg, Int.tdiv_eq_ediv_of_nonneg, hE, hT0, hB2, hL, hD]) <;> rfl)
        | apply c_big
        | apply c_pick
        | apply c_RingPush_no
        | apply c_RingList
        | apply c_same
        | apply c_specRingOk
        | apply c_RingOk
        | (with_reducible refine aft_intro ?_ (fun hc => ?_))
        | (with_reducible refine imp_intro' (fun hc => ?_))
        | (with_reducible refine And.intro ?_ ?_)
        | (with_reducible intro hc)
        | (with_reducible assumption)
        | omega
        | (with_reducible refine Int.emod_nonneg _ ?_)
        | (with_reducible refine Int.emod_lt_of_pos _ ?_))
      · focus (refine loop_next (k + 1, hd, tl, xs, A, off, len) [] [0, 1, 2] [true, false, false, true, true, false, true, true, false, false, false, false, false, false, false, false, false, false, false, false, false, false, false, false, false, false, false, false, false, false, false, false, false, false, false, false, false, false, false, false, false, false, false, false, false, false, false, false, false, false, false, false, false, false, false, false, false, false, false, false, false, false, false, false, false, false, false, false, false, false, false, false, false, false, false, false, false, false, false, false, false, false, false, false, false, false, false, false, false, false, false, false, false, false, false, false, false, false, false, false, false, false, false, false, false, false, false, false, false, false] rfl ?_ ?_ ?_; (try (first | rfl | (simp (implicitDefEqProofs := false) (dsimp := false) only [go_sem, Int.reduceAdd, Int.reduceSub, Int.reduceMul, Int.reduceNeg, Int.reduceLT, Int.reduceLE, Int.reduceEq, Int.reduceNe, Int.reduceToNat, Int.reduceMod, Int.reduceDiv, Int.reducePow, Nat.reduceAdd, Nat.reduceSub, Nat.reduceMul, Nat.reduceLT, Nat.reduceLeDiff, Nat.reduceEqDiff, Nat.reduceMod, Nat.reduceDiv, Nat.reducePow, reduceCtorEq, ↓reduceIte, St.mk.injEq, List.cons.injEq, AV.v.injEq, Value.int.injEq, AV.sl.injEq, Option.some.injEq, Ob.mk.injEq, true_and, and_true, Int.natCast_add, Int.cast_ofNat_Int]; omega) | (simp (implicitDefEqProofs := false) (dsimp := false) only [go_sem, Int.reduceAdd, Int.reduceSub, Int.reduceMul, Int.reduceNeg, Int.reduceLT, Int.reduceLE, Int.reduceEq, Int.reduceNe, Int.reduceToNat, Int.reduceMod, Int.reduceDiv, Int.reducePow, Nat.reduceAdd, Nat.reduceSub, Nat.reduceMul, Nat.reduceLT, Nat.reduceLeDiff, Nat.reduceEqDiff, Nat.reduceMod, Nat.reduceDiv, Nat.reducePow, reduceCtorEq, ↓reduceIte, St.mk.injEq, List.cons.injEq, AV.v.injEq, Value.int.injEq, AV.sl.injEq, Option.some.injEq, Ob.mk.injEq, true_and, and_true, Int.natCast_add, Int.cast_ofNat_Int]; done) | (simp (implicitDefEqProofs := false) (dsimp := false) only [go_sem, Int.reduceAdd, Int.reduceSub, Int.reduceMul, Int.reduceNeg, Int.reduceLT, Int.reduceLE, Int.reduceEq, Int.reduceNe, Int.reduceToNat, Int.reduceMod, Int.reduceDiv, Int.reducePow, Nat.reduceAdd, Nat.reduceSub, Nat.reduceMul, Nat.reduceLT, Nat.reduceLeDiff, Nat.reduceEqDiff, Nat.reduceMod, Nat.reduceDiv, Nat.reducePow, reduceCtorEq, ↓reduceIte, St.mk.injEq, List.cons.injEq, AV.v.injEq, Value.int.injEq, AV.sl.injEq, Option.some.injEq, Ob.mk.injEq, true_and, and_true, Int.natCast_add, Int.cast_ofNat_Int]))); all_goals try (first | omega | (simp only; omega)); all_goals (try dsimp only))
        dsimp only
        exact ⟨by omega, by omega, hr, by omega, by omega, by omega, hL, by omega⟩
      · focus (refine body_ret [] [] rfl rfl ?_ ?_; all_goals (first | (with_reducible rfl) | (simp (implicitDefEqProofs := false) (dsimp := false) (disch := first | assumption | omega) only [go_sem, Int.reduceAdd, Int.reduceSub, Int.reduceMul, Int.reduceNeg, Int.reduceLT, Int.reduceLE, Int.reduceEq, Int.reduceNe, Int.reduceToNat, Int.reduceMod, Int.reduceDiv, Int.reducePow, Nat.reduceAdd, Nat.reduceSub, Nat.reduceMul, Nat.reduceLT, Nat.reduceLeDiff, Nat.reduceEqDiff, Nat.reduceMod, Nat.reduceDiv, Nat.reducePow, reduceCtorEq, ↓reduceIte, wrap_i64, wrap_u8, wrap_u32, wrap_u64, Int.tmod_eq_emod_of_nonneg, Int.tdiv_eq_ediv_of_nonneg]) | skip))
  · by_cases hne : hd = tl
    · have hB2 := ringB_true hr
      have hl0 : len = 0 := by omega
      have hD : decide ((0 : Int) < (len : Int)) = false := by simp; omega
      repeat' (first
        | ((with_reducible refine nrm ?_); try simp (implicitDefEqProofs := false) (dsimp := false) (disch := first | assumption | omega) only [go_sem, Int.reduceAdd, Int.reduceSub, Int.reduceMul, Int.reduceNeg, Int.reduceLT, Int.reduceLE, Int.reduceEq, Int.reduceNe, Int.reduceToNat, Int.reduceMod, Int.reduceDiv, Int.reducePow, Nat.reduceAdd, Nat.reduceSub, Nat.reduceMul, Nat.reduceLT, Nat.reduceLeDiff, Nat.reduceEqDiff, Nat.reduceMod, Nat.reduceDiv, Nat.reducePow, reduceCtorEq, ↓reduceIte, wrap_i64, wrap_u8, wrap_u32, wrap_u64, Int.tmod_eq_emod_of_nonneg, Int.tdiv_eq_ediv_of_nonneg, hE, hT0, hB2, hL, hD])
        | (with_reducible refine sem_seqK fun K => ?_)
        | (with_reducible refine kt_f _ ?_)
        | (with_reducible refine regionN cxOk ?_)
        | (with_reducible refine drawN cxOk 4 ?_)
        | ((with_reducible refine chk_by ?_); decide +kernel)
        | (with_reducible refine retN ?_)
        | (with_reducible refine skipN ?_)
        | (with_reducible refine exitN ?_)
        | (with_reducible refine sem_block ?_)
        | (with_reducible refine condN ?_)
        | (with_reducible refine condD_true ?_)
        | (with_reducible refine condD_false ?_)
        | (with_reducible refine condNq (fun hc => ?_) ?_)
        | (with_reducible refine condPN (by simp only [go_sem]; rfl) (by simp only [go_sem]; rfl) (fun hc => ?_) (fun hc => ?_))
        | (with_reducible refine condNN (by simp only [go_sem]; rfl) (by simp only [go_sem]; rfl) (fun hc => ?_) (fun hc => ?_))
        | (with_reducible refine condBN (by simp only [go_sem]; rfl) (by simp only [go_sem]; rfl) (fun hc => ?_) (fun hc => ?_) <;> (try simp only [Bool.not_eq_eq_eq_not, Bool.not_true, Bool.not_false, Bool.and_eq_true, Bool.and_eq_false_imp, Bool.or_eq_true, Bool.or_eq_false_iff, decide_eq_true_eq, decide_eq_false_iff_not] at hc))
        | (with_reducible apply callN)
        | (with_reducible apply callRN [])
        | ((with_reducible refine nrmE ?_); (simp (implicitDefEqProofs := false) (dsimp := false) (disch := first | assumption | omega) only [go_sem, Int.reduceAdd, Int.reduceSub, Int.reduceMul, Int.reduceNeg, Int.reduceLT, Int.reduceLE, Int.reduceEq, Int.reduceNe, Int.reduceToNat, Int.reduceMod, Int.reduceDiv, Int.reducePow, Nat.reduceAdd, Nat.reduceSub, Nat.reduceMul, Nat.reduceLT, Nat.reduceLeDiff, Nat.reduceEqDiff, Nat.reduceMod, Nat.reduceDiv, Nat.reducePow, reduceCtorEq, ↓reduceIte, wrap_i64, wrap_u8, wrap_u32, wrap_u64, Int.tmod_eq_emod_of_nonneg, Int.tdiv_eq_ediv_of_nonneg, hE, hT0, hB2, hL, hD]) <;> rfl)
        | apply c_big
        | apply c_pick
        | apply c_RingPop_no
        | apply c_RingList
        | apply c_same
        | apply c_specRingOk
        | apply c_RingOk
        | (with_reducible refine aft_intro ?_ (fun hc => ?_))
        | (with_reducible refine imp_intro' (fun hc => ?_))
        | (with_reducible refine And.intro ?_ ?_)
        | (with_reducible intro hc)
        | (with_reducible assumption)
        | omega
        | (with_reducible refine Int.emod_nonneg _ ?_)
        | (with_reducible refine Int.emod_lt_of_pos _ ?_))
      · focus (refine loop_next (k + 1, hd, tl, xs, A, off, len) [] [0, 1, 2] [true, false, false, true, true, false, true, true, false, false, false, false, false, false, false, false, false, false, false, false, false, false, false, false, false, false, false, false, false, false, false, false, false, false, false, false, false, false, false, false, false, false, false, false, false, false, false, false, false, false, false, false, false, false, false, false, false, false, false, false, false, false, false, false, false, false, false, false, false, false, false, false, false, false, false, false, false, false, false, false, false, false, false, false, false, false, false, false, false, false, false, false, false, false, false, false, false, false, false, false, false, false, false, false, false, false, false, false, false, false] rfl ?_ ?_ ?_; (try (first | rfl | (simp (implicitDefEqProofs := false) (dsimp := false) only [go_sem, Int.reduceAdd, Int.reduceSub, Int.reduceMul, Int.reduceNeg, Int.reduceLT, Int.reduceLE, Int.reduceEq, Int.reduceNe, Int.reduceToNat, Int.reduceMod, Int.reduceDiv, Int.reducePow, Nat.reduceAdd, Nat.reduceSub, Nat.reduceMul, Nat.reduceLT, Nat.reduceLeDiff, Nat.reduceEqDiff, Nat.reduceMod, Nat.reduceDiv, Nat.reducePow, reduceCtorEq, ↓reduceIte, St.mk.injEq, List.cons.injEq, AV.v.injEq, Value.int.injEq, AV.sl.injEq, Option.some.injEq, Ob.mk.injEq, true_and, and_true, Int.natCast_add, Int.cast_ofNat_Int]; omega) | (simp (implicitDefEqProofs := false) (dsimp := false) only [go_sem, Int.reduceAdd, Int.reduceSub, Int.reduceMul, Int.reduceNeg, Int.reduceLT, Int.reduceLE, Int.reduceEq, Int.reduceNe, Int.reduceToNat, Int.reduceMod, Int.reduceDiv, Int.reducePow, Nat.reduceAdd, Nat.reduceSub, Nat.reduceMul, Nat.reduceLT, Nat.reduceLeDiff, Nat.reduceEqDiff, Nat.reduceMod, Nat.reduceDiv, Nat.reducePow, reduceCtorEq, ↓reduceIte, St.mk.injEq, List.cons.injEq, AV.v.injEq, Value.int.injEq, AV.sl.injEq, Option.some.injEq, Ob.mk.injEq, true_and, and_true, Int.natCast_add, Int.cast_ofNat_Int]; done) | (simp (implicitDefEqProofs := false) (dsimp := false) only [go_sem, Int.reduceAdd, Int.reduceSub, Int.reduceMul, Int.reduceNeg, Int.reduceLT, Int.reduceLE, Int.reduceEq, Int.reduceNe, Int.reduceToNat, Int.reduceMod, Int.reduceDiv, Int.reducePow, Nat.reduceAdd, Nat.reduceSub, Nat.reduceMul, Nat.reduceLT, Nat.reduceLeDiff, Nat.reduceEqDiff, Nat.reduceMod, Nat.reduceDiv, Nat.reducePow, reduceCtorEq, ↓reduceIte, St.mk.injEq, List.cons.injEq, AV.v.injEq, Value.int.injEq, AV.sl.injEq, Option.some.injEq, Ob.mk.injEq, true_and, and_true, Int.natCast_add, Int.cast_ofNat_Int]))); all_goals try (first | omega | (simp only; omega)); all_goals (try dsimp only))
        dsimp only
        exact ⟨by omega, by omega, hr, by omega, by omega, by omega, hL, by omega⟩
      · focus (refine body_ret [] [] rfl rfl ?_ ?_; all_goals (first | (with_reducible rfl) | (simp (implicitDefEqProofs := false) (dsimp := false) (disch := first | assumption | omega) only [go_sem, Int.reduceAdd, Int.reduceSub, Int.reduceMul, Int.reduceNeg, Int.reduceLT, Int.reduceLE, Int.reduceEq, Int.reduceNe, Int.reduceToNat, Int.reduceMod, Int.reduceDiv, Int.reducePow, Nat.reduceAdd, Nat.reduceSub, Nat.reduceMul, Nat.reduceLT, Nat.reduceLeDiff, Nat.reduceEqDiff, Nat.reduceMod, Nat.reduceDiv, Nat.reducePow, reduceCtorEq, ↓reduceIte, wrap_i64, wrap_u8, wrap_u32, wrap_u64, Int.tmod_eq_emod_of_nonneg, Int.tdiv_eq_ediv_of_nonneg]) | skip))
    · obtain ⟨hr2, hL2, hx2⟩ := pop_law hr hne
      have hB2 := ringB_true hr2
      have hh := win_head A off len (by omega) hol
      rw [← hL, hL2] at hh
      injection hh with hh1 hh2
      have hW2 := win_len A (off + 1) (len - 1) (by omega)
      have hE2 : (tl - (hd + 1)).toNat = len - 1 := by omega
      have hT : ((A.drop (off + 1)).take (len - 1)).take (len - 1) = (A.drop (off + 1)).take (len - 1) := by rw [List.take_of_length_le (by omega)]
      have hX : (popXs hd xs).take xs.length = popXs hd xs := by rw [List.take_of_length_le (by omega)]
      have hD : decide ((0 : Int) < (len : Int)) = true := by simp; omega
      repeat' (first
        | ((with_reducible refine nrm ?_); try simp (implicitDefEqProofs := false) (dsimp := false) (disch := first | assumption | omega) only [go_sem, Int.reduceAdd, Int.reduceSub, Int.reduceMul, Int.reduceNeg, Int.reduceLT, Int.reduceLE, Int.reduceEq, Int.reduceNe, Int.reduceToNat, Int.reduceMod, Int.reduceDiv, Int.reducePow, Nat.reduceAdd, Nat.reduceSub, Nat.reduceMul, Nat.reduceLT, Nat.reduceLeDiff, Nat.reduceEqDiff, Nat.reduceMod, Nat.reduceDiv, Nat.reducePow, reduceCtorEq, ↓reduceIte, wrap_i64, wrap_u8, wrap_u32, wrap_u64, Int.tmod_eq_emod_of_nonneg, Int.tdiv_eq_ediv_of_nonneg, hE2, hT, hB2, hh1, hh2, hX, hD])
        | (with_reducible refine sem_seqK fun K => ?_)
        | (with_reducible refine kt_f _ ?_)
        | (with_reducible refine regionN cxOk ?_)
        | (with_reducible refine drawN cxOk 4 ?_)
        | ((with_reducible refine chk_by ?_); decide +kernel)
        | (with_reducible refine retN ?_)
        | (with_reducible refine skipN ?_)
        | (with_reducible refine exitN ?_)
        | (with_reducible refine sem_block ?_)
        | (with_reducible refine condN ?_)
        | (with_reducible refine condD_true ?_)
        | (with_reducible refine condD_false ?_)
        | (with_reducible refine condNq (fun hc => ?_) ?_)
        | (with_reducible refine condPN (by simp only [go_sem]; rfl) (by simp only [go_sem]; rfl) (fun hc => ?_) (fun hc => ?_))
        | (with_reducible refine condNN (by simp only [go_sem]; rfl) (by simp only [go_sem]; rfl) (fun hc => ?_) (fun hc => ?_))
        | (with_reducible refine condBN (by simp only [go_sem]; rfl) (by simp only [go_sem]; rfl) (fun hc => ?_) (fun hc => ?_) <;> (try simp only [Bool.not_eq_eq_eq_not, Bool.not_true, Bool.not_false, Bool.and_eq_true, Bool.and_eq_false_imp, Bool.or_eq_true, Bool.or_eq_false_iff, decide_eq_true_eq, decide_eq_false_iff_not] at hc))
        | (with_reducible apply callN)
        | (with_reducible apply callRN [])
        | ((with_reducible refine nrmE ?_); (simp (implicitDefEqProofs := false) (dsimp := false) (disch := first | assumption | omega) only [go_sem, Int.reduceAdd, Int.reduceSub, Int.reduceMul, Int.reduceNeg, Int.reduceLT, Int.reduceLE, Int.reduceEq, Int.reduceNe, Int.reduceToNat, Int.reduceMod, Int.reduceDiv, Int.reducePow, Nat.reduceAdd, Nat.reduceSub, Nat.reduceMul, Nat.reduceLT, Nat.reduceLeDiff, Nat.reduceEqDiff, Nat.reduceMod, Nat.reduceDiv, Nat.reducePow, reduceCtorEq, ↓reduceIte, wrap_i64, wrap_u8, wrap_u32, wrap_u64, Int.tmod_eq_emod_of_nonneg, Int.tdiv_eq_ediv_of_nonneg, hE2, hT, hB2, hh1, hh2, hX, hD]) <;> rfl)
        | apply c_big
        | apply c_pick
        | apply c_RingPop
        | apply c_RingList
        | apply c_same
        | apply c_specRingOk
        | apply c_RingOk
        | (with_reducible refine aft_intro ?_ (fun hc => ?_))
        | (with_reducible refine imp_intro' (fun hc => ?_))
        | (with_reducible refine And.intro ?_ ?_)
        | (with_reducible intro hc)
        | (with_reducible assumption)
        | omega
        | (with_reducible refine Int.emod_nonneg _ ?_)
        | (with_reducible refine Int.emod_lt_of_pos _ ?_))
      · focus (refine loop_next (k + 1, hd + 1, tl, popXs hd xs, A, off + 1, len - 1) [] [3, 1, 2] [true, false, false, true, true, false, true, true, false, false, false, false, false, false, false, false, false, false, false, false, false, false, false, false, false, false, false, false, false, false, false, false, false, false, false, false, false, false, false, false, false, false, false, false, false, false, false, false, false, false, false, false, false, false, false, false, false, false, false, false, false, false, false, false, false, false, false, false, false, false, false, false, false, false, false, false, false, false, false, false, false, false, false, false, false, false, false, false, false, false, false, false, false, false, false, false, false, false, false, false, false, false, false, false, false, false, false, false, false, false] rfl ?_ ?_ ?_; (try (first | rfl | (simp (implicitDefEqProofs := false) (dsimp := false) only [go_sem, Int.reduceAdd, Int.reduceSub, Int.reduceMul, Int.reduceNeg, Int.reduceLT, Int.reduceLE, Int.reduceEq, Int.reduceNe, Int.reduceToNat, Int.reduceMod, Int.reduceDiv, Int.reducePow, Nat.reduceAdd, Nat.reduceSub, Nat.reduceMul, Nat.reduceLT, Nat.reduceLeDiff, Nat.reduceEqDiff, Nat.reduceMod, Nat.reduceDiv, Nat.reducePow, reduceCtorEq, ↓reduceIte, St.mk.injEq, List.cons.injEq, AV.v.injEq, Value.int.injEq, AV.sl.injEq, Option.some.injEq, Ob.mk.injEq, true_and, and_true, Int.natCast_add, Int.cast_ofNat_Int, hx2]; omega) | (simp (implicitDefEqProofs := false) (dsimp := false) only [go_sem, Int.reduceAdd, Int.reduceSub, Int.reduceMul, Int.reduceNeg, Int.reduceLT, Int.reduceLE, Int.reduceEq, Int.reduceNe, Int.reduceToNat, Int.reduceMod, Int.reduceDiv, Int.reducePow, Nat.reduceAdd, Nat.reduceSub, Nat.reduceMul, Nat.reduceLT, Nat.reduceLeDiff, Nat.reduceEqDiff, Nat.reduceMod, Nat.reduceDiv, Nat.reducePow, reduceCtorEq, ↓reduceIte, St.mk.injEq, List.cons.injEq, AV.v.injEq, Value.int.injEq, AV.sl.injEq, Option.some.injEq, Ob.mk.injEq, true_and, and_true, Int.natCast_add, Int.cast_ofNat_Int, hx2]; done) | (simp (implicitDefEqProofs := false) (dsimp := false) only [go_sem, Int.reduceAdd, Int.reduceSub, Int.reduceMul, Int.reduceNeg, Int.reduceLT, Int.reduceLE, Int.reduceEq, Int.reduceNe, Int.reduceToNat, Int.reduceMod, Int.reduceDiv, Int.reducePow, Nat.reduceAdd, Nat.reduceSub, Nat.reduceMul, Nat.reduceLT, Nat.reduceLeDiff, Nat.reduceEqDiff, Nat.reduceMod, Nat.reduceDiv, Nat.reducePow, reduceCtorEq, ↓reduceIte, St.mk.injEq, List.cons.injEq, AV.v.injEq, Value.int.injEq, AV.sl.injEq, Option.some.injEq, Ob.mk.injEq, true_and, and_true, Int.natCast_add, Int.cast_ofNat_Int, hx2]))); all_goals try (first | omega | (simp only; omega)); all_goals (try dsimp only))
        dsimp only
        exact ⟨by omega, by omega, hr2, by omega, by omega, by omega, hh2, by omega⟩
      · focus (refine body_ret [] [] rfl rfl ?_ ?_; all_goals (first | (with_reducible rfl) | (simp (implicitDefEqProofs := false) (dsimp := false) (disch := first | assumption | omega) only [go_sem, Int.reduceAdd, Int.reduceSub, Int.reduceMul, Int.reduceNeg, Int.reduceLT, Int.reduceLE, Int.reduceEq, Int.reduceNe, Int.reduceToNat, Int.reduceMod, Int.reduceDiv, Int.reducePow, Nat.reduceAdd, Nat.reduceSub, Nat.reduceMul, Nat.reduceLT, Nat.reduceLeDiff, Nat.reduceEqDiff, Nat.reduceMod, Nat.reduceDiv, Nat.reducePow, reduceCtorEq, ↓reduceIte, wrap_i64, wrap_u8, wrap_u32, wrap_u64, Int.tmod_eq_emod_of_nonneg, Int.tdiv_eq_ediv_of_nonneg]) | skip))


end SA
