import Derived.Test.YtokpejlicanbmaaSTy
set_option linter.all false
set_option linter.unusedSimpArgs false
set_option linter.unusedVariables false
set_option maxRecDepth 100000
set_option maxHeartbeats 1000000
open Go Am TyA Go.Proofs
attribute [local irreducible] Beh Con
namespace SA

theorem c_within (a l h : Int) : Con Try.prog 65 [(.v (.int .i64 (a))), (.v (.int .i64 (l))), (.v (.int .i64 (h)))] [] ((.v (.bool (decide (l ≤ a) && decide (a ≤ h))))) [] := by
  refine con_of_body (C := cxOf Try.prog) cxOk [(6, none)] Try.func65 rfl rfl rfl ?_
  simp only [Try.ntmps65, List.length_cons, List.length_nil, Nat.reduceAdd, Nat.reduceSub, List.replicate, List.cons_append, List.nil_append, List.append_nil]
  repeat' (first
    | ((with_reducible refine nrm ?_); try simp (implicitDefEqProofs := false) (dsimp := false) (disch := first | assumption | omega) only [go_sem, Int.reduceAdd, Int.reduceSub, Int.reduceMul, Int.reduceNeg, Int.reduceLT, Int.reduceLE, Int.reduceEq, Int.reduceNe, Int.reduceToNat, Int.reduceMod, Int.reduceDiv, Int.reducePow, Nat.reduceAdd, Nat.reduceSub, Nat.reduceMul, Nat.reduceLT, Nat.reduceLeDiff, Nat.reduceEqDiff, Nat.reduceMod, Nat.reduceDiv, Nat.reducePow, reduceCtorEq, ↓reduceIte, wrap_i64, wrap_u8, wrap_u32, wrap_u64, Int.tmod_eq_emod_of_nonneg, Int.tdiv_eq_ediv_of_nonneg])
    | (with_reducible refine sem_seqK fun K => ?_)
    | (with_reducible refine kt_f _ ?_)
    | (with_reducible refine regionN cxOk ?_)
    | (with_reducible refine drawN cxOk 4 ?_)
    | (with_reducible refine retN ?_)
    | (with_reducible refine skipN ?_)
    | (with_reducible refine exitN ?_)
    | (with_reducible refine sem_block ?_)
    | (with_reducible refine condN ?_)
    | (with_reducible refine condD_true ?_)
    | (with_reducible refine condD_false ?_)
    | (with_reducible refine condNq (fun hc => ?_) ?_)
    | (with_reducible refine condPN (by simp only [go_sem]; rfl) (by simp only [go_sem]; rfl) (fun hc => ?_) (fun hc => ?_))
    | (with_reducible refine condNN (by simp only [go_sem]; rfl) (by simp only [go_sem]; rfl) (fun hc => ?_) (fun hc => ?_))
    | (with_reducible refine condBN (by simp only [go_sem]; rfl) (by simp only [go_sem]; rfl) (fun hc => ?_) (fun hc => ?_) <;> (try simp only [Bool.not_eq_eq_eq_not, Bool.not_true, Bool.not_false, Bool.and_eq_true, Bool.and_eq_false_imp, Bool.or_eq_true, Bool.or_eq_false_iff, decide_eq_true_eq, decide_eq_false_iff_not] at hc))
    | ((with_reducible refine chk_by ?_); decide +kernel)
    | (with_reducible refine aft_intro ?_ (fun hc => ?_))
    | (with_reducible refine imp_intro' (fun hc => ?_))
    | (with_reducible refine And.intro ?_ ?_)
    | (with_reducible intro hc)
    | (with_reducible assumption)
    | omega
    | (with_reducible refine Int.emod_nonneg _ ?_)
    | (with_reducible refine Int.emod_lt_of_pos _ ?_))

  all_goals focus (refine body_ret [] [] rfl rfl ?_ ?_; all_goals (first | (with_reducible rfl) | (simp (implicitDefEqProofs := false) (dsimp := false) (disch := first | assumption | omega) only [go_sem, Int.reduceAdd, Int.reduceSub, Int.reduceMul, Int.reduceNeg, Int.reduceLT, Int.reduceLE, Int.reduceEq, Int.reduceNe, Int.reduceToNat, Int.reduceMod, Int.reduceDiv, Int.reducePow, Nat.reduceAdd, Nat.reduceSub, Nat.reduceMul, Nat.reduceLT, Nat.reduceLeDiff, Nat.reduceEqDiff, Nat.reduceMod, Nat.reduceDiv, Nat.reducePow, reduceCtorEq, ↓reduceIte, wrap_i64, wrap_u8, wrap_u32, wrap_u64, Int.tmod_eq_emod_of_nonneg, Int.tdiv_eq_ediv_of_nonneg]) | skip))
  all_goals simp [*]

theorem c_big (b : Bool) (code : List Int) : Con Try.prog 13 [.bor b (code.map (cI .u8))] [] ((.v (.bool (decide (1048576 < (code.length : Int)))))) [] := by
  refine con_of_body (C := cxOf Try.prog) cxOk [(2, none)] Try.func13 rfl rfl rfl ?_
  simp only [Try.ntmps13, List.length_cons, List.length_nil, Nat.reduceAdd, Nat.reduceSub, List.replicate, List.cons_append, List.nil_append, List.append_nil]
  repeat' (first
    | ((with_reducible refine nrm ?_); try simp (implicitDefEqProofs := false) (dsimp := false) (disch := first | assumption | omega) only [go_sem, Int.reduceAdd, Int.reduceSub, Int.reduceMul, Int.reduceNeg, Int.reduceLT, Int.reduceLE, Int.reduceEq, Int.reduceNe, Int.reduceToNat, Int.reduceMod, Int.reduceDiv, Int.reducePow, Nat.reduceAdd, Nat.reduceSub, Nat.reduceMul, Nat.reduceLT, Nat.reduceLeDiff, Nat.reduceEqDiff, Nat.reduceMod, Nat.reduceDiv, Nat.reducePow, reduceCtorEq, ↓reduceIte, wrap_i64, wrap_u8, wrap_u32, wrap_u64, Int.tmod_eq_emod_of_nonneg, Int.tdiv_eq_ediv_of_nonneg])
    | (with_reducible refine sem_seqK fun K => ?_)
    | (with_reducible refine kt_f _ ?_)
    | (with_reducible refine regionN cxOk ?_)
    | (with_reducible refine drawN cxOk 4 ?_)
    | (with_reducible refine retN ?_)
    | (with_reducible refine skipN ?_)
    | (with_reducible refine exitN ?_)
    | (with_reducible refine sem_block ?_)
    | (with_reducible refine condN ?_)
    | (with_reducible refine condD_true ?_)
    | (with_reducible refine condD_false ?_)
    | (with_reducible refine condNq (fun hc => ?_) ?_)
    | (with_reducible refine condPN (by simp only [go_sem]; rfl) (by simp only [go_sem]; rfl) (fun hc => ?_) (fun hc => ?_))
    | (with_reducible refine condNN (by simp only [go_sem]; rfl) (by simp only [go_sem]; rfl) (fun hc => ?_) (fun hc => ?_))
    | (with_reducible refine condBN (by simp only [go_sem]; rfl) (by simp only [go_sem]; rfl) (fun hc => ?_) (fun hc => ?_) <;> (try simp only [Bool.not_eq_eq_eq_not, Bool.not_true, Bool.not_false, Bool.and_eq_true, Bool.and_eq_false_imp, Bool.or_eq_true, Bool.or_eq_false_iff, decide_eq_true_eq, decide_eq_false_iff_not] at hc))
    | ((with_reducible refine chk_by ?_); decide +kernel)
    | (with_reducible refine aft_intro ?_ (fun hc => ?_))
    | (with_reducible refine imp_intro' (fun hc => ?_))
    | (with_reducible refine And.intro ?_ ?_)
    | (with_reducible intro hc)
    | (with_reducible assumption)
    | omega
    | (with_reducible refine Int.emod_nonneg _ ?_)
    | (with_reducible refine Int.emod_lt_of_pos _ ?_))
  all_goals focus (refine body_ret [] [] rfl rfl ?_ ?_; all_goals (first | (with_reducible rfl) | (simp (implicitDefEqProofs := false) (dsimp := false) (disch := first | assumption | omega) only [go_sem, Int.reduceAdd, Int.reduceSub, Int.reduceMul, Int.reduceNeg, Int.reduceLT, Int.reduceLE, Int.reduceEq, Int.reduceNe, Int.reduceToNat, Int.reduceMod, Int.reduceDiv, Int.reducePow, Nat.reduceAdd, Nat.reduceSub, Nat.reduceMul, Nat.reduceLT, Nat.reduceLeDiff, Nat.reduceEqDiff, Nat.reduceMod, Nat.reduceDiv, Nat.reducePow, reduceCtorEq, ↓reduceIte, wrap_i64, wrap_u8, wrap_u32, wrap_u64, Int.tmod_eq_emod_of_nonneg, Int.tdiv_eq_ediv_of_nonneg]) | skip))

def byteAt (code : List Int) (j : Int) : Int := code.getD (j % code.length).toNat 0
def mixN (code : List Int) (a : Int) : Nat → Int
  | 0 => 0
  | k + 1 => 31 * mixN code a k + byteAt code (a + k)
def pickF (code : List Int) (a n : Int) : Int := if code.length = 0 ∨ n < 2 then 0 else (mixN code a 3 + a) % n
def Bytes (xs : List Int) : Prop := ∀ b ∈ xs, 0 ≤ b ∧ b < 256
theorem byteAt_bd {code : List Int} (hc : Bytes code) (j : Int) : 0 ≤ byteAt code j ∧ byteAt code j < 256 := byte_getD hc _
theorem mixN_bd {code : List Int} (hc : Bytes code) (a : Int) (k : Nat) (hk : k ≤ 3) : 0 ≤ mixN code a k ∧ mixN code a k < 262144 := by
  have h0 := byteAt_bd hc (a + (0 : Nat))
  have h1 := byteAt_bd hc (a + (1 : Nat))
  have h2 := byteAt_bd hc (a + (2 : Nat))
  have hk : k = 0 ∨ k = 1 ∨ k = 2 ∨ k = 3 := by omega
  rcases hk with rfl | rfl | rfl | rfl
  all_goals simp only [mixN] at *
  all_goals omega
theorem pickF_bd {code : List Int} {a n : Int} (hn : 1 ≤ n) : 0 ≤ pickF code a n ∧ pickF code a n < n := by
  unfold pickF
  split
  · omega
  · exact ⟨Int.emod_nonneg _ (by omega), Int.emod_lt_of_pos _ (by omega)⟩

theorem c_pick (b : Bool) (code : List Int) (a n : Int) (hB : Bytes code) (hl : code.length ≤ 1048576) (ha : 0 ≤ a) (ha2 : a < 1000000000) :
    Con Try.prog 14 [.bor b (code.map (cI .u8)), (.v (.int .i64 (a))), (.v (.int .i64 (n)))] [] ((.v (.int .i64 (pickF code a n)))) [] := by
  refine con_of_body (C := cxOf Try.prog) cxOk [(6, none)] Try.func14 rfl rfl rfl ?_
  simp only [Try.ntmps14, List.length_cons, List.length_nil, Nat.reduceAdd, Nat.reduceSub, List.replicate, List.cons_append, List.nil_append, List.append_nil]
  repeat' (first
    | ((with_reducible refine nrm ?_); try simp (implicitDefEqProofs := false) (dsimp := false) (disch := first | assumption | omega) only [go_sem, Int.reduceAdd, Int.reduceSub, Int.reduceMul, Int.reduceNeg, Int.reduceLT, Int.reduceLE, Int.reduceEq, Int.reduceNe, Int.reduceToNat, Int.reduceMod, Int.reduceDiv, Int.reducePow, Nat.reduceAdd, Nat.reduceSub, Nat.reduceMul, Nat.reduceLT, Nat.reduceLeDiff, Nat.reduceEqDiff, Nat.reduceMod, Nat.reduceDiv, Nat.reducePow, reduceCtorEq, ↓reduceIte, wrap_i64, wrap_u8, wrap_u32, wrap_u64, Int.tmod_eq_emod_of_nonneg, Int.tdiv_eq_ediv_of_nonneg])
    | (with_reducible refine sem_seqK fun K => ?_)
    | (with_reducible refine kt_f _ ?_)
    | (with_reducible refine regionN cxOk ?_)
    | (with_reducible refine drawN cxOk 4 ?_)
    | (with_reducible refine retN ?_)
    | (with_reducible refine skipN ?_)
    | (with_reducible refine exitN ?_)
    | (with_reducible refine sem_block ?_)
    | (with_reducible refine condN ?_)
    | (with_reducible refine condD_true ?_)
    | (with_reducible refine condD_false ?_)
    | (with_reducible refine condNq (fun hc => ?_) ?_)
    | (with_reducible refine condPN (by simp only [go_sem]; rfl) (by simp only [go_sem]; rfl) (fun hc => ?_) (fun hc => ?_))
    | (with_reducible refine condNN (by simp only [go_sem]; rfl) (by simp only [go_sem]; rfl) (fun hc => ?_) (fun hc => ?_))
    | (with_reducible refine condBN (by simp only [go_sem]; rfl) (by simp only [go_sem]; rfl) (fun hc => ?_) (fun hc => ?_) <;> (try simp only [Bool.not_eq_eq_eq_not, Bool.not_true, Bool.not_false, Bool.and_eq_true, Bool.and_eq_false_imp, Bool.or_eq_true, Bool.or_eq_false_iff, decide_eq_true_eq, decide_eq_false_iff_not] at hc))
    | ((with_reducible refine chk_by ?_); decide +kernel)
    | (with_reducible refine aft_intro ?_ (fun hc => ?_))
    | (with_reducible refine imp_intro' (fun hc => ?_))
    | (with_reducible refine And.intro ?_ ?_)
    | (with_reducible intro hc)
    | (with_reducible assumption)
    | omega
    | (with_reducible refine Int.emod_nonneg _ ?_)
    | (with_reducible refine Int.emod_lt_of_pos _ ?_))
  · focus (refine body_ret [] [] rfl rfl ?_ ?_; all_goals (first | (with_reducible rfl) | (simp (implicitDefEqProofs := false) (dsimp := false) (disch := first | assumption | omega) only [go_sem, Int.reduceAdd, Int.reduceSub, Int.reduceMul, Int.reduceNeg, Int.reduceLT, Int.reduceLE, Int.reduceEq, Int.reduceNe, Int.reduceToNat, Int.reduceMod, Int.reduceDiv, Int.reducePow, Nat.reduceAdd, Nat.reduceSub, Nat.reduceMul, Nat.reduceLT, Nat.reduceLeDiff, Nat.reduceEqDiff, Nat.reduceMod, Nat.reduceDiv, Nat.reducePow, reduceCtorEq, ↓reduceIte, wrap_i64, wrap_u8, wrap_u32, wrap_u64, Int.tmod_eq_emod_of_nonneg, Int.tdiv_eq_ediv_of_nonneg]) | skip))
    rw [pickF, if_pos (.inr hc)]
  · refine sem_loopF (α := Nat) [] [] [true, true, true, false, false, false, false, true, true, false, false, false, false, false, false, false, false, false, false, false, false, false, false, false, false, false, false, false, false, false, false, false, false, false, false, false, false, false] (fun k => k ≤ 3) (fun k S => ⟨((S.t).set 7 ((.v (.int .i64 (mixN code a k))))).set 8 ((.v (.int .i64 (k)))), S.h⟩) (fun k => 3 - k) (0) rfl (by simp only [go_sem, Int.reduceAdd, Int.reduceSub, Int.reduceMul, Int.reduceNeg, Int.reduceLT, Int.reduceLE, Int.reduceEq, Int.reduceNe, Int.reduceToNat, Int.reduceMod, Int.reduceDiv, Int.reducePow, Nat.reduceAdd, Nat.reduceSub, Nat.reduceMul, Nat.reduceLT, Nat.reduceLeDiff, Nat.reduceEqDiff, Nat.reduceMod, Nat.reduceDiv, Nat.reducePow, reduceCtorEq, ↓reduceIte]; rfl) ?_ ?_ ?_
    · rfl
    · simp
    rintro k hI
    try simp only at hI
    simp only [go_sem, Int.reduceAdd, Int.reduceSub, Int.reduceMul, Int.reduceNeg, Int.reduceLT, Int.reduceLE, Int.reduceEq, Int.reduceNe, Int.reduceToNat, Int.reduceMod, Int.reduceDiv, Int.reducePow, Nat.reduceAdd, Nat.reduceSub, Nat.reduceMul, Nat.reduceLT, Nat.reduceLeDiff, Nat.reduceEqDiff, Nat.reduceMod, Nat.reduceDiv, Nat.reducePow, reduceCtorEq, ↓reduceIte]
    have hk : 0 ≤ mixN code a k ∧ mixN code a k < 262144 := mixN_bd hB a k hI
    have hb := byteAt_bd hB (a + k)
    have hg : (code.getD ((a + k) % code.length).toNat 0) = byteAt code (a + k) := rfl
    repeat' (first
      | ((with_reducible refine nrm ?_); try simp (implicitDefEqProofs := false) (dsimp := false) (disch := first | assumption | omega) only [go_sem, Int.reduceAdd, Int.reduceSub, Int.reduceMul, Int.reduceNeg, Int.reduceLT, Int.reduceLE, Int.reduceEq, Int.reduceNe, Int.reduceToNat, Int.reduceMod, Int.reduceDiv, Int.reducePow, Nat.reduceAdd, Nat.reduceSub, Nat.reduceMul, Nat.reduceLT, Nat.reduceLeDiff, Nat.reduceEqDiff, Nat.reduceMod, Nat.reduceDiv, Nat.reducePow, reduceCtorEq, ↓reduceIte, wrap_i64, wrap_u8, wrap_u32, wrap_u64, Int.tmod_eq_emod_of_nonneg, Int.tdiv_eq_ediv_of_nonneg])
      | (with_reducible refine sem_seqK fun K => ?_)
      | (with_reducible refine kt_f _ ?_)
      | (with_reducible refine regionN cxOk ?_)
      | (with_reducible refine drawN cxOk 4 ?_)
      | (with_reducible refine retN ?_)
      | (with_reducible refine skipN ?_)
      | (with_reducible refine exitN ?_)
      | (with_reducible refine sem_block ?_)
      | (with_reducible refine condN ?_)
      | (with_reducible refine condD_true ?_)
      | (with_reducible refine condD_false ?_)
      | (with_reducible refine condNq (fun hc => ?_) ?_)
      | (with_reducible refine condPN (by simp only [go_sem]; rfl) (by simp only [go_sem]; rfl) (fun hc => ?_) (fun hc => ?_))
      | (with_reducible refine condNN (by simp only [go_sem]; rfl) (by simp only [go_sem]; rfl) (fun hc => ?_) (fun hc => ?_))
      | (with_reducible refine condBN (by simp only [go_sem]; rfl) (by simp only [go_sem]; rfl) (fun hc => ?_) (fun hc => ?_) <;> (try simp only [Bool.not_eq_eq_eq_not, Bool.not_true, Bool.not_false, Bool.and_eq_true, Bool.and_eq_false_imp, Bool.or_eq_true, Bool.or_eq_false_iff, decide_eq_true_eq, decide_eq_false_iff_not] at hc))
      | ((with_reducible refine chk_by ?_); decide +kernel)
      | (with_reducible refine aft_intro ?_ (fun hc => ?_))
      | (with_reducible refine imp_intro' (fun hc => ?_))
      | (with_reducible refine And.intro ?_ ?_)
      | (with_reducible intro hc)
      | (with_reducible assumption)
      | omega
      | (with_reducible refine Int.emod_nonneg _ ?_)
      | (with_reducible refine Int.emod_lt_of_pos _ ?_))
    · focus (refine loop_next (k + 1) [] [] [true, true, true, false, false, false, false, true, true, false, false, false, false, false, false, false, false, false, false, false, false, false, false, false, false, false, false, false, false, false, false, false, false, false, false, false, false, false] rfl ?_ ?_ ?_; (try (first | rfl | (simp (implicitDefEqProofs := false) (dsimp := false) only [go_sem, Int.reduceAdd, Int.reduceSub, Int.reduceMul, Int.reduceNeg, Int.reduceLT, Int.reduceLE, Int.reduceEq, Int.reduceNe, Int.reduceToNat, Int.reduceMod, Int.reduceDiv, Int.reducePow, Nat.reduceAdd, Nat.reduceSub, Nat.reduceMul, Nat.reduceLT, Nat.reduceLeDiff, Nat.reduceEqDiff, Nat.reduceMod, Nat.reduceDiv, Nat.reducePow, reduceCtorEq, ↓reduceIte, St.mk.injEq, List.cons.injEq, AV.v.injEq, Value.int.injEq, AV.sl.injEq, Option.some.injEq, Ob.mk.injEq, true_and, and_true, Int.natCast_add, Int.cast_ofNat_Int]; omega) | (simp (implicitDefEqProofs := false) (dsimp := false) only [go_sem, Int.reduceAdd, Int.reduceSub, Int.reduceMul, Int.reduceNeg, Int.reduceLT, Int.reduceLE, Int.reduceEq, Int.reduceNe, Int.reduceToNat, Int.reduceMod, Int.reduceDiv, Int.reducePow, Nat.reduceAdd, Nat.reduceSub, Nat.reduceMul, Nat.reduceLT, Nat.reduceLeDiff, Nat.reduceEqDiff, Nat.reduceMod, Nat.reduceDiv, Nat.reducePow, reduceCtorEq, ↓reduceIte, St.mk.injEq, List.cons.injEq, AV.v.injEq, Value.int.injEq, AV.sl.injEq, Option.some.injEq, Ob.mk.injEq, true_and, and_true, Int.natCast_add, Int.cast_ofNat_Int]; done) | (simp (implicitDefEqProofs := false) (dsimp := false) only [go_sem, Int.reduceAdd, Int.reduceSub, Int.reduceMul, Int.reduceNeg, Int.reduceLT, Int.reduceLE, Int.reduceEq, Int.reduceNe, Int.reduceToNat, Int.reduceMod, Int.reduceDiv, Int.reducePow, Nat.reduceAdd, Nat.reduceSub, Nat.reduceMul, Nat.reduceLT, Nat.reduceLeDiff, Nat.reduceEqDiff, Nat.reduceMod, Nat.reduceDiv, Nat.reducePow, reduceCtorEq, ↓reduceIte, St.mk.injEq, List.cons.injEq, AV.v.injEq, Value.int.injEq, AV.sl.injEq, Option.some.injEq, Ob.mk.injEq, true_and, and_true, Int.natCast_add, Int.cast_ofNat_Int]))); all_goals try (first | omega | (simp only; omega)); all_goals (try dsimp only))
    · focus (refine body_ret [] [] rfl rfl ?_ ?_; all_goals (first | (with_reducible rfl) | (simp (implicitDefEqProofs := false) (dsimp := false) (disch := first | assumption | omega) only [go_sem, Int.reduceAdd, Int.reduceSub, Int.reduceMul, Int.reduceNeg, Int.reduceLT, Int.reduceLE, Int.reduceEq, Int.reduceNe, Int.reduceToNat, Int.reduceMod, Int.reduceDiv, Int.reducePow, Nat.reduceAdd, Nat.reduceSub, Nat.reduceMul, Nat.reduceLT, Nat.reduceLeDiff, Nat.reduceEqDiff, Nat.reduceMod, Nat.reduceDiv, Nat.reducePow, reduceCtorEq, ↓reduceIte, wrap_i64, wrap_u8, wrap_u32, wrap_u64, Int.tmod_eq_emod_of_nonneg, Int.tdiv_eq_ediv_of_nonneg]) | skip))
      obtain rfl : k = 3 := by omega
      rw [pickF, if_neg (by omega)]
  · focus (refine body_ret [] [] rfl rfl ?_ ?_; all_goals (first | (with_reducible rfl) | (simp (implicitDefEqProofs := false) (dsimp := false) (disch := first | assumption | omega) only [go_sem, Int.reduceAdd, Int.reduceSub, Int.reduceMul, Int.reduceNeg, Int.reduceLT, Int.reduceLE, Int.reduceEq, Int.reduceNe, Int.reduceToNat, Int.reduceMod, Int.reduceDiv, Int.reducePow, Nat.reduceAdd, Nat.reduceSub, Nat.reduceMul, Nat.reduceLT, Nat.reduceLeDiff, Nat.reduceEqDiff, Nat.reduceMod, Nat.reduceDiv, Nat.reducePow, reduceCtorEq, ↓reduceIte, wrap_i64, wrap_u8, wrap_u32, wrap_u64, Int.tmod_eq_emod_of_nonneg, Int.tdiv_eq_ediv_of_nonneg]) | skip))
    rw [pickF, if_pos (.inl (by omega))]


end SA
