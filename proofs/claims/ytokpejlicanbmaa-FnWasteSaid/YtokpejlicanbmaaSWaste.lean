import Derived.Test.YtokpejlicanbmaaSTy
import Derived.Test.YtokpejlicanbmaaSBasic
import Derived.Test.YtokpejlicanbmaaSCursor
set_option linter.all false
set_option linter.unusedSimpArgs false
set_option linter.unusedVariables false
set_option maxRecDepth 100000
set_option maxHeartbeats 1000000
open Go Am TyA Go.Proofs
attribute [local irreducible] Beh Con
namespace SA

-- needs basic cursor
theorem vb {a b : Bool} (h : a = true ↔ b = true) : AV.v (.bool a) = .v (.bool b) := by rw [Bool.eq_iff_iff.2 h]
def chunksFor (a : Int) : Int := if 17 ≤ a ∧ a ≤ 256 then (a + 15) / 16 else 0
def len4 (x : Int) : Int := if x < 1 then 0 else if x < 2 then 1 else if x < 4 then 2 else if x < 8 then 3 else 4
def classOf (a : Int) : Int := if 1 ≤ a ∧ a ≤ 16 then len4 (a - 1) else -1
def classSize (k : Int) : Int := if 0 ≤ k ∧ k ≤ 4 then 2 ^ k.toNat else 0

theorem c_ChunksFor (a : Int) : Con Try.prog 72 [(.v (.int .i64 (a)))] [] ((.v (.int .i64 (chunksFor a)))) [] := by
  refine con_of_body (C := cxOf Try.prog) cxOk [(2, none)] Try.func72 rfl rfl rfl ?_
  simp only [Try.ntmps72, List.length_cons, List.length_nil, Nat.reduceAdd, Nat.reduceSub, List.replicate, List.cons_append, List.nil_append, List.append_nil]
  repeat' (first
    | ((with_reducible refine nrm ?_); try simp (implicitDefEqProofs := false) (dsimp := false) (disch := first | assumption | omega) only [go_sem, Int.reduceAdd, Int.reduceSub, Int.reduceMul, Int.reduceNeg, Int.reduceLT, Int.reduceLE, Int.reduceEq, Int.reduceNe, Int.reduceToNat, Int.reduceMod, Int.reduceDiv, Int.reducePow, Nat.reduceAdd, Nat.reduceSub, Nat.reduceMul, Nat.reduceLT, Nat.reduceLeDiff, Nat.reduceEqDiff, Nat.reduceMod, Nat.reduceDiv, Nat.reducePow, reduceCtorEq, ↓reduceIte, wrap_i64, wrap_u8, wrap_u32, wrap_u64, Int.tmod_eq_emod_of_nonneg, Int.tdiv_eq_ediv_of_nonneg])
    | (with_reducible refine sem_seqK fun K => ?_)
    | (with_reducible refine kt_f _ ?_)
    | (with_reducible refine regionN cxOk ?_)
    | (with_reducible refine drawN cxOk 4 ?_)
    | (with_reducible refine retN ?_)
    | (with_reducible refine skipN ?_)
    | (with_reducible refine exitN ?_)
    | (with_reducible refine sem_block ?_)
    | (with_reducible refine condN ?_)
    | (with_reducible refine condD_true ?_)
    | (with_reducible refine condD_false ?_)
    | (with_reducible refine condNq (fun hc => ?_) ?_)
    | (with_reducible refine condPN (by simp only [go_sem]; rfl) (by simp only [go_sem]; rfl) (fun hc => ?_) (fun hc => ?_))
    | (with_reducible refine condNN (by simp only [go_sem]; rfl) (by simp only [go_sem]; rfl) (fun hc => ?_) (fun hc => ?_))
    | (with_reducible refine condBN (by simp only [go_sem]; rfl) (by simp only [go_sem]; rfl) (fun hc => ?_) (fun hc => ?_) <;> (try simp only [Bool.not_eq_eq_eq_not, Bool.not_true, Bool.not_false, Bool.and_eq_true, Bool.and_eq_false_imp, Bool.or_eq_true, Bool.or_eq_false_iff, decide_eq_true_eq, decide_eq_false_iff_not] at hc))
    | ((with_reducible refine chk_by ?_); decide +kernel)
    | (with_reducible apply callN)
    | (with_reducible apply callRN [])
    | ((with_reducible refine nrmE ?_); (simp (implicitDefEqProofs := false) (dsimp := false) (disch := first | assumption | omega) only [go_sem, Int.reduceAdd, Int.reduceSub, Int.reduceMul, Int.reduceNeg, Int.reduceLT, Int.reduceLE, Int.reduceEq, Int.reduceNe, Int.reduceToNat, Int.reduceMod, Int.reduceDiv, Int.reducePow, Nat.reduceAdd, Nat.reduceSub, Nat.reduceMul, Nat.reduceLT, Nat.reduceLeDiff, Nat.reduceEqDiff, Nat.reduceMod, Nat.reduceDiv, Nat.reducePow, reduceCtorEq, ↓reduceIte, wrap_i64, wrap_u8, wrap_u32, wrap_u64, Int.tmod_eq_emod_of_nonneg, Int.tdiv_eq_ediv_of_nonneg]) <;> rfl)
    | apply c_within
    | (with_reducible refine aft_intro ?_ (fun hc => ?_))
    | (with_reducible refine imp_intro' (fun hc => ?_))
    | (with_reducible refine And.intro ?_ ?_)
    | (with_reducible refine fun d ⟨ha, hc⟩ => ?_)
    | (with_reducible intro hc)
    | (with_reducible assumption)
    | omega
    | (with_reducible refine Int.emod_nonneg _ ?_)
    | (with_reducible refine Int.emod_lt_of_pos _ ?_))
  · focus (refine body_ret [] [] rfl rfl ?_ ?_; all_goals (first | (with_reducible rfl) | (simp (implicitDefEqProofs := false) (dsimp := false) (disch := first | assumption | omega) only [go_sem, Int.reduceAdd, Int.reduceSub, Int.reduceMul, Int.reduceNeg, Int.reduceLT, Int.reduceLE, Int.reduceEq, Int.reduceNe, Int.reduceToNat, Int.reduceMod, Int.reduceDiv, Int.reducePow, Nat.reduceAdd, Nat.reduceSub, Nat.reduceMul, Nat.reduceLT, Nat.reduceLeDiff, Nat.reduceEqDiff, Nat.reduceMod, Nat.reduceDiv, Nat.reducePow, reduceCtorEq, ↓reduceIte, wrap_i64, wrap_u8, wrap_u32, wrap_u64, Int.tmod_eq_emod_of_nonneg, Int.tdiv_eq_ediv_of_nonneg]) | skip))
    rw [chunksFor, if_neg (by omega)]
  · focus (refine body_ret [] [] rfl rfl ?_ ?_; all_goals (first | (with_reducible rfl) | (simp (implicitDefEqProofs := false) (dsimp := false) (disch := first | assumption | omega) only [go_sem, Int.reduceAdd, Int.reduceSub, Int.reduceMul, Int.reduceNeg, Int.reduceLT, Int.reduceLE, Int.reduceEq, Int.reduceNe, Int.reduceToNat, Int.reduceMod, Int.reduceDiv, Int.reducePow, Nat.reduceAdd, Nat.reduceSub, Nat.reduceMul, Nat.reduceLT, Nat.reduceLeDiff, Nat.reduceEqDiff, Nat.reduceMod, Nat.reduceDiv, Nat.reducePow, reduceCtorEq, ↓reduceIte, wrap_i64, wrap_u8, wrap_u32, wrap_u64, Int.tmod_eq_emod_of_nonneg, Int.tdiv_eq_ediv_of_nonneg]) | skip))
    rw [chunksFor, if_pos (by omega), show a + 16 - 1 = a + 15 by omega]

theorem c_isClass (k : Int) : Con Try.prog 115 [(.v (.int .i64 (k)))] [] ((.v (.bool (decide (0 ≤ k) && decide (k ≤ 4))))) [] := by
  refine con_of_body (C := cxOf Try.prog) cxOk [(2, none)] Try.func115 rfl rfl rfl ?_
  simp only [Try.ntmps115, List.length_cons, List.length_nil, Nat.reduceAdd, Nat.reduceSub, List.replicate, List.cons_append, List.nil_append, List.append_nil]
  repeat' (first
    | ((with_reducible refine nrm ?_); try simp (implicitDefEqProofs := false) (dsimp := false) (disch := first | assumption | omega) only [go_sem, Int.reduceAdd, Int.reduceSub, Int.reduceMul, Int.reduceNeg, Int.reduceLT, Int.reduceLE, Int.reduceEq, Int.reduceNe, Int.reduceToNat, Int.reduceMod, Int.reduceDiv, Int.reducePow, Nat.reduceAdd, Nat.reduceSub, Nat.reduceMul, Nat.reduceLT, Nat.reduceLeDiff, Nat.reduceEqDiff, Nat.reduceMod, Nat.reduceDiv, Nat.reducePow, reduceCtorEq, ↓reduceIte, wrap_i64, wrap_u8, wrap_u32, wrap_u64, Int.tmod_eq_emod_of_nonneg, Int.tdiv_eq_ediv_of_nonneg])
    | (with_reducible refine sem_seqK fun K => ?_)
    | (with_reducible refine kt_f _ ?_)
    | (with_reducible refine regionN cxOk ?_)
    | (with_reducible refine drawN cxOk 4 ?_)
    | (with_reducible refine retN ?_)
    | (with_reducible refine skipN ?_)
    | (with_reducible refine exitN ?_)
    | (with_reducible refine sem_block ?_)
    | (with_reducible refine condN ?_)
    | (with_reducible refine condD_true ?_)
    | (with_reducible refine condD_false ?_)
    | (with_reducible refine condNq (fun hc => ?_) ?_)
    | (with_reducible refine condPN (by simp only [go_sem]; rfl) (by simp only [go_sem]; rfl) (fun hc => ?_) (fun hc => ?_))
    | (with_reducible refine condNN (by simp only [go_sem]; rfl) (by simp only [go_sem]; rfl) (fun hc => ?_) (fun hc => ?_))
    | (with_reducible refine condBN (by simp only [go_sem]; rfl) (by simp only [go_sem]; rfl) (fun hc => ?_) (fun hc => ?_) <;> (try simp only [Bool.not_eq_eq_eq_not, Bool.not_true, Bool.not_false, Bool.and_eq_true, Bool.and_eq_false_imp, Bool.or_eq_true, Bool.or_eq_false_iff, decide_eq_true_eq, decide_eq_false_iff_not] at hc))
    | ((with_reducible refine chk_by ?_); decide +kernel)
    | (with_reducible apply callN)
    | (with_reducible apply callRN [])
    | ((with_reducible refine nrmE ?_); (simp (implicitDefEqProofs := false) (dsimp := false) (disch := first | assumption | omega) only [go_sem, Int.reduceAdd, Int.reduceSub, Int.reduceMul, Int.reduceNeg, Int.reduceLT, Int.reduceLE, Int.reduceEq, Int.reduceNe, Int.reduceToNat, Int.reduceMod, Int.reduceDiv, Int.reducePow, Nat.reduceAdd, Nat.reduceSub, Nat.reduceMul, Nat.reduceLT, Nat.reduceLeDiff, Nat.reduceEqDiff, Nat.reduceMod, Nat.reduceDiv, Nat.reducePow, reduceCtorEq, ↓reduceIte, wrap_i64, wrap_u8, wrap_u32, wrap_u64, Int.tmod_eq_emod_of_nonneg, Int.tdiv_eq_ediv_of_nonneg]) <;> rfl)
    | apply c_within
    | (with_reducible refine aft_intro ?_ (fun hc => ?_))
    | (with_reducible refine imp_intro' (fun hc => ?_))
    | (with_reducible refine And.intro ?_ ?_)
    | (with_reducible refine fun d ⟨ha, hc⟩ => ?_)
    | (with_reducible intro hc)
    | (with_reducible assumption)
    | omega
    | (with_reducible refine Int.emod_nonneg _ ?_)
    | (with_reducible refine Int.emod_lt_of_pos _ ?_))
  focus (refine body_ret [] [] rfl rfl ?_ ?_; all_goals (first | (with_reducible rfl) | (simp (implicitDefEqProofs := false) (dsimp := false) (disch := first | assumption | omega) only [go_sem, Int.reduceAdd, Int.reduceSub, Int.reduceMul, Int.reduceNeg, Int.reduceLT, Int.reduceLE, Int.reduceEq, Int.reduceNe, Int.reduceToNat, Int.reduceMod, Int.reduceDiv, Int.reducePow, Nat.reduceAdd, Nat.reduceSub, Nat.reduceMul, Nat.reduceLT, Nat.reduceLeDiff, Nat.reduceEqDiff, Nat.reduceMod, Nat.reduceDiv, Nat.reducePow, reduceCtorEq, ↓reduceIte, wrap_i64, wrap_u8, wrap_u32, wrap_u64, Int.tmod_eq_emod_of_nonneg, Int.tdiv_eq_ediv_of_nonneg]) | skip))

theorem c_l04Class (k : Int) : Con Try.prog 117 [(.v (.int .i64 (k)))] [] ((.v (.bool (decide (0 ≤ k) && decide (k ≤ 4))))) [] := by
  refine con_of_body (C := cxOf Try.prog) cxOk [(2, none)] Try.func117 rfl rfl rfl ?_
  simp only [Try.ntmps117, List.length_cons, List.length_nil, Nat.reduceAdd, Nat.reduceSub, List.replicate, List.cons_append, List.nil_append, List.append_nil]
  repeat' (first
    | ((with_reducible refine nrm ?_); try simp (implicitDefEqProofs := false) (dsimp := false) (disch := first | assumption | omega) only [go_sem, Int.reduceAdd, Int.reduceSub, Int.reduceMul, Int.reduceNeg, Int.reduceLT, Int.reduceLE, Int.reduceEq, Int.reduceNe, Int.reduceToNat, Int.reduceMod, Int.reduceDiv, Int.reducePow, Nat.reduceAdd, Nat.reduceSub, Nat.reduceMul, Nat.reduceLT, Nat.reduceLeDiff, Nat.reduceEqDiff, Nat.reduceMod, Nat.reduceDiv, Nat.reducePow, reduceCtorEq, ↓reduceIte, wrap_i64, wrap_u8, wrap_u32, wrap_u64, Int.tmod_eq_emod_of_nonneg, Int.tdiv_eq_ediv_of_nonneg])
    | (with_reducible refine sem_seqK fun K => ?_)
    | (with_reducible refine kt_f _ ?_)
    | (with_reducible refine regionN cxOk ?_)
    | (with_reducible refine drawN cxOk 4 ?_)
    | (with_reducible refine retN ?_)
    | (with_reducible refine skipN ?_)
    | (with_reducible refine exitN ?_)
    | (with_reducible refine sem_block ?_)
    | (with_reducible refine condN ?_)
    | (with_reducible refine condD_true ?_)
    | (with_reducible refine condD_false ?_)
    | (with_reducible refine condNq (fun hc => ?_) ?_)
    | (with_reducible refine condPN (by simp only [go_sem]; rfl) (by simp only [go_sem]; rfl) (fun hc => ?_) (fun hc => ?_))
    | (with_reducible refine condNN (by simp only [go_sem]; rfl) (by simp only [go_sem]; rfl) (fun hc => ?_) (fun hc => ?_))
    | (with_reducible refine condBN (by simp only [go_sem]; rfl) (by simp only [go_sem]; rfl) (fun hc => ?_) (fun hc => ?_) <;> (try simp only [Bool.not_eq_eq_eq_not, Bool.not_true, Bool.not_false, Bool.and_eq_true, Bool.and_eq_false_imp, Bool.or_eq_true, Bool.or_eq_false_iff, decide_eq_true_eq, decide_eq_false_iff_not] at hc))
    | ((with_reducible refine chk_by ?_); decide +kernel)
    | (with_reducible refine aft_intro ?_ (fun hc => ?_))
    | (with_reducible refine imp_intro' (fun hc => ?_))
    | (with_reducible refine And.intro ?_ ?_)
    | (with_reducible refine fun d ⟨ha, hc⟩ => ?_)
    | (with_reducible intro hc)
    | (with_reducible assumption)
    | omega
    | (with_reducible refine Int.emod_nonneg _ ?_)
    | (with_reducible refine Int.emod_lt_of_pos _ ?_))
  all_goals focus (refine body_ret [] [] rfl rfl ?_ ?_; all_goals (first | (with_reducible rfl) | (simp (implicitDefEqProofs := false) (dsimp := false) (disch := first | assumption | omega) only [go_sem, Int.reduceAdd, Int.reduceSub, Int.reduceMul, Int.reduceNeg, Int.reduceLT, Int.reduceLE, Int.reduceEq, Int.reduceNe, Int.reduceToNat, Int.reduceMod, Int.reduceDiv, Int.reducePow, Nat.reduceAdd, Nat.reduceSub, Nat.reduceMul, Nat.reduceLT, Nat.reduceLeDiff, Nat.reduceEqDiff, Nat.reduceMod, Nat.reduceDiv, Nat.reducePow, reduceCtorEq, ↓reduceIte, wrap_i64, wrap_u8, wrap_u32, wrap_u64, Int.tmod_eq_emod_of_nonneg, Int.tdiv_eq_ediv_of_nonneg]) | skip))
  all_goals exact vb (by simp; omega)

theorem c_specChunksFor (a : Int) : Con Try.prog 76 [(.v (.int .i64 (a)))] [] ((.v (.int .i64 (chunksFor a)))) [] := by
  refine con_of_body (C := cxOf Try.prog) cxOk [(2, none)] Try.func76 rfl rfl rfl ?_
  simp only [Try.ntmps76, List.length_cons, List.length_nil, Nat.reduceAdd, Nat.reduceSub, List.replicate, List.cons_append, List.nil_append, List.append_nil]
  repeat' (first
    | ((with_reducible refine nrm ?_); try simp (implicitDefEqProofs := false) (dsimp := false) (disch := first | assumption | omega) only [go_sem, Int.reduceAdd, Int.reduceSub, Int.reduceMul, Int.reduceNeg, Int.reduceLT, Int.reduceLE, Int.reduceEq, Int.reduceNe, Int.reduceToNat, Int.reduceMod, Int.reduceDiv, Int.reducePow, Nat.reduceAdd, Nat.reduceSub, Nat.reduceMul, Nat.reduceLT, Nat.reduceLeDiff, Nat.reduceEqDiff, Nat.reduceMod, Nat.reduceDiv, Nat.reducePow, reduceCtorEq, ↓reduceIte, wrap_i64, wrap_u8, wrap_u32, wrap_u64, Int.tmod_eq_emod_of_nonneg, Int.tdiv_eq_ediv_of_nonneg])
    | (with_reducible refine sem_seqK fun K => ?_)
    | (with_reducible refine kt_f _ ?_)
    | (with_reducible refine regionN cxOk ?_)
    | (with_reducible refine drawN cxOk 4 ?_)
    | (with_reducible refine retN ?_)
    | (with_reducible refine skipN ?_)
    | (with_reducible refine exitN ?_)
    | (with_reducible refine sem_block ?_)
    | (with_reducible refine condN ?_)
    | (with_reducible refine condD_true ?_)
    | (with_reducible refine condD_false ?_)
    | (with_reducible refine condNq (fun hc => ?_) ?_)
    | (with_reducible refine condPN (by simp only [go_sem]; rfl) (by simp only [go_sem]; rfl) (fun hc => ?_) (fun hc => ?_))
    | (with_reducible refine condNN (by simp only [go_sem]; rfl) (by simp only [go_sem]; rfl) (fun hc => ?_) (fun hc => ?_))
    | (with_reducible refine condBN (by simp only [go_sem]; rfl) (by simp only [go_sem]; rfl) (fun hc => ?_) (fun hc => ?_) <;> (try simp only [Bool.not_eq_eq_eq_not, Bool.not_true, Bool.not_false, Bool.and_eq_true, Bool.and_eq_false_imp, Bool.or_eq_true, Bool.or_eq_false_iff, decide_eq_true_eq, decide_eq_false_iff_not] at hc))
    | ((with_reducible refine chk_by ?_); decide +kernel)
    | (with_reducible refine aft_intro ?_ (fun hc => ?_))
    | (with_reducible refine imp_intro' (fun hc => ?_))
    | (with_reducible refine And.intro ?_ ?_)
    | (with_reducible refine fun d ⟨ha, hc⟩ => ?_)
    | (with_reducible intro hc)
    | (with_reducible assumption)
    | omega
    | (with_reducible refine Int.emod_nonneg _ ?_)
    | (with_reducible refine Int.emod_lt_of_pos _ ?_))
  all_goals focus (refine body_ret [] [] rfl rfl ?_ ?_; all_goals (first | (with_reducible rfl) | (simp (implicitDefEqProofs := false) (dsimp := false) (disch := first | assumption | omega) only [go_sem, Int.reduceAdd, Int.reduceSub, Int.reduceMul, Int.reduceNeg, Int.reduceLT, Int.reduceLE, Int.reduceEq, Int.reduceNe, Int.reduceToNat, Int.reduceMod, Int.reduceDiv, Int.reducePow, Nat.reduceAdd, Nat.reduceSub, Nat.reduceMul, Nat.reduceLT, Nat.reduceLeDiff, Nat.reduceEqDiff, Nat.reduceMod, Nat.reduceDiv, Nat.reducePow, reduceCtorEq, ↓reduceIte, wrap_i64, wrap_u8, wrap_u32, wrap_u64, Int.tmod_eq_emod_of_nonneg, Int.tdiv_eq_ediv_of_nonneg]) | skip))
  all_goals first | rw [chunksFor, if_neg (by omega)] | rw [chunksFor, if_pos (by omega), show a + 16 - 1 = a + 15 by omega]

theorem c_ClassSize (k : Int) : Con Try.prog 74 [(.v (.int .i64 (k)))] [] ((.v (.int .i64 (classSize k)))) [] := by
  refine con_of_body (C := cxOf Try.prog) cxOk [(2, none)] Try.func74 rfl rfl rfl ?_
  simp only [Try.ntmps74, List.length_cons, List.length_nil, Nat.reduceAdd, Nat.reduceSub, List.replicate, List.cons_append, List.nil_append, List.append_nil]
  repeat' (first
    | ((with_reducible refine nrm ?_); try simp (implicitDefEqProofs := false) (dsimp := false) (disch := first | assumption | omega) only [go_sem, Int.reduceAdd, Int.reduceSub, Int.reduceMul, Int.reduceNeg, Int.reduceLT, Int.reduceLE, Int.reduceEq, Int.reduceNe, Int.reduceToNat, Int.reduceMod, Int.reduceDiv, Int.reducePow, Nat.reduceAdd, Nat.reduceSub, Nat.reduceMul, Nat.reduceLT, Nat.reduceLeDiff, Nat.reduceEqDiff, Nat.reduceMod, Nat.reduceDiv, Nat.reducePow, reduceCtorEq, ↓reduceIte, wrap_i64, wrap_u8, wrap_u32, wrap_u64, Int.tmod_eq_emod_of_nonneg, Int.tdiv_eq_ediv_of_nonneg])
    | (with_reducible refine sem_seqK fun K => ?_)
    | (with_reducible refine kt_f _ ?_)
    | (with_reducible refine regionN cxOk ?_)
    | (with_reducible refine drawN cxOk 4 ?_)
    | (with_reducible refine retN ?_)
    | (with_reducible refine skipN ?_)
    | (with_reducible refine exitN ?_)
    | (with_reducible refine sem_block ?_)
    | (with_reducible refine condN ?_)
    | (with_reducible refine condD_true ?_)
    | (with_reducible refine condD_false ?_)
    | (with_reducible refine condNq (fun hc => ?_) ?_)
    | (with_reducible refine condPN (by simp only [go_sem]; rfl) (by simp only [go_sem]; rfl) (fun hc => ?_) (fun hc => ?_))
    | (with_reducible refine condNN (by simp only [go_sem]; rfl) (by simp only [go_sem]; rfl) (fun hc => ?_) (fun hc => ?_))
    | (with_reducible refine condBN (by simp only [go_sem]; rfl) (by simp only [go_sem]; rfl) (fun hc => ?_) (fun hc => ?_) <;> (try simp only [Bool.not_eq_eq_eq_not, Bool.not_true, Bool.not_false, Bool.and_eq_true, Bool.and_eq_false_imp, Bool.or_eq_true, Bool.or_eq_false_iff, decide_eq_true_eq, decide_eq_false_iff_not] at hc))
    | ((with_reducible refine chk_by ?_); decide +kernel)
    | (with_reducible apply callN)
    | (with_reducible apply callRN [])
    | ((with_reducible refine nrmE ?_); (simp (implicitDefEqProofs := false) (dsimp := false) (disch := first | assumption | omega) only [go_sem, Int.reduceAdd, Int.reduceSub, Int.reduceMul, Int.reduceNeg, Int.reduceLT, Int.reduceLE, Int.reduceEq, Int.reduceNe, Int.reduceToNat, Int.reduceMod, Int.reduceDiv, Int.reducePow, Nat.reduceAdd, Nat.reduceSub, Nat.reduceMul, Nat.reduceLT, Nat.reduceLeDiff, Nat.reduceEqDiff, Nat.reduceMod, Nat.reduceDiv, Nat.reducePow, reduceCtorEq, ↓reduceIte, wrap_i64, wrap_u8, wrap_u32, wrap_u64, Int.tmod_eq_emod_of_nonneg, Int.tdiv_eq_ediv_of_nonneg]) <;> rfl)
    | apply c_isClass
    | (with_reducible refine aft_intro ?_ (fun hc => ?_))
    | (with_reducible refine imp_intro' (fun hc => ?_))
    | (with_reducible refine And.intro ?_ ?_)
    | (with_reducible refine fun d ⟨ha, hc⟩ => ?_)
    | (with_reducible intro hc)
    | (with_reducible assumption)
    | omega
    | (with_reducible refine Int.emod_nonneg _ ?_)
    | (with_reducible refine Int.emod_lt_of_pos _ ?_))
  · focus (refine body_ret [] [] rfl rfl ?_ ?_; all_goals (first | (with_reducible rfl) | (simp (implicitDefEqProofs := false) (dsimp := false) (disch := first | assumption | omega) only [go_sem, Int.reduceAdd, Int.reduceSub, Int.reduceMul, Int.reduceNeg, Int.reduceLT, Int.reduceLE, Int.reduceEq, Int.reduceNe, Int.reduceToNat, Int.reduceMod, Int.reduceDiv, Int.reducePow, Nat.reduceAdd, Nat.reduceSub, Nat.reduceMul, Nat.reduceLT, Nat.reduceLeDiff, Nat.reduceEqDiff, Nat.reduceMod, Nat.reduceDiv, Nat.reducePow, reduceCtorEq, ↓reduceIte, wrap_i64, wrap_u8, wrap_u32, wrap_u64, Int.tmod_eq_emod_of_nonneg, Int.tdiv_eq_ediv_of_nonneg]) | skip))
    rw [classSize, if_neg (by omega)]
  · focus (refine body_ret [] [] rfl rfl ?_ ?_; all_goals (first | (with_reducible rfl) | (simp (implicitDefEqProofs := false) (dsimp := false) (disch := first | assumption | omega) only [go_sem, Int.reduceAdd, Int.reduceSub, Int.reduceMul, Int.reduceNeg, Int.reduceLT, Int.reduceLE, Int.reduceEq, Int.reduceNe, Int.reduceToNat, Int.reduceMod, Int.reduceDiv, Int.reducePow, Nat.reduceAdd, Nat.reduceSub, Nat.reduceMul, Nat.reduceLT, Nat.reduceLeDiff, Nat.reduceEqDiff, Nat.reduceMod, Nat.reduceDiv, Nat.reducePow, reduceCtorEq, ↓reduceIte, wrap_i64, wrap_u8, wrap_u32, wrap_u64, Int.tmod_eq_emod_of_nonneg, Int.tdiv_eq_ediv_of_nonneg]) | skip))
    rw [classSize, if_pos (by omega)]
    have : k = 0 ∨ k = 1 ∨ k = 2 ∨ k = 3 ∨ k = 4 := by omega
    rcases this with rfl | rfl | rfl | rfl | rfl <;> rfl

theorem pow_le (n : Nat) (h : n ≤ 16) : (0 : Int) < 2 ^ n ∧ (2 : Int) ^ n ≤ 65536 := by
  have h1 : (2 : Nat) ^ n ≤ 2 ^ 16 := Nat.pow_le_pow_right (by omega) h
  have h2 : 0 < (2 : Nat) ^ n := Nat.pow_pos (by omega)
  have e : ((2 : Int)) ^ n = ((2 ^ n : Nat) : Int) := by simp
  rw [e]
  omega

theorem c_l04Pow (k : Nat) (hk : k ≤ 16) : Con Try.prog 116 [(.v (.int .i64 (k)))] [] ((.v (.int .i64 (2 ^ k)))) [] := by
  refine con_of_body (C := cxOf Try.prog) cxOk [(2, none)] Try.func116 rfl rfl rfl ?_
  simp only [Try.ntmps116, List.length_cons, List.length_nil, Nat.reduceAdd, Nat.reduceSub, List.replicate, List.cons_append, List.nil_append, List.append_nil]
  repeat' (first
    | ((with_reducible refine nrm ?_); try simp (implicitDefEqProofs := false) (dsimp := false) (disch := first | assumption | omega) only [go_sem, Int.reduceAdd, Int.reduceSub, Int.reduceMul, Int.reduceNeg, Int.reduceLT, Int.reduceLE, Int.reduceEq, Int.reduceNe, Int.reduceToNat, Int.reduceMod, Int.reduceDiv, Int.reducePow, Nat.reduceAdd, Nat.reduceSub, Nat.reduceMul, Nat.reduceLT, Nat.reduceLeDiff, Nat.reduceEqDiff, Nat.reduceMod, Nat.reduceDiv, Nat.reducePow, reduceCtorEq, ↓reduceIte, wrap_i64, wrap_u8, wrap_u32, wrap_u64, Int.tmod_eq_emod_of_nonneg, Int.tdiv_eq_ediv_of_nonneg])
    | (with_reducible refine sem_seqK fun K => ?_)
    | (with_reducible refine kt_f _ ?_)
    | (with_reducible refine regionN cxOk ?_)
    | (with_reducible refine drawN cxOk 4 ?_)
    | (with_reducible refine retN ?_)
    | (with_reducible refine skipN ?_)
    | (with_reducible refine exitN ?_)
    | (with_reducible refine sem_block ?_)
    | (with_reducible refine condN ?_)
    | (with_reducible refine condD_true ?_)
    | (with_reducible refine condD_false ?_)
    | (with_reducible refine condNq (fun hc => ?_) ?_)
    | (with_reducible refine condPN (by simp only [go_sem]; rfl) (by simp only [go_sem]; rfl) (fun hc => ?_) (fun hc => ?_))
    | (with_reducible refine condNN (by simp only [go_sem]; rfl) (by simp only [go_sem]; rfl) (fun hc => ?_) (fun hc => ?_))
    | (with_reducible refine condBN (by simp only [go_sem]; rfl) (by simp only [go_sem]; rfl) (fun hc => ?_) (fun hc => ?_) <;> (try simp only [Bool.not_eq_eq_eq_not, Bool.not_true, Bool.not_false, Bool.and_eq_true, Bool.and_eq_false_imp, Bool.or_eq_true, Bool.or_eq_false_iff, decide_eq_true_eq, decide_eq_false_iff_not] at hc))
    | ((with_reducible refine chk_by ?_); decide +kernel)
    | (with_reducible refine aft_intro ?_ (fun hc => ?_))
    | (with_reducible refine imp_intro' (fun hc => ?_))
    | (with_reducible refine And.intro ?_ ?_)
    | (with_reducible refine fun d ⟨ha, hc⟩ => ?_)
    | (with_reducible intro hc)
    | (with_reducible assumption)
    | omega
    | (with_reducible refine Int.emod_nonneg _ ?_)
    | (with_reducible refine Int.emod_lt_of_pos _ ?_))
  refine sem_loopF (α := Nat) [] [] [true, false, false, true, false, false, false, false, false, false, false] (fun n => n ≤ k) (fun n S => ⟨((S.t).set 0 ((.v (.int .i64 (n))))).set 3 ((.v (.int .i64 (2 ^ (k - n))))), S.h⟩) (fun n => n) (k) rfl (by simp only [go_sem, Int.reduceAdd, Int.reduceSub, Int.reduceMul, Int.reduceNeg, Int.reduceLT, Int.reduceLE, Int.reduceEq, Int.reduceNe, Int.reduceToNat, Int.reduceMod, Int.reduceDiv, Int.reducePow, Nat.reduceAdd, Nat.reduceSub, Nat.reduceMul, Nat.reduceLT, Nat.reduceLeDiff, Nat.reduceEqDiff, Nat.reduceMod, Nat.reduceDiv, Nat.reducePow, reduceCtorEq, ↓reduceIte]; rfl) ?_ ?_ ?_
  · simp
  · simp
  rintro n hI
  try simp only at hI
  simp only [go_sem, Int.reduceAdd, Int.reduceSub, Int.reduceMul, Int.reduceNeg, Int.reduceLT, Int.reduceLE, Int.reduceEq, Int.reduceNe, Int.reduceToNat, Int.reduceMod, Int.reduceDiv, Int.reducePow, Nat.reduceAdd, Nat.reduceSub, Nat.reduceMul, Nat.reduceLT, Nat.reduceLeDiff, Nat.reduceEqDiff, Nat.reduceMod, Nat.reduceDiv, Nat.reducePow, reduceCtorEq, ↓reduceIte]
  have hb := pow_le (k - n) (by omega)
  repeat' (first
    | ((with_reducible refine nrm ?_); try simp (implicitDefEqProofs := false) (dsimp := false) (disch := first | assumption | omega) only [go_sem, Int.reduceAdd, Int.reduceSub, Int.reduceMul, Int.reduceNeg, Int.reduceLT, Int.reduceLE, Int.reduceEq, Int.reduceNe, Int.reduceToNat, Int.reduceMod, Int.reduceDiv, Int.reducePow, Nat.reduceAdd, Nat.reduceSub, Nat.reduceMul, Nat.reduceLT, Nat.reduceLeDiff, Nat.reduceEqDiff, Nat.reduceMod, Nat.reduceDiv, Nat.reducePow, reduceCtorEq, ↓reduceIte, wrap_i64, wrap_u8, wrap_u32, wrap_u64, Int.tmod_eq_emod_of_nonneg, Int.tdiv_eq_ediv_of_nonneg])
    | (with_reducible refine sem_seqK fun K => ?_)
    | (with_reducible refine kt_f _ ?_)
    | (with_reducible refine regionN cxOk ?_)
    | (with_reducible refine drawN cxOk 4 ?_)
    | (with_reducible refine retN ?_)
    | (with_reducible refine skipN ?_)
    | (with_reducible refine exitN ?_)
    | (with_reducible refine sem_block ?_)
    | (with_reducible refine condN ?_)
    | (with_reducible refine condD_true ?_)
    | (with_reducible refine condD_false ?_)
    | (with_reducible refine condNq (fun hc => ?_) ?_)
    | (with_reducible refine condPN (by simp only [go_sem]; rfl) (by simp only [go_sem]; rfl) (fun hc => ?_) (fun hc => ?_))
    | (with_reducible refine condNN (by simp only [go_sem]; rfl) (by simp only [go_sem]; rfl) (fun hc => ?_) (fun hc => ?_))
    | (with_reducible refine condBN (by simp only [go_sem]; rfl) (by simp only [go_sem]; rfl) (fun hc => ?_) (fun hc => ?_) <;> (try simp only [Bool.not_eq_eq_eq_not, Bool.not_true, Bool.not_false, Bool.and_eq_true, Bool.and_eq_false_imp, Bool.or_eq_true, Bool.or_eq_false_iff, decide_eq_true_eq, decide_eq_false_iff_not] at hc))
    | ((with_reducible refine chk_by ?_); decide +kernel)
    | (with_reducible refine aft_intro ?_ (fun hc => ?_))
    | (with_reducible refine imp_intro' (fun hc => ?_))
    | (with_reducible refine And.intro ?_ ?_)
    | (with_reducible refine fun d ⟨ha, hc⟩ => ?_)
    | (with_reducible intro hc)
    | (with_reducible assumption)
    | omega
    | (with_reducible refine Int.emod_nonneg _ ?_)
    | (with_reducible refine Int.emod_lt_of_pos _ ?_))
  · focus (refine loop_next (n - 1) [] [] [true, false, false, true, false, false, false, false, false, false, false] rfl ?_ ?_ ?_; (try (first | rfl | (simp (implicitDefEqProofs := false) (dsimp := false) only [go_sem, Int.reduceAdd, Int.reduceSub, Int.reduceMul, Int.reduceNeg, Int.reduceLT, Int.reduceLE, Int.reduceEq, Int.reduceNe, Int.reduceToNat, Int.reduceMod, Int.reduceDiv, Int.reducePow, Nat.reduceAdd, Nat.reduceSub, Nat.reduceMul, Nat.reduceLT, Nat.reduceLeDiff, Nat.reduceEqDiff, Nat.reduceMod, Nat.reduceDiv, Nat.reducePow, reduceCtorEq, ↓reduceIte, St.mk.injEq, List.cons.injEq, AV.v.injEq, Value.int.injEq, AV.sl.injEq, Option.some.injEq, Ob.mk.injEq, true_and, and_true, Int.natCast_add, Int.cast_ofNat_Int]; omega) | (simp (implicitDefEqProofs := false) (dsimp := false) only [go_sem, Int.reduceAdd, Int.reduceSub, Int.reduceMul, Int.reduceNeg, Int.reduceLT, Int.reduceLE, Int.reduceEq, Int.reduceNe, Int.reduceToNat, Int.reduceMod, Int.reduceDiv, Int.reducePow, Nat.reduceAdd, Nat.reduceSub, Nat.reduceMul, Nat.reduceLT, Nat.reduceLeDiff, Nat.reduceEqDiff, Nat.reduceMod, Nat.reduceDiv, Nat.reducePow, reduceCtorEq, ↓reduceIte, St.mk.injEq, List.cons.injEq, AV.v.injEq, Value.int.injEq, AV.sl.injEq, Option.some.injEq, Ob.mk.injEq, true_and, and_true, Int.natCast_add, Int.cast_ofNat_Int]; done) | (simp (implicitDefEqProofs := false) (dsimp := false) only [go_sem, Int.reduceAdd, Int.reduceSub, Int.reduceMul, Int.reduceNeg, Int.reduceLT, Int.reduceLE, Int.reduceEq, Int.reduceNe, Int.reduceToNat, Int.reduceMod, Int.reduceDiv, Int.reducePow, Nat.reduceAdd, Nat.reduceSub, Nat.reduceMul, Nat.reduceLT, Nat.reduceLeDiff, Nat.reduceEqDiff, Nat.reduceMod, Nat.reduceDiv, Nat.reducePow, reduceCtorEq, ↓reduceIte, St.mk.injEq, List.cons.injEq, AV.v.injEq, Value.int.injEq, AV.sl.injEq, Option.some.injEq, Ob.mk.injEq, true_and, and_true, Int.natCast_add, Int.cast_ofNat_Int]))); all_goals try (first | omega | (simp only; omega)); all_goals (try dsimp only))
    have e : (2 : Int) * 2 ^ (k - n) = 2 ^ (k - (n - 1)) := by rw [show k - (n - 1) = (k - n) + 1 by omega, Int.pow_succ, Int.mul_comm]
    rw [e]
    simp; omega
  · obtain rfl : n = 0 := by omega
    focus (refine body_ret [] [] rfl rfl ?_ ?_; all_goals (first | (with_reducible rfl) | (simp (implicitDefEqProofs := false) (dsimp := false) (disch := first | assumption | omega) only [go_sem, Int.reduceAdd, Int.reduceSub, Int.reduceMul, Int.reduceNeg, Int.reduceLT, Int.reduceLE, Int.reduceEq, Int.reduceNe, Int.reduceToNat, Int.reduceMod, Int.reduceDiv, Int.reducePow, Nat.reduceAdd, Nat.reduceSub, Nat.reduceMul, Nat.reduceLT, Nat.reduceLeDiff, Nat.reduceEqDiff, Nat.reduceMod, Nat.reduceDiv, Nat.reducePow, reduceCtorEq, ↓reduceIte, wrap_i64, wrap_u8, wrap_u32, wrap_u64, Int.tmod_eq_emod_of_nonneg, Int.tdiv_eq_ediv_of_nonneg]) | skip))
    rfl

theorem strIndex_eq (s : ByteArray) (n : Nat) : strIndex s n = .v (.int .u8 (s.data.toList.getD n 0).toNat) := rfl
theorem wrap_byte (b : UInt8) : IntKind.i64.wrap (b.toNat : Int) = b.toNat := wrap_i64 (by have := b.toNat_lt; omega) (by have := b.toNat_lt; omega)
theorem wrap_add_byte (a : Int) (b : UInt8) (h0 : 0 ≤ a) (h1 : a ≤ 1000) : IntKind.i64.wrap (a + (b.toNat : Int)) = a + b.toNat := wrap_i64 (by have := b.toNat_lt; omega) (by have := b.toNat_lt; omega)

theorem c_bitsLen64 (x : Int) (h0 : 0 ≤ x) (h1 : x < 16) : Con Try.prog 139 [(.v (.int .u64 (x)))] [] ((.v (.int .i64 (len4 x)))) [] := by
  refine con_of_body (C := cxOf Try.prog) cxOk [(2, none)] Try.func139 rfl rfl rfl ?_
  simp only [Try.ntmps139, List.length_cons, List.length_nil, Nat.reduceAdd, Nat.reduceSub, List.replicate, List.cons_append, List.nil_append, List.append_nil]
  repeat' (first
    | ((with_reducible refine nrm ?_); try simp (implicitDefEqProofs := false) (dsimp := false) (disch := first | assumption | omega) only [go_sem, Int.reduceAdd, Int.reduceSub, Int.reduceMul, Int.reduceNeg, Int.reduceLT, Int.reduceLE, Int.reduceEq, Int.reduceNe, Int.reduceToNat, Int.reduceMod, Int.reduceDiv, Int.reducePow, Nat.reduceAdd, Nat.reduceSub, Nat.reduceMul, Nat.reduceLT, Nat.reduceLeDiff, Nat.reduceEqDiff, Nat.reduceMod, Nat.reduceDiv, Nat.reducePow, reduceCtorEq, ↓reduceIte, wrap_i64, wrap_u8, wrap_u32, wrap_u64, Int.tmod_eq_emod_of_nonneg, Int.tdiv_eq_ediv_of_nonneg, strIndex_eq, wrap_byte, wrap_add_byte])
    | (with_reducible refine sem_seqK fun K => ?_)
    | (with_reducible refine kt_f _ ?_)
    | (with_reducible refine regionN cxOk ?_)
    | (with_reducible refine drawN cxOk 4 ?_)
    | (with_reducible refine retN ?_)
    | (with_reducible refine skipN ?_)
    | (with_reducible refine exitN ?_)
    | (with_reducible refine sem_block ?_)
    | (with_reducible refine condN ?_)
    | (with_reducible refine condD_true ?_)
    | (with_reducible refine condD_false ?_)
    | (with_reducible refine condNq (fun hc => ?_) ?_)
    | (with_reducible refine condPN (by simp only [go_sem]; rfl) (by simp only [go_sem]; rfl) (fun hc => ?_) (fun hc => ?_))
    | (with_reducible refine condNN (by simp only [go_sem]; rfl) (by simp only [go_sem]; rfl) (fun hc => ?_) (fun hc => ?_))
    | (with_reducible refine condBN (by simp only [go_sem]; rfl) (by simp only [go_sem]; rfl) (fun hc => ?_) (fun hc => ?_) <;> (try simp only [Bool.not_eq_eq_eq_not, Bool.not_true, Bool.not_false, Bool.and_eq_true, Bool.and_eq_false_imp, Bool.or_eq_true, Bool.or_eq_false_iff, decide_eq_true_eq, decide_eq_false_iff_not] at hc))
    | ((with_reducible refine chk_by ?_); decide +kernel)
    | (with_reducible refine aft_intro ?_ (fun hc => ?_))
    | (with_reducible refine imp_intro' (fun hc => ?_))
    | (with_reducible refine And.intro ?_ ?_)
    | (with_reducible refine fun d ⟨ha, hc⟩ => ?_)
    | (with_reducible intro hc)
    | (with_reducible assumption)
    | omega
    | (with_reducible refine Int.emod_nonneg _ ?_)
    | (with_reducible refine Int.emod_lt_of_pos _ ?_))
  · exact Int.lt_of_lt_of_le h1 (by decide +kernel)
  · focus (refine body_ret [] [] rfl rfl ?_ ?_; all_goals (first | (with_reducible rfl) | (simp (implicitDefEqProofs := false) (dsimp := false) (disch := first | assumption | omega) only [go_sem, Int.reduceAdd, Int.reduceSub, Int.reduceMul, Int.reduceNeg, Int.reduceLT, Int.reduceLE, Int.reduceEq, Int.reduceNe, Int.reduceToNat, Int.reduceMod, Int.reduceDiv, Int.reducePow, Nat.reduceAdd, Nat.reduceSub, Nat.reduceMul, Nat.reduceLT, Nat.reduceLeDiff, Nat.reduceEqDiff, Nat.reduceMod, Nat.reduceDiv, Nat.reducePow, reduceCtorEq, ↓reduceIte, wrap_i64, wrap_u8, wrap_u32, wrap_u64, Int.tmod_eq_emod_of_nonneg, Int.tdiv_eq_ediv_of_nonneg]) | skip))
    obtain ⟨n, rfl⟩ : ∃ n : Nat, x = n := ⟨x.toNat, by omega⟩
    have : n = 0 ∨ n = 1 ∨ n = 2 ∨ n = 3 ∨ n = 4 ∨ n = 5 ∨ n = 6 ∨ n = 7 ∨ n = 8 ∨ n = 9 ∨ n = 10 ∨ n = 11 ∨ n = 12 ∨ n = 13 ∨ n = 14 ∨ n = 15 := by omega
    rcases this with rfl | rfl | rfl | rfl | rfl | rfl | rfl | rfl | rfl | rfl | rfl | rfl | rfl | rfl | rfl | rfl <;> rfl

theorem c_bitsLen (x : Int) (h0 : 0 ≤ x) (h1 : x < 16) : Con Try.prog 114 [(.v (.int .u64 (x)))] [] ((.v (.int .i64 (len4 x)))) [] := by
  refine con_of_body (C := cxOf Try.prog) cxOk [(2, none)] Try.func114 rfl rfl rfl ?_
  simp only [Try.ntmps114, List.length_cons, List.length_nil, Nat.reduceAdd, Nat.reduceSub, List.replicate, List.cons_append, List.nil_append, List.append_nil]
  repeat' (first
    | ((with_reducible refine nrm ?_); try simp (implicitDefEqProofs := false) (dsimp := false) (disch := first | assumption | omega) only [go_sem, Int.reduceAdd, Int.reduceSub, Int.reduceMul, Int.reduceNeg, Int.reduceLT, Int.reduceLE, Int.reduceEq, Int.reduceNe, Int.reduceToNat, Int.reduceMod, Int.reduceDiv, Int.reducePow, Nat.reduceAdd, Nat.reduceSub, Nat.reduceMul, Nat.reduceLT, Nat.reduceLeDiff, Nat.reduceEqDiff, Nat.reduceMod, Nat.reduceDiv, Nat.reducePow, reduceCtorEq, ↓reduceIte, wrap_i64, wrap_u8, wrap_u32, wrap_u64, Int.tmod_eq_emod_of_nonneg, Int.tdiv_eq_ediv_of_nonneg])
    | (with_reducible refine sem_seqK fun K => ?_)
    | (with_reducible refine kt_f _ ?_)
    | (with_reducible refine regionN cxOk ?_)
    | (with_reducible refine drawN cxOk 4 ?_)
    | (with_reducible refine retN ?_)
    | (with_reducible refine skipN ?_)
    | (with_reducible refine exitN ?_)
    | (with_reducible refine sem_block ?_)
    | (with_reducible refine condN ?_)
    | (with_reducible refine condD_true ?_)
    | (with_reducible refine condD_false ?_)
    | (with_reducible refine condNq (fun hc => ?_) ?_)
    | (with_reducible refine condPN (by simp only [go_sem]; rfl) (by simp only [go_sem]; rfl) (fun hc => ?_) (fun hc => ?_))
    | (with_reducible refine condNN (by simp only [go_sem]; rfl) (by simp only [go_sem]; rfl) (fun hc => ?_) (fun hc => ?_))
    | (with_reducible refine condBN (by simp only [go_sem]; rfl) (by simp only [go_sem]; rfl) (fun hc => ?_) (fun hc => ?_) <;> (try simp only [Bool.not_eq_eq_eq_not, Bool.not_true, Bool.not_false, Bool.and_eq_true, Bool.and_eq_false_imp, Bool.or_eq_true, Bool.or_eq_false_iff, decide_eq_true_eq, decide_eq_false_iff_not] at hc))
    | ((with_reducible refine chk_by ?_); decide +kernel)
    | (with_reducible apply callN)
    | (with_reducible apply callRN [])
    | ((with_reducible refine nrmE ?_); (simp (implicitDefEqProofs := false) (dsimp := false) (disch := first | assumption | omega) only [go_sem, Int.reduceAdd, Int.reduceSub, Int.reduceMul, Int.reduceNeg, Int.reduceLT, Int.reduceLE, Int.reduceEq, Int.reduceNe, Int.reduceToNat, Int.reduceMod, Int.reduceDiv, Int.reducePow, Nat.reduceAdd, Nat.reduceSub, Nat.reduceMul, Nat.reduceLT, Nat.reduceLeDiff, Nat.reduceEqDiff, Nat.reduceMod, Nat.reduceDiv, Nat.reducePow, reduceCtorEq, ↓reduceIte, wrap_i64, wrap_u8, wrap_u32, wrap_u64, Int.tmod_eq_emod_of_nonneg, Int.tdiv_eq_ediv_of_nonneg]) <;> rfl)
    | apply c_bitsLen64
    | (with_reducible refine aft_intro ?_ (fun hc => ?_))
    | (with_reducible refine imp_intro' (fun hc => ?_))
    | (with_reducible refine And.intro ?_ ?_)
    | (with_reducible refine fun d ⟨ha, hc⟩ => ?_)
    | (with_reducible intro hc)
    | (with_reducible assumption)
    | omega
    | (with_reducible refine Int.emod_nonneg _ ?_)
    | (with_reducible refine Int.emod_lt_of_pos _ ?_))
  focus (refine body_ret [] [] rfl rfl ?_ ?_; all_goals (first | (with_reducible rfl) | (simp (implicitDefEqProofs := false) (dsimp := false) (disch := first | assumption | omega) only [go_sem, Int.reduceAdd, Int.reduceSub, Int.reduceMul, Int.reduceNeg, Int.reduceLT, Int.reduceLE, Int.reduceEq, Int.reduceNe, Int.reduceToNat, Int.reduceMod, Int.reduceDiv, Int.reducePow, Nat.reduceAdd, Nat.reduceSub, Nat.reduceMul, Nat.reduceLT, Nat.reduceLeDiff, Nat.reduceEqDiff, Nat.reduceMod, Nat.reduceDiv, Nat.reducePow, reduceCtorEq, ↓reduceIte, wrap_i64, wrap_u8, wrap_u32, wrap_u64, Int.tmod_eq_emod_of_nonneg, Int.tdiv_eq_ediv_of_nonneg]) | skip))

theorem c_ClassOf (a : Int) : Con Try.prog 73 [(.v (.int .i64 (a)))] [] ((.v (.int .i64 (classOf a)))) [] := by
  refine con_of_body (C := cxOf Try.prog) cxOk [(2, none)] Try.func73 rfl rfl rfl ?_
  simp only [Try.ntmps73, List.length_cons, List.length_nil, Nat.reduceAdd, Nat.reduceSub, List.replicate, List.cons_append, List.nil_append, List.append_nil]
  repeat' (first
    | ((with_reducible refine nrm ?_); try simp (implicitDefEqProofs := false) (dsimp := false) (disch := first | assumption | omega) only [go_sem, Int.reduceAdd, Int.reduceSub, Int.reduceMul, Int.reduceNeg, Int.reduceLT, Int.reduceLE, Int.reduceEq, Int.reduceNe, Int.reduceToNat, Int.reduceMod, Int.reduceDiv, Int.reducePow, Nat.reduceAdd, Nat.reduceSub, Nat.reduceMul, Nat.reduceLT, Nat.reduceLeDiff, Nat.reduceEqDiff, Nat.reduceMod, Nat.reduceDiv, Nat.reducePow, reduceCtorEq, ↓reduceIte, wrap_i64, wrap_u8, wrap_u32, wrap_u64, Int.tmod_eq_emod_of_nonneg, Int.tdiv_eq_ediv_of_nonneg])
    | (with_reducible refine sem_seqK fun K => ?_)
    | (with_reducible refine kt_f _ ?_)
    | (with_reducible refine regionN cxOk ?_)
    | (with_reducible refine drawN cxOk 4 ?_)
    | (with_reducible refine retN ?_)
    | (with_reducible refine skipN ?_)
    | (with_reducible refine exitN ?_)
    | (with_reducible refine sem_block ?_)
    | (with_reducible refine condN ?_)
    | (with_reducible refine condD_true ?_)
    | (with_reducible refine condD_false ?_)
    | (with_reducible refine condNq (fun hc => ?_) ?_)
    | (with_reducible refine condPN (by simp only [go_sem]; rfl) (by simp only [go_sem]; rfl) (fun hc => ?_) (fun hc => ?_))
    | (with_reducible refine condNN (by simp only [go_sem]; rfl) (by simp only [go_sem]; rfl) (fun hc => ?_) (fun hc => ?_))
    | (with_reducible refine condBN (by simp only [go_sem]; rfl) (by simp only [go_sem]; rfl) (fun hc => ?_) (fun hc => ?_) <;> (try simp only [Bool.not_eq_eq_eq_not, Bool.not_true, Bool.not_false, Bool.and_eq_true, Bool.and_eq_false_imp, Bool.or_eq_true, Bool.or_eq_false_iff, decide_eq_true_eq, decide_eq_false_iff_not] at hc))
    | ((with_reducible refine chk_by ?_); decide +kernel)
    | (with_reducible apply callN)
    | (with_reducible apply callRN [])
    | ((with_reducible refine nrmE ?_); (simp (implicitDefEqProofs := false) (dsimp := false) (disch := first | assumption | omega) only [go_sem, Int.reduceAdd, Int.reduceSub, Int.reduceMul, Int.reduceNeg, Int.reduceLT, Int.reduceLE, Int.reduceEq, Int.reduceNe, Int.reduceToNat, Int.reduceMod, Int.reduceDiv, Int.reducePow, Nat.reduceAdd, Nat.reduceSub, Nat.reduceMul, Nat.reduceLT, Nat.reduceLeDiff, Nat.reduceEqDiff, Nat.reduceMod, Nat.reduceDiv, Nat.reducePow, reduceCtorEq, ↓reduceIte, wrap_i64, wrap_u8, wrap_u32, wrap_u64, Int.tmod_eq_emod_of_nonneg, Int.tdiv_eq_ediv_of_nonneg]) <;> rfl)
    | apply c_within
    | apply c_bitsLen
    | (with_reducible refine aft_intro ?_ (fun hc => ?_))
    | (with_reducible refine imp_intro' (fun hc => ?_))
    | (with_reducible refine And.intro ?_ ?_)
    | (with_reducible refine fun d ⟨ha, hc⟩ => ?_)
    | (with_reducible intro hc)
    | (with_reducible assumption)
    | omega
    | (with_reducible refine Int.emod_nonneg _ ?_)
    | (with_reducible refine Int.emod_lt_of_pos _ ?_))
  · focus (refine body_ret [] [] rfl rfl ?_ ?_; all_goals (first | (with_reducible rfl) | (simp (implicitDefEqProofs := false) (dsimp := false) (disch := first | assumption | omega) only [go_sem, Int.reduceAdd, Int.reduceSub, Int.reduceMul, Int.reduceNeg, Int.reduceLT, Int.reduceLE, Int.reduceEq, Int.reduceNe, Int.reduceToNat, Int.reduceMod, Int.reduceDiv, Int.reducePow, Nat.reduceAdd, Nat.reduceSub, Nat.reduceMul, Nat.reduceLT, Nat.reduceLeDiff, Nat.reduceEqDiff, Nat.reduceMod, Nat.reduceDiv, Nat.reducePow, reduceCtorEq, ↓reduceIte, wrap_i64, wrap_u8, wrap_u32, wrap_u64, Int.tmod_eq_emod_of_nonneg, Int.tdiv_eq_ediv_of_nonneg]) | skip))
    rw [classOf, if_neg (by omega)]
  · focus (refine body_ret [] [] rfl rfl ?_ ?_; all_goals (first | (with_reducible rfl) | (simp (implicitDefEqProofs := false) (dsimp := false) (disch := first | assumption | omega) only [go_sem, Int.reduceAdd, Int.reduceSub, Int.reduceMul, Int.reduceNeg, Int.reduceLT, Int.reduceLE, Int.reduceEq, Int.reduceNe, Int.reduceToNat, Int.reduceMod, Int.reduceDiv, Int.reducePow, Nat.reduceAdd, Nat.reduceSub, Nat.reduceMul, Nat.reduceLT, Nat.reduceLeDiff, Nat.reduceEqDiff, Nat.reduceMod, Nat.reduceDiv, Nat.reducePow, reduceCtorEq, ↓reduceIte, wrap_i64, wrap_u8, wrap_u32, wrap_u64, Int.tmod_eq_emod_of_nonneg, Int.tdiv_eq_ediv_of_nonneg]) | skip))
    rw [classOf, if_pos (by omega)]

theorem c_specClassSize (k : Int) : Con Try.prog 77 [(.v (.int .i64 (k)))] [] ((.v (.int .i64 (classSize k)))) [] := by
  by_cases h : 0 ≤ k ∧ k ≤ 4
  · obtain ⟨n, rfl⟩ : ∃ n : Nat, k = n := ⟨k.toNat, by omega⟩
    refine con_of_body (C := cxOf Try.prog) cxOk [(2, none)] Try.func77 rfl rfl rfl ?_
    simp only [Try.ntmps77, List.length_cons, List.length_nil, Nat.reduceAdd, Nat.reduceSub, List.replicate, List.cons_append, List.nil_append, List.append_nil]
    repeat' (first
      | ((with_reducible refine nrm ?_); try simp (implicitDefEqProofs := false) (dsimp := false) (disch := first | assumption | omega) only [go_sem, Int.reduceAdd, Int.reduceSub, Int.reduceMul, Int.reduceNeg, Int.reduceLT, Int.reduceLE, Int.reduceEq, Int.reduceNe, Int.reduceToNat, Int.reduceMod, Int.reduceDiv, Int.reducePow, Nat.reduceAdd, Nat.reduceSub, Nat.reduceMul, Nat.reduceLT, Nat.reduceLeDiff, Nat.reduceEqDiff, Nat.reduceMod, Nat.reduceDiv, Nat.reducePow, reduceCtorEq, ↓reduceIte, wrap_i64, wrap_u8, wrap_u32, wrap_u64, Int.tmod_eq_emod_of_nonneg, Int.tdiv_eq_ediv_of_nonneg])
      | (with_reducible refine sem_seqK fun K => ?_)
      | (with_reducible refine kt_f _ ?_)
      | (with_reducible refine regionN cxOk ?_)
      | (with_reducible refine drawN cxOk 4 ?_)
      | (with_reducible refine retN ?_)
      | (with_reducible refine skipN ?_)
      | (with_reducible refine exitN ?_)
      | (with_reducible refine sem_block ?_)
      | (with_reducible refine condN ?_)
      | (with_reducible refine condD_true ?_)
      | (with_reducible refine condD_false ?_)
      | (with_reducible refine condNq (fun hc => ?_) ?_)
      | (with_reducible refine condPN (by simp only [go_sem]; rfl) (by simp only [go_sem]; rfl) (fun hc => ?_) (fun hc => ?_))
      | (with_reducible refine condNN (by simp only [go_sem]; rfl) (by simp only [go_sem]; rfl) (fun hc => ?_) (fun hc => ?_))
      | (with_reducible refine condBN (by simp only [go_sem]; rfl) (by simp only [go_sem]; rfl) (fun hc => ?_) (fun hc => ?_) <;> (try simp only [Bool.not_eq_eq_eq_not, Bool.not_true, Bool.not_false, Bool.and_eq_true, Bool.and_eq_false_imp, Bool.or_eq_true, Bool.or_eq_false_iff, decide_eq_true_eq, decide_eq_false_iff_not] at hc))
      | ((with_reducible refine chk_by ?_); decide +kernel)
      | (with_reducible apply callN)
      | (with_reducible apply callRN [])
      | ((with_reducible refine nrmE ?_); (simp (implicitDefEqProofs := false) (dsimp := false) (disch := first | assumption | omega) only [go_sem, Int.reduceAdd, Int.reduceSub, Int.reduceMul, Int.reduceNeg, Int.reduceLT, Int.reduceLE, Int.reduceEq, Int.reduceNe, Int.reduceToNat, Int.reduceMod, Int.reduceDiv, Int.reducePow, Nat.reduceAdd, Nat.reduceSub, Nat.reduceMul, Nat.reduceLT, Nat.reduceLeDiff, Nat.reduceEqDiff, Nat.reduceMod, Nat.reduceDiv, Nat.reducePow, reduceCtorEq, ↓reduceIte, wrap_i64, wrap_u8, wrap_u32, wrap_u64, Int.tmod_eq_emod_of_nonneg, Int.tdiv_eq_ediv_of_nonneg]) <;> rfl)
      | apply c_l04Class
      | apply c_l04Pow
      | (with_reducible refine aft_intro ?_ (fun hc => ?_))
      | (with_reducible refine imp_intro' (fun hc => ?_))
      | (with_reducible refine And.intro ?_ ?_)
      | (with_reducible refine fun d ⟨ha, hc⟩ => ?_)
      | (with_reducible intro hc)
      | (with_reducible assumption)
      | omega
      | (with_reducible refine Int.emod_nonneg _ ?_)
      | (with_reducible refine Int.emod_lt_of_pos _ ?_))
    all_goals focus (refine body_ret [] [] rfl rfl ?_ ?_; all_goals (first | (with_reducible rfl) | (simp (implicitDefEqProofs := false) (dsimp := false) (disch := first | assumption | omega) only [go_sem, Int.reduceAdd, Int.reduceSub, Int.reduceMul, Int.reduceNeg, Int.reduceLT, Int.reduceLE, Int.reduceEq, Int.reduceNe, Int.reduceToNat, Int.reduceMod, Int.reduceDiv, Int.reducePow, Nat.reduceAdd, Nat.reduceSub, Nat.reduceMul, Nat.reduceLT, Nat.reduceLeDiff, Nat.reduceEqDiff, Nat.reduceMod, Nat.reduceDiv, Nat.reducePow, reduceCtorEq, ↓reduceIte, wrap_i64, wrap_u8, wrap_u32, wrap_u64, Int.tmod_eq_emod_of_nonneg, Int.tdiv_eq_ediv_of_nonneg]) | skip))
    all_goals first | (exfalso; omega) | (rw [classSize, if_pos h]; rfl)
  · refine con_of_body (C := cxOf Try.prog) cxOk [(2, none)] Try.func77 rfl rfl rfl ?_
    simp only [Try.ntmps77, List.length_cons, List.length_nil, Nat.reduceAdd, Nat.reduceSub, List.replicate, List.cons_append, List.nil_append, List.append_nil]
    repeat' (first
      | ((with_reducible refine nrm ?_); try simp (implicitDefEqProofs := false) (dsimp := false) (disch := first | assumption | omega) only [go_sem, Int.reduceAdd, Int.reduceSub, Int.reduceMul, Int.reduceNeg, Int.reduceLT, Int.reduceLE, Int.reduceEq, Int.reduceNe, Int.reduceToNat, Int.reduceMod, Int.reduceDiv, Int.reducePow, Nat.reduceAdd, Nat.reduceSub, Nat.reduceMul, Nat.reduceLT, Nat.reduceLeDiff, Nat.reduceEqDiff, Nat.reduceMod, Nat.reduceDiv, Nat.reducePow, reduceCtorEq, ↓reduceIte, wrap_i64, wrap_u8, wrap_u32, wrap_u64, Int.tmod_eq_emod_of_nonneg, Int.tdiv_eq_ediv_of_nonneg])
      | (with_reducible refine sem_seqK fun K => ?_)
      | (with_reducible refine kt_f _ ?_)
      | (with_reducible refine regionN cxOk ?_)
      | (with_reducible refine drawN cxOk 4 ?_)
      | (with_reducible refine retN ?_)
      | (with_reducible refine skipN ?_)
      | (with_reducible refine exitN ?_)
      | (with_reducible refine sem_block ?_)
      | (with_reducible refine condN ?_)
      | (with_reducible refine condD_true ?_)
      | (with_reducible refine condD_false ?_)
      | (with_reducible refine condNq (fun hc => ?_) ?_)
      | (with_reducible refine condPN (by simp only [go_sem]; rfl) (by simp only [go_sem]; rfl) (fun hc => ?_) (fun hc => ?_))
      | (with_reducible refine condNN (by simp only [go_sem]; rfl) (by simp only [go_sem]; rfl) (fun hc => ?_) (fun hc => ?_))
      | (with_reducible refine condBN (by simp only [go_sem]; rfl) (by simp only [go_sem]; rfl) (fun hc => ?_) (fun hc => ?_) <;> (try simp only [Bool.not_eq_eq_eq_not, Bool.not_true, Bool.not_false, Bool.and_eq_true, Bool.and_eq_false_imp, Bool.or_eq_true, Bool.or_eq_false_iff, decide_eq_true_eq, decide_eq_false_iff_not] at hc))
      | ((with_reducible refine chk_by ?_); decide +kernel)
      | (with_reducible apply callN)
      | (with_reducible apply callRN [])
      | ((with_reducible refine nrmE ?_); (simp (implicitDefEqProofs := false) (dsimp := false) (disch := first | assumption | omega) only [go_sem, Int.reduceAdd, Int.reduceSub, Int.reduceMul, Int.reduceNeg, Int.reduceLT, Int.reduceLE, Int.reduceEq, Int.reduceNe, Int.reduceToNat, Int.reduceMod, Int.reduceDiv, Int.reducePow, Nat.reduceAdd, Nat.reduceSub, Nat.reduceMul, Nat.reduceLT, Nat.reduceLeDiff, Nat.reduceEqDiff, Nat.reduceMod, Nat.reduceDiv, Nat.reducePow, reduceCtorEq, ↓reduceIte, wrap_i64, wrap_u8, wrap_u32, wrap_u64, Int.tmod_eq_emod_of_nonneg, Int.tdiv_eq_ediv_of_nonneg]) <;> rfl)
      | apply c_l04Class
      | (with_reducible refine aft_intro ?_ (fun hc => ?_))
      | (with_reducible refine imp_intro' (fun hc => ?_))
      | (with_reducible refine And.intro ?_ ?_)
      | (with_reducible refine fun d ⟨ha, hc⟩ => ?_)
      | (with_reducible intro hc)
      | (with_reducible assumption)
      | omega
      | (with_reducible refine Int.emod_nonneg _ ?_)
      | (with_reducible refine Int.emod_lt_of_pos _ ?_))
    all_goals first | (focus (refine body_ret [] [] rfl rfl ?_ ?_; all_goals (first | (with_reducible rfl) | (simp (implicitDefEqProofs := false) (dsimp := false) (disch := first | assumption | omega) only [go_sem, Int.reduceAdd, Int.reduceSub, Int.reduceMul, Int.reduceNeg, Int.reduceLT, Int.reduceLE, Int.reduceEq, Int.reduceNe, Int.reduceToNat, Int.reduceMod, Int.reduceDiv, Int.reducePow, Nat.reduceAdd, Nat.reduceSub, Nat.reduceMul, Nat.reduceLT, Nat.reduceLeDiff, Nat.reduceEqDiff, Nat.reduceMod, Nat.reduceDiv, Nat.reducePow, reduceCtorEq, ↓reduceIte, wrap_i64, wrap_u8, wrap_u32, wrap_u64, Int.tmod_eq_emod_of_nonneg, Int.tdiv_eq_ediv_of_nonneg]) | skip)); rw [classSize, if_neg h]) | (exfalso; omega)

def wholeOf (a : Int) : Int := if 0 ≤ classOf a then classSize (classOf a) else chunksFor a * 16
def wasteL : List Int → Int → Int
  | [], s => s
  | a :: r, s => if wholeOf a = 0 then -1 else wasteL r (s + (wholeOf a - a))
def waste (xs : List Int) : Int := if 1000 < xs.length then -1 else wasteL xs 0

theorem chunks_bound (a : Int) : 0 ≤ chunksFor a ∧ chunksFor a ≤ 16 := by unfold chunksFor; split <;> omega

theorem class_bound (a : Int) : -1 ≤ classOf a ∧ classOf a ≤ 4 ∧ (0 ≤ classOf a → 1 ≤ a ∧ a ≤ 16) ∧ (¬ 0 ≤ classOf a → ¬ (1 ≤ a ∧ a ≤ 16)) := by
  unfold classOf len4
  split
  · repeat' split
    all_goals omega
  · omega

theorem size_bound (k : Int) : 0 ≤ classSize k ∧ classSize k ≤ 16 := by
  unfold classSize
  split
  · have : k = 0 ∨ k = 1 ∨ k = 2 ∨ k = 3 ∨ k = 4 := by omega
    rcases this with rfl | rfl | rfl | rfl | rfl <;> decide
  · omega

theorem whole_bound (a : Int) : 0 ≤ wholeOf a ∧ wholeOf a ≤ 256 ∧ (wholeOf a ≠ 0 → 1 ≤ a ∧ a ≤ wholeOf a ∧ wholeOf a < a + 16) := by
  have h := class_bound a
  have h2 := size_bound (classOf a)
  have h3 := chunks_bound a
  unfold wholeOf
  split
  · rename_i hc
    have h1 := h.2.2.1 hc
    refine ⟨h2.1, by omega, fun _ => ⟨h1.1, ?_, by omega⟩⟩
    have : a = 1 ∨ a = 2 ∨ a = 3 ∨ a = 4 ∨ a = 5 ∨ a = 6 ∨ a = 7 ∨ a = 8 ∨ a = 9 ∨ a = 10 ∨ a = 11 ∨ a = 12 ∨ a = 13 ∨ a = 14 ∨ a = 15 ∨ a = 16 := by omega
    rcases this with rfl | rfl | rfl | rfl | rfl | rfl | rfl | rfl | rfl | rfl | rfl | rfl | rfl | rfl | rfl | rfl <;> decide
  · rename_i hc
    unfold chunksFor at h3 ⊢
    split <;> omega

theorem size_ge {a : Int} (h : 0 ≤ classOf a) : a ≤ classSize (classOf a) := by
  have h1 := (class_bound a).2.2.1 h
  have : a = 1 ∨ a = 2 ∨ a = 3 ∨ a = 4 ∨ a = 5 ∨ a = 6 ∨ a = 7 ∨ a = 8 ∨ a = 9 ∨ a = 10 ∨ a = 11 ∨ a = 12 ∨ a = 13 ∨ a = 14 ∨ a = 15 ∨ a = 16 := by omega
  rcases this with rfl | rfl | rfl | rfl | rfl | rfl | rfl | rfl | rfl | rfl | rfl | rfl | rfl | rfl | rfl | rfl <;> decide

theorem wasteL_step (xs : List Int) (i : Nat) (s : Int) (h : i < xs.length) : wasteL (xs.drop i) s = if wholeOf (xs.getD i 0) = 0 then -1 else wasteL (xs.drop (i + 1)) (s + (wholeOf (xs.getD i 0) - xs.getD i 0)) := by
  rw [List.drop_eq_getElem_cons h, wasteL, List.getD_eq_getElem?_getD, List.getElem?_eq_getElem h]
  rfl

theorem c_Waste (b : Bool) (xs : List Int) (hl : xs.length ≤ 1000000) : Con Try.prog 23 [.bor b (xs.map (cI .i64))] [] ((.v (.int .i64 (waste xs)))) [] := by
  refine con_of_body (C := cxOf Try.prog) cxOk [(2, none)] Try.func23 rfl rfl rfl ?_
  simp only [Try.ntmps23, List.length_cons, List.length_nil, Nat.reduceAdd, Nat.reduceSub, List.replicate, List.cons_append, List.nil_append, List.append_nil]
  repeat' (first
    | ((with_reducible refine nrm ?_); try simp (implicitDefEqProofs := false) (dsimp := false) (disch := first | assumption | omega) only [go_sem, Int.reduceAdd, Int.reduceSub, Int.reduceMul, Int.reduceNeg, Int.reduceLT, Int.reduceLE, Int.reduceEq, Int.reduceNe, Int.reduceToNat, Int.reduceMod, Int.reduceDiv, Int.reducePow, Nat.reduceAdd, Nat.reduceSub, Nat.reduceMul, Nat.reduceLT, Nat.reduceLeDiff, Nat.reduceEqDiff, Nat.reduceMod, Nat.reduceDiv, Nat.reducePow, reduceCtorEq, ↓reduceIte, wrap_i64, wrap_u8, wrap_u32, wrap_u64, Int.tmod_eq_emod_of_nonneg, Int.tdiv_eq_ediv_of_nonneg])
    | (with_reducible refine sem_seqK fun K => ?_)
    | (with_reducible refine kt_f _ ?_)
    | (with_reducible refine regionN cxOk ?_)
    | (with_reducible refine drawN cxOk 4 ?_)
    | (with_reducible refine retN ?_)
    | (with_reducible refine skipN ?_)
    | (with_reducible refine exitN ?_)
    | (with_reducible refine sem_block ?_)
    | (with_reducible refine condN ?_)
    | (with_reducible refine condD_true ?_)
    | (with_reducible refine condD_false ?_)
    | (with_reducible refine condNq (fun hc => ?_) ?_)
    | (with_reducible refine condPN (by simp only [go_sem]; rfl) (by simp only [go_sem]; rfl) (fun hc => ?_) (fun hc => ?_))
    | (with_reducible refine condNN (by simp only [go_sem]; rfl) (by simp only [go_sem]; rfl) (fun hc => ?_) (fun hc => ?_))
    | (with_reducible refine condBN (by simp only [go_sem]; rfl) (by simp only [go_sem]; rfl) (fun hc => ?_) (fun hc => ?_) <;> (try simp only [Bool.not_eq_eq_eq_not, Bool.not_true, Bool.not_false, Bool.and_eq_true, Bool.and_eq_false_imp, Bool.or_eq_true, Bool.or_eq_false_iff, decide_eq_true_eq, decide_eq_false_iff_not] at hc))
    | ((with_reducible refine chk_by ?_); decide +kernel)
    | (with_reducible refine aft_intro ?_ (fun hc => ?_))
    | (with_reducible refine imp_intro' (fun hc => ?_))
    | (with_reducible refine And.intro ?_ ?_)
    | (with_reducible refine fun d ⟨ha, hc⟩ => ?_)
    | (with_reducible intro hc)
    | (with_reducible assumption)
    | omega
    | (with_reducible refine Int.emod_nonneg _ ?_)
    | (with_reducible refine Int.emod_lt_of_pos _ ?_))
  · focus (refine body_ret [] [] rfl rfl ?_ ?_; all_goals (first | (with_reducible rfl) | (simp (implicitDefEqProofs := false) (dsimp := false) (disch := first | assumption | omega) only [go_sem, Int.reduceAdd, Int.reduceSub, Int.reduceMul, Int.reduceNeg, Int.reduceLT, Int.reduceLE, Int.reduceEq, Int.reduceNe, Int.reduceToNat, Int.reduceMod, Int.reduceDiv, Int.reducePow, Nat.reduceAdd, Nat.reduceSub, Nat.reduceMul, Nat.reduceLT, Nat.reduceLeDiff, Nat.reduceEqDiff, Nat.reduceMod, Nat.reduceDiv, Nat.reducePow, reduceCtorEq, ↓reduceIte, wrap_i64, wrap_u8, wrap_u32, wrap_u64, Int.tmod_eq_emod_of_nonneg, Int.tdiv_eq_ediv_of_nonneg]) | skip))
    rw [waste, if_pos (by omega)]
  · have hw0 : waste xs = wasteL xs 0 := if_neg (by omega)
    refine sem_loopF (α := Nat × Int) [] [] [false, false, false, true, false, false, false, false, false, false, false, true, true, true, false, false, false, false, false, false, false, false, false, false, false, false, false, false, false, false, false, false, false, false, false] (fun (i, s) => i ≤ xs.length ∧ 0 ≤ s ∧ s ≤ 16 * i ∧ wasteL xs 0 = wasteL (xs.drop i) s) (fun (i, s) S => ⟨((S.t).set 3 ((.v (.int .i64 (s))))).set 13 ((.v (.int .i64 (i)))), S.h⟩) (fun (i, s) => xs.length - i) (0, 0) rfl (by simp only [go_sem, Int.reduceAdd, Int.reduceSub, Int.reduceMul, Int.reduceNeg, Int.reduceLT, Int.reduceLE, Int.reduceEq, Int.reduceNe, Int.reduceToNat, Int.reduceMod, Int.reduceDiv, Int.reducePow, Nat.reduceAdd, Nat.reduceSub, Nat.reduceMul, Nat.reduceLT, Nat.reduceLeDiff, Nat.reduceEqDiff, Nat.reduceMod, Nat.reduceDiv, Nat.reducePow, reduceCtorEq, ↓reduceIte]; rfl) ?_ ?_ ?_
    · rfl
    · simp
    rintro ⟨i, s⟩ hI
    try simp only at hI
    simp only [go_sem, Int.reduceAdd, Int.reduceSub, Int.reduceMul, Int.reduceNeg, Int.reduceLT, Int.reduceLE, Int.reduceEq, Int.reduceNe, Int.reduceToNat, Int.reduceMod, Int.reduceDiv, Int.reducePow, Nat.reduceAdd, Nat.reduceSub, Nat.reduceMul, Nat.reduceLT, Nat.reduceLeDiff, Nat.reduceEqDiff, Nat.reduceMod, Nat.reduceDiv, Nat.reducePow, reduceCtorEq, ↓reduceIte]
    obtain ⟨hi, hs0, hs1, hw⟩ := hI
    have wb := whole_bound (xs.getD i 0)
    have cb := class_bound (xs.getD i 0)
    have kb := chunks_bound (xs.getD i 0)
    have zb := size_bound (classOf (xs.getD i 0))
    have wh1 : 0 ≤ classOf (xs.getD i 0) → wholeOf (xs.getD i 0) = classSize (classOf (xs.getD i 0)) := fun h => if_pos h
    have wh2 : ¬ 0 ≤ classOf (xs.getD i 0) → wholeOf (xs.getD i 0) = chunksFor (xs.getD i 0) * 16 := fun h => if_neg h
    repeat' (first
      | ((with_reducible refine nrm ?_); try simp (implicitDefEqProofs := false) (dsimp := false) (disch := first | assumption | omega) only [go_sem, Int.reduceAdd, Int.reduceSub, Int.reduceMul, Int.reduceNeg, Int.reduceLT, Int.reduceLE, Int.reduceEq, Int.reduceNe, Int.reduceToNat, Int.reduceMod, Int.reduceDiv, Int.reducePow, Nat.reduceAdd, Nat.reduceSub, Nat.reduceMul, Nat.reduceLT, Nat.reduceLeDiff, Nat.reduceEqDiff, Nat.reduceMod, Nat.reduceDiv, Nat.reducePow, reduceCtorEq, ↓reduceIte, wrap_i64, wrap_u8, wrap_u32, wrap_u64, Int.tmod_eq_emod_of_nonneg, Int.tdiv_eq_ediv_of_nonneg])
      | (with_reducible refine sem_seqK fun K => ?_)
      | (with_reducible refine kt_f _ ?_)
      | (with_reducible refine regionN cxOk ?_)
      | (with_reducible refine drawN cxOk 4 ?_)
      | (with_reducible refine retN ?_)
      | (with_reducible refine skipN ?_)
      | (with_reducible refine exitN ?_)
      | (with_reducible refine sem_block ?_)
      | (with_reducible refine condN ?_)
      | (with_reducible refine condD_true ?_)
      | (with_reducible refine condD_false ?_)
      | (with_reducible refine condNq (fun hc => ?_) ?_)
      | (with_reducible refine condPN (by simp only [go_sem]; rfl) (by simp only [go_sem]; rfl) (fun hc => ?_) (fun hc => ?_))
      | (with_reducible refine condNN (by simp only [go_sem]; rfl) (by simp only [go_sem]; rfl) (fun hc => ?_) (fun hc => ?_))
      | (with_reducible refine condBN (by simp only [go_sem]; rfl) (by simp only [go_sem]; rfl) (fun hc => ?_) (fun hc => ?_) <;> (try simp only [Bool.not_eq_eq_eq_not, Bool.not_true, Bool.not_false, Bool.and_eq_true, Bool.and_eq_false_imp, Bool.or_eq_true, Bool.or_eq_false_iff, decide_eq_true_eq, decide_eq_false_iff_not] at hc))
      | ((with_reducible refine chk_by ?_); decide +kernel)
      | (with_reducible apply callN)
      | (with_reducible apply callRN [])
      | ((with_reducible refine nrmE ?_); (simp (implicitDefEqProofs := false) (dsimp := false) (disch := first | assumption | omega) only [go_sem, Int.reduceAdd, Int.reduceSub, Int.reduceMul, Int.reduceNeg, Int.reduceLT, Int.reduceLE, Int.reduceEq, Int.reduceNe, Int.reduceToNat, Int.reduceMod, Int.reduceDiv, Int.reducePow, Nat.reduceAdd, Nat.reduceSub, Nat.reduceMul, Nat.reduceLT, Nat.reduceLeDiff, Nat.reduceEqDiff, Nat.reduceMod, Nat.reduceDiv, Nat.reducePow, reduceCtorEq, ↓reduceIte, wrap_i64, wrap_u8, wrap_u32, wrap_u64, Int.tmod_eq_emod_of_nonneg, Int.tdiv_eq_ediv_of_nonneg]) <;> rfl)
      | apply c_ChunksFor
      | apply c_ClassOf
      | apply c_ClassSize
      | (with_reducible refine aft_intro ?_ (fun hc => ?_))
      | (with_reducible refine imp_intro' (fun hc => ?_))
      | (with_reducible refine And.intro ?_ ?_)
      | (with_reducible refine fun d ⟨ha, hc⟩ => ?_)
      | (with_reducible intro hc)
      | (with_reducible assumption)
      | omega
      | (with_reducible refine Int.emod_nonneg _ ?_)
      | (with_reducible refine Int.emod_lt_of_pos _ ?_))
    · focus (refine body_ret [] [] rfl rfl ?_ ?_; all_goals (first | (with_reducible rfl) | (simp (implicitDefEqProofs := false) (dsimp := false) (disch := first | assumption | omega) only [go_sem, Int.reduceAdd, Int.reduceSub, Int.reduceMul, Int.reduceNeg, Int.reduceLT, Int.reduceLE, Int.reduceEq, Int.reduceNe, Int.reduceToNat, Int.reduceMod, Int.reduceDiv, Int.reducePow, Nat.reduceAdd, Nat.reduceSub, Nat.reduceMul, Nat.reduceLT, Nat.reduceLeDiff, Nat.reduceEqDiff, Nat.reduceMod, Nat.reduceDiv, Nat.reducePow, reduceCtorEq, ↓reduceIte, wrap_i64, wrap_u8, wrap_u32, wrap_u64, Int.tmod_eq_emod_of_nonneg, Int.tdiv_eq_ediv_of_nonneg]) | skip))
      rw [hw0, hw, wasteL_step xs i s (by omega), if_pos (by omega)]
    · focus (refine loop_next (i + 1, s + (classSize (classOf (xs.getD i 0)) - xs.getD i 0)) [] [] [false, false, false, true, false, false, false, false, false, false, false, true, true, true, false, false, false, false, false, false, false, false, false, false, false, false, false, false, false, false, false, false, false, false, false] rfl ?_ ?_ ?_; (try (first | rfl | (simp (implicitDefEqProofs := false) (dsimp := false) only [go_sem, Int.reduceAdd, Int.reduceSub, Int.reduceMul, Int.reduceNeg, Int.reduceLT, Int.reduceLE, Int.reduceEq, Int.reduceNe, Int.reduceToNat, Int.reduceMod, Int.reduceDiv, Int.reducePow, Nat.reduceAdd, Nat.reduceSub, Nat.reduceMul, Nat.reduceLT, Nat.reduceLeDiff, Nat.reduceEqDiff, Nat.reduceMod, Nat.reduceDiv, Nat.reducePow, reduceCtorEq, ↓reduceIte, St.mk.injEq, List.cons.injEq, AV.v.injEq, Value.int.injEq, AV.sl.injEq, Option.some.injEq, Ob.mk.injEq, true_and, and_true, Int.natCast_add, Int.cast_ofNat_Int]; omega) | (simp (implicitDefEqProofs := false) (dsimp := false) only [go_sem, Int.reduceAdd, Int.reduceSub, Int.reduceMul, Int.reduceNeg, Int.reduceLT, Int.reduceLE, Int.reduceEq, Int.reduceNe, Int.reduceToNat, Int.reduceMod, Int.reduceDiv, Int.reducePow, Nat.reduceAdd, Nat.reduceSub, Nat.reduceMul, Nat.reduceLT, Nat.reduceLeDiff, Nat.reduceEqDiff, Nat.reduceMod, Nat.reduceDiv, Nat.reducePow, reduceCtorEq, ↓reduceIte, St.mk.injEq, List.cons.injEq, AV.v.injEq, Value.int.injEq, AV.sl.injEq, Option.some.injEq, Ob.mk.injEq, true_and, and_true, Int.natCast_add, Int.cast_ofNat_Int]; done) | (simp (implicitDefEqProofs := false) (dsimp := false) only [go_sem, Int.reduceAdd, Int.reduceSub, Int.reduceMul, Int.reduceNeg, Int.reduceLT, Int.reduceLE, Int.reduceEq, Int.reduceNe, Int.reduceToNat, Int.reduceMod, Int.reduceDiv, Int.reducePow, Nat.reduceAdd, Nat.reduceSub, Nat.reduceMul, Nat.reduceLT, Nat.reduceLeDiff, Nat.reduceEqDiff, Nat.reduceMod, Nat.reduceDiv, Nat.reducePow, reduceCtorEq, ↓reduceIte, St.mk.injEq, List.cons.injEq, AV.v.injEq, Value.int.injEq, AV.sl.injEq, Option.some.injEq, Ob.mk.injEq, true_and, and_true, Int.natCast_add, Int.cast_ofNat_Int]))); all_goals try (first | omega | (simp only; omega)); all_goals (try dsimp only))
      dsimp only
      refine ⟨by omega, by omega, by omega, ?_⟩
      rw [hw, wasteL_step xs i s (by omega), if_neg (by omega), wh1 (by omega)]
    · focus (refine body_ret [] [] rfl rfl ?_ ?_; all_goals (first | (with_reducible rfl) | (simp (implicitDefEqProofs := false) (dsimp := false) (disch := first | assumption | omega) only [go_sem, Int.reduceAdd, Int.reduceSub, Int.reduceMul, Int.reduceNeg, Int.reduceLT, Int.reduceLE, Int.reduceEq, Int.reduceNe, Int.reduceToNat, Int.reduceMod, Int.reduceDiv, Int.reducePow, Nat.reduceAdd, Nat.reduceSub, Nat.reduceMul, Nat.reduceLT, Nat.reduceLeDiff, Nat.reduceEqDiff, Nat.reduceMod, Nat.reduceDiv, Nat.reducePow, reduceCtorEq, ↓reduceIte, wrap_i64, wrap_u8, wrap_u32, wrap_u64, Int.tmod_eq_emod_of_nonneg, Int.tdiv_eq_ediv_of_nonneg]) | skip))
      rw [hw0, hw, wasteL_step xs i s (by omega), if_pos (by omega)]
    · focus (refine loop_next (i + 1, s + (chunksFor (xs.getD i 0) * 16 - xs.getD i 0)) [] [] [false, false, false, true, false, false, false, false, false, false, false, true, true, true, false, false, false, false, false, false, false, false, false, false, false, false, false, false, false, false, false, false, false, false, false] rfl ?_ ?_ ?_; (try (first | rfl | (simp (implicitDefEqProofs := false) (dsimp := false) only [go_sem, Int.reduceAdd, Int.reduceSub, Int.reduceMul, Int.reduceNeg, Int.reduceLT, Int.reduceLE, Int.reduceEq, Int.reduceNe, Int.reduceToNat, Int.reduceMod, Int.reduceDiv, Int.reducePow, Nat.reduceAdd, Nat.reduceSub, Nat.reduceMul, Nat.reduceLT, Nat.reduceLeDiff, Nat.reduceEqDiff, Nat.reduceMod, Nat.reduceDiv, Nat.reducePow, reduceCtorEq, ↓reduceIte, St.mk.injEq, List.cons.injEq, AV.v.injEq, Value.int.injEq, AV.sl.injEq, Option.some.injEq, Ob.mk.injEq, true_and, and_true, Int.natCast_add, Int.cast_ofNat_Int]; omega) | (simp (implicitDefEqProofs := false) (dsimp := false) only [go_sem, Int.reduceAdd, Int.reduceSub, Int.reduceMul, Int.reduceNeg, Int.reduceLT, Int.reduceLE, Int.reduceEq, Int.reduceNe, Int.reduceToNat, Int.reduceMod, Int.reduceDiv, Int.reducePow, Nat.reduceAdd, Nat.reduceSub, Nat.reduceMul, Nat.reduceLT, Nat.reduceLeDiff, Nat.reduceEqDiff, Nat.reduceMod, Nat.reduceDiv, Nat.reducePow, reduceCtorEq, ↓reduceIte, St.mk.injEq, List.cons.injEq, AV.v.injEq, Value.int.injEq, AV.sl.injEq, Option.some.injEq, Ob.mk.injEq, true_and, and_true, Int.natCast_add, Int.cast_ofNat_Int]; done) | (simp (implicitDefEqProofs := false) (dsimp := false) only [go_sem, Int.reduceAdd, Int.reduceSub, Int.reduceMul, Int.reduceNeg, Int.reduceLT, Int.reduceLE, Int.reduceEq, Int.reduceNe, Int.reduceToNat, Int.reduceMod, Int.reduceDiv, Int.reducePow, Nat.reduceAdd, Nat.reduceSub, Nat.reduceMul, Nat.reduceLT, Nat.reduceLeDiff, Nat.reduceEqDiff, Nat.reduceMod, Nat.reduceDiv, Nat.reducePow, reduceCtorEq, ↓reduceIte, St.mk.injEq, List.cons.injEq, AV.v.injEq, Value.int.injEq, AV.sl.injEq, Option.some.injEq, Ob.mk.injEq, true_and, and_true, Int.natCast_add, Int.cast_ofNat_Int]))); all_goals try (first | omega | (simp only; omega)); all_goals (try dsimp only))
      dsimp only
      refine ⟨by omega, by omega, by omega, ?_⟩
      rw [hw, wasteL_step xs i s (by omega), if_neg (by omega), wh2 (by omega)]
    · focus (refine body_ret [] [] rfl rfl ?_ ?_; all_goals (first | (with_reducible rfl) | (simp (implicitDefEqProofs := false) (dsimp := false) (disch := first | assumption | omega) only [go_sem, Int.reduceAdd, Int.reduceSub, Int.reduceMul, Int.reduceNeg, Int.reduceLT, Int.reduceLE, Int.reduceEq, Int.reduceNe, Int.reduceToNat, Int.reduceMod, Int.reduceDiv, Int.reducePow, Nat.reduceAdd, Nat.reduceSub, Nat.reduceMul, Nat.reduceLT, Nat.reduceLeDiff, Nat.reduceEqDiff, Nat.reduceMod, Nat.reduceDiv, Nat.reducePow, reduceCtorEq, ↓reduceIte, wrap_i64, wrap_u8, wrap_u32, wrap_u64, Int.tmod_eq_emod_of_nonneg, Int.tdiv_eq_ediv_of_nonneg]) | skip))
      obtain rfl : i = xs.length := by omega
      rw [hw0, hw, List.drop_length]
      rfl

theorem c_specClassOf (a : Int) : Con Try.prog 75 [(.v (.int .i64 (a)))] [] ((.v (.int .i64 (classOf a)))) [] := by
  refine con_of_body (C := cxOf Try.prog) cxOk [(2, none)] Try.func75 rfl rfl rfl ?_
  simp only [Try.ntmps75, List.length_cons, List.length_nil, Nat.reduceAdd, Nat.reduceSub, List.replicate, List.cons_append, List.nil_append, List.append_nil]
  repeat' (first
    | ((with_reducible refine nrm ?_); try simp (implicitDefEqProofs := false) (dsimp := false) (disch := first | assumption | omega) only [go_sem, Int.reduceAdd, Int.reduceSub, Int.reduceMul, Int.reduceNeg, Int.reduceLT, Int.reduceLE, Int.reduceEq, Int.reduceNe, Int.reduceToNat, Int.reduceMod, Int.reduceDiv, Int.reducePow, Nat.reduceAdd, Nat.reduceSub, Nat.reduceMul, Nat.reduceLT, Nat.reduceLeDiff, Nat.reduceEqDiff, Nat.reduceMod, Nat.reduceDiv, Nat.reducePow, reduceCtorEq, ↓reduceIte, wrap_i64, wrap_u8, wrap_u32, wrap_u64, Int.tmod_eq_emod_of_nonneg, Int.tdiv_eq_ediv_of_nonneg])
    | (with_reducible refine sem_seqK fun K => ?_)
    | (with_reducible refine kt_f _ ?_)
    | (with_reducible refine regionN cxOk ?_)
    | (with_reducible refine drawN cxOk 4 ?_)
    | (with_reducible refine retN ?_)
    | (with_reducible refine skipN ?_)
    | (with_reducible refine exitN ?_)
    | (with_reducible refine sem_block ?_)
    | (with_reducible refine condN ?_)
    | (with_reducible refine condD_true ?_)
    | (with_reducible refine condD_false ?_)
    | (with_reducible refine condNq (fun hc => ?_) ?_)
    | (with_reducible refine condPN (by simp only [go_sem]; rfl) (by simp only [go_sem]; rfl) (fun hc => ?_) (fun hc => ?_))
    | (with_reducible refine condNN (by simp only [go_sem]; rfl) (by simp only [go_sem]; rfl) (fun hc => ?_) (fun hc => ?_))
    | (with_reducible refine condBN (by simp only [go_sem]; rfl) (by simp only [go_sem]; rfl) (fun hc => ?_) (fun hc => ?_) <;> (try simp only [Bool.not_eq_eq_eq_not, Bool.not_true, Bool.not_false, Bool.and_eq_true, Bool.and_eq_false_imp, Bool.or_eq_true, Bool.or_eq_false_iff, decide_eq_true_eq, decide_eq_false_iff_not] at hc))
    | ((with_reducible refine chk_by ?_); decide +kernel)
    | (with_reducible refine aft_intro ?_ (fun hc => ?_))
    | (with_reducible refine imp_intro' (fun hc => ?_))
    | (with_reducible refine And.intro ?_ ?_)
    | (with_reducible refine fun d ⟨ha, hc⟩ => ?_)
    | (with_reducible intro hc)
    | (with_reducible assumption)
    | omega
    | (with_reducible refine Int.emod_nonneg _ ?_)
    | (with_reducible refine Int.emod_lt_of_pos _ ?_))
  refine sem_loopF (α := Nat) [] [] [true, false, false, true, false, false, false, false, false, false, false, false, false, false, false, false, false] (fun k => k ≤ 5 ∧ (k = 0 ∨ (2 : Int) ^ (k - 1) < a)) (fun k S => ⟨(S.t).set 3 ((.v (.int .i64 (k)))), S.h⟩) (fun k => 5 - k) (0) rfl (by simp only [go_sem, Int.reduceAdd, Int.reduceSub, Int.reduceMul, Int.reduceNeg, Int.reduceLT, Int.reduceLE, Int.reduceEq, Int.reduceNe, Int.reduceToNat, Int.reduceMod, Int.reduceDiv, Int.reducePow, Nat.reduceAdd, Nat.reduceSub, Nat.reduceMul, Nat.reduceLT, Nat.reduceLeDiff, Nat.reduceEqDiff, Nat.reduceMod, Nat.reduceDiv, Nat.reducePow, reduceCtorEq, ↓reduceIte]; rfl) ?_ ?_ ?_
  · rfl
  · simp
  rintro k hI
  try simp only at hI
  simp only [go_sem, Int.reduceAdd, Int.reduceSub, Int.reduceMul, Int.reduceNeg, Int.reduceLT, Int.reduceLE, Int.reduceEq, Int.reduceNe, Int.reduceToNat, Int.reduceMod, Int.reduceDiv, Int.reducePow, Nat.reduceAdd, Nat.reduceSub, Nat.reduceMul, Nat.reduceLT, Nat.reduceLeDiff, Nat.reduceEqDiff, Nat.reduceMod, Nat.reduceDiv, Nat.reducePow, reduceCtorEq, ↓reduceIte]
  obtain ⟨hk, hp⟩ := hI
  have hk5 : k = 0 ∨ k = 1 ∨ k = 2 ∨ k = 3 ∨ k = 4 ∨ k = 5 := by omega
  repeat' (first
    | ((with_reducible refine nrm ?_); try simp (implicitDefEqProofs := false) (dsimp := false) (disch := first | assumption | omega) only [go_sem, Int.reduceAdd, Int.reduceSub, Int.reduceMul, Int.reduceNeg, Int.reduceLT, Int.reduceLE, Int.reduceEq, Int.reduceNe, Int.reduceToNat, Int.reduceMod, Int.reduceDiv, Int.reducePow, Nat.reduceAdd, Nat.reduceSub, Nat.reduceMul, Nat.reduceLT, Nat.reduceLeDiff, Nat.reduceEqDiff, Nat.reduceMod, Nat.reduceDiv, Nat.reducePow, reduceCtorEq, ↓reduceIte, wrap_i64, wrap_u8, wrap_u32, wrap_u64, Int.tmod_eq_emod_of_nonneg, Int.tdiv_eq_ediv_of_nonneg])
    | (with_reducible refine sem_seqK fun K => ?_)
    | (with_reducible refine kt_f _ ?_)
    | (with_reducible refine regionN cxOk ?_)
    | (with_reducible refine drawN cxOk 4 ?_)
    | (with_reducible refine retN ?_)
    | (with_reducible refine skipN ?_)
    | (with_reducible refine exitN ?_)
    | (with_reducible refine sem_block ?_)
    | (with_reducible refine condN ?_)
    | (with_reducible refine condD_true ?_)
    | (with_reducible refine condD_false ?_)
    | (with_reducible refine condNq (fun hc => ?_) ?_)
    | (with_reducible refine condPN (by simp only [go_sem]; rfl) (by simp only [go_sem]; rfl) (fun hc => ?_) (fun hc => ?_))
    | (with_reducible refine condNN (by simp only [go_sem]; rfl) (by simp only [go_sem]; rfl) (fun hc => ?_) (fun hc => ?_))
    | (with_reducible refine condBN (by simp only [go_sem]; rfl) (by simp only [go_sem]; rfl) (fun hc => ?_) (fun hc => ?_) <;> (try simp only [Bool.not_eq_eq_eq_not, Bool.not_true, Bool.not_false, Bool.and_eq_true, Bool.and_eq_false_imp, Bool.or_eq_true, Bool.or_eq_false_iff, decide_eq_true_eq, decide_eq_false_iff_not] at hc))
    | ((with_reducible refine chk_by ?_); decide +kernel)
    | (with_reducible apply callN)
    | (with_reducible apply callRN [])
    | ((with_reducible refine nrmE ?_); (simp (implicitDefEqProofs := false) (dsimp := false) (disch := first | assumption | omega) only [go_sem, Int.reduceAdd, Int.reduceSub, Int.reduceMul, Int.reduceNeg, Int.reduceLT, Int.reduceLE, Int.reduceEq, Int.reduceNe, Int.reduceToNat, Int.reduceMod, Int.reduceDiv, Int.reducePow, Nat.reduceAdd, Nat.reduceSub, Nat.reduceMul, Nat.reduceLT, Nat.reduceLeDiff, Nat.reduceEqDiff, Nat.reduceMod, Nat.reduceDiv, Nat.reducePow, reduceCtorEq, ↓reduceIte, wrap_i64, wrap_u8, wrap_u32, wrap_u64, Int.tmod_eq_emod_of_nonneg, Int.tdiv_eq_ediv_of_nonneg]) <;> rfl)
    | apply c_l04Pow
    | (with_reducible refine aft_intro ?_ (fun hc => ?_))
    | (with_reducible refine imp_intro' (fun hc => ?_))
    | (with_reducible refine And.intro ?_ ?_)
    | (with_reducible refine fun d ⟨ha, hc⟩ => ?_)
    | (with_reducible intro hc)
    | (with_reducible assumption)
    | omega
    | (with_reducible refine Int.emod_nonneg _ ?_)
    | (with_reducible refine Int.emod_lt_of_pos _ ?_))
  · focus (refine body_ret [] [] rfl rfl ?_ ?_; all_goals (first | (with_reducible rfl) | (simp (implicitDefEqProofs := false) (dsimp := false) (disch := first | assumption | omega) only [go_sem, Int.reduceAdd, Int.reduceSub, Int.reduceMul, Int.reduceNeg, Int.reduceLT, Int.reduceLE, Int.reduceEq, Int.reduceNe, Int.reduceToNat, Int.reduceMod, Int.reduceDiv, Int.reducePow, Nat.reduceAdd, Nat.reduceSub, Nat.reduceMul, Nat.reduceLT, Nat.reduceLeDiff, Nat.reduceEqDiff, Nat.reduceMod, Nat.reduceDiv, Nat.reducePow, reduceCtorEq, ↓reduceIte, wrap_i64, wrap_u8, wrap_u32, wrap_u64, Int.tmod_eq_emod_of_nonneg, Int.tdiv_eq_ediv_of_nonneg]) | skip))
    have : classOf a = k := by
      unfold classOf len4
      rcases hk5 with rfl | rfl | rfl | rfl | rfl | rfl <;> simp at * <;> (repeat' split) <;> omega
    rw [this]
  · focus (refine loop_next (k + 1) [] [] [true, false, false, true, false, false, false, false, false, false, false, false, false, false, false, false, false] rfl ?_ ?_ ?_; (try (first | rfl | (simp (implicitDefEqProofs := false) (dsimp := false) only [go_sem, Int.reduceAdd, Int.reduceSub, Int.reduceMul, Int.reduceNeg, Int.reduceLT, Int.reduceLE, Int.reduceEq, Int.reduceNe, Int.reduceToNat, Int.reduceMod, Int.reduceDiv, Int.reducePow, Nat.reduceAdd, Nat.reduceSub, Nat.reduceMul, Nat.reduceLT, Nat.reduceLeDiff, Nat.reduceEqDiff, Nat.reduceMod, Nat.reduceDiv, Nat.reducePow, reduceCtorEq, ↓reduceIte, St.mk.injEq, List.cons.injEq, AV.v.injEq, Value.int.injEq, AV.sl.injEq, Option.some.injEq, Ob.mk.injEq, true_and, and_true, Int.natCast_add, Int.cast_ofNat_Int]; omega) | (simp (implicitDefEqProofs := false) (dsimp := false) only [go_sem, Int.reduceAdd, Int.reduceSub, Int.reduceMul, Int.reduceNeg, Int.reduceLT, Int.reduceLE, Int.reduceEq, Int.reduceNe, Int.reduceToNat, Int.reduceMod, Int.reduceDiv, Int.reducePow, Nat.reduceAdd, Nat.reduceSub, Nat.reduceMul, Nat.reduceLT, Nat.reduceLeDiff, Nat.reduceEqDiff, Nat.reduceMod, Nat.reduceDiv, Nat.reducePow, reduceCtorEq, ↓reduceIte, St.mk.injEq, List.cons.injEq, AV.v.injEq, Value.int.injEq, AV.sl.injEq, Option.some.injEq, Ob.mk.injEq, true_and, and_true, Int.natCast_add, Int.cast_ofNat_Int]; done) | (simp (implicitDefEqProofs := false) (dsimp := false) only [go_sem, Int.reduceAdd, Int.reduceSub, Int.reduceMul, Int.reduceNeg, Int.reduceLT, Int.reduceLE, Int.reduceEq, Int.reduceNe, Int.reduceToNat, Int.reduceMod, Int.reduceDiv, Int.reducePow, Nat.reduceAdd, Nat.reduceSub, Nat.reduceMul, Nat.reduceLT, Nat.reduceLeDiff, Nat.reduceEqDiff, Nat.reduceMod, Nat.reduceDiv, Nat.reducePow, reduceCtorEq, ↓reduceIte, St.mk.injEq, List.cons.injEq, AV.v.injEq, Value.int.injEq, AV.sl.injEq, Option.some.injEq, Ob.mk.injEq, true_and, and_true, Int.natCast_add, Int.cast_ofNat_Int]))); all_goals try (first | omega | (simp only; omega)); all_goals (try dsimp only))
    exact ⟨by omega, .inr (by rw [show k + 1 - 1 = k by omega]; omega)⟩
  · focus (refine body_ret [] [] rfl rfl ?_ ?_; all_goals (first | (with_reducible rfl) | (simp (implicitDefEqProofs := false) (dsimp := false) (disch := first | assumption | omega) only [go_sem, Int.reduceAdd, Int.reduceSub, Int.reduceMul, Int.reduceNeg, Int.reduceLT, Int.reduceLE, Int.reduceEq, Int.reduceNe, Int.reduceToNat, Int.reduceMod, Int.reduceDiv, Int.reducePow, Nat.reduceAdd, Nat.reduceSub, Nat.reduceMul, Nat.reduceLT, Nat.reduceLeDiff, Nat.reduceEqDiff, Nat.reduceMod, Nat.reduceDiv, Nat.reducePow, reduceCtorEq, ↓reduceIte, wrap_i64, wrap_u8, wrap_u32, wrap_u64, Int.tmod_eq_emod_of_nonneg, Int.tdiv_eq_ediv_of_nonneg]) | skip))
    rw [classOf, if_neg (by omega)]
  · focus (refine body_ret [] [] rfl rfl ?_ ?_; all_goals (first | (with_reducible rfl) | (simp (implicitDefEqProofs := false) (dsimp := false) (disch := first | assumption | omega) only [go_sem, Int.reduceAdd, Int.reduceSub, Int.reduceMul, Int.reduceNeg, Int.reduceLT, Int.reduceLE, Int.reduceEq, Int.reduceNe, Int.reduceToNat, Int.reduceMod, Int.reduceDiv, Int.reducePow, Nat.reduceAdd, Nat.reduceSub, Nat.reduceMul, Nat.reduceLT, Nat.reduceLeDiff, Nat.reduceEqDiff, Nat.reduceMod, Nat.reduceDiv, Nat.reducePow, reduceCtorEq, ↓reduceIte, wrap_i64, wrap_u8, wrap_u32, wrap_u64, Int.tmod_eq_emod_of_nonneg, Int.tdiv_eq_ediv_of_nonneg]) | skip))
    obtain rfl : k = 5 := by omega
    have : 16 < a := by simpa using hp
    rw [classOf, if_neg (by omega)]

theorem c_specWaste (b : Bool) (xs : List Int) (hl : xs.length ≤ 1000000) : Con Try.prog 24 [.bor b (xs.map (cI .i64))] [] ((.v (.int .i64 (waste xs)))) [] := by
  refine con_of_body (C := cxOf Try.prog) cxOk [(2, none)] Try.func24 rfl rfl rfl ?_
  simp only [Try.ntmps24, List.length_cons, List.length_nil, Nat.reduceAdd, Nat.reduceSub, List.replicate, List.cons_append, List.nil_append, List.append_nil]
  repeat' (first
    | ((with_reducible refine nrm ?_); try simp (implicitDefEqProofs := false) (dsimp := false) (disch := first | assumption | omega) only [go_sem, Int.reduceAdd, Int.reduceSub, Int.reduceMul, Int.reduceNeg, Int.reduceLT, Int.reduceLE, Int.reduceEq, Int.reduceNe, Int.reduceToNat, Int.reduceMod, Int.reduceDiv, Int.reducePow, Nat.reduceAdd, Nat.reduceSub, Nat.reduceMul, Nat.reduceLT, Nat.reduceLeDiff, Nat.reduceEqDiff, Nat.reduceMod, Nat.reduceDiv, Nat.reducePow, reduceCtorEq, ↓reduceIte, wrap_i64, wrap_u8, wrap_u32, wrap_u64, Int.tmod_eq_emod_of_nonneg, Int.tdiv_eq_ediv_of_nonneg])
    | (with_reducible refine sem_seqK fun K => ?_)
    | (with_reducible refine kt_f _ ?_)
    | (with_reducible refine regionN cxOk ?_)
    | (with_reducible refine drawN cxOk 4 ?_)
    | (with_reducible refine retN ?_)
    | (with_reducible refine skipN ?_)
    | (with_reducible refine exitN ?_)
    | (with_reducible refine sem_block ?_)
    | (with_reducible refine condN ?_)
    | (with_reducible refine condD_true ?_)
    | (with_reducible refine condD_false ?_)
    | (with_reducible refine condNq (fun hc => ?_) ?_)
    | (with_reducible refine condPN (by simp only [go_sem]; rfl) (by simp only [go_sem]; rfl) (fun hc => ?_) (fun hc => ?_))
    | (with_reducible refine condNN (by simp only [go_sem]; rfl) (by simp only [go_sem]; rfl) (fun hc => ?_) (fun hc => ?_))
    | (with_reducible refine condBN (by simp only [go_sem]; rfl) (by simp only [go_sem]; rfl) (fun hc => ?_) (fun hc => ?_) <;> (try simp only [Bool.not_eq_eq_eq_not, Bool.not_true, Bool.not_false, Bool.and_eq_true, Bool.and_eq_false_imp, Bool.or_eq_true, Bool.or_eq_false_iff, decide_eq_true_eq, decide_eq_false_iff_not] at hc))
    | ((with_reducible refine chk_by ?_); decide +kernel)
    | (with_reducible refine aft_intro ?_ (fun hc => ?_))
    | (with_reducible refine imp_intro' (fun hc => ?_))
    | (with_reducible refine And.intro ?_ ?_)
    | (with_reducible refine fun d ⟨ha, hc⟩ => ?_)
    | (with_reducible intro hc)
    | (with_reducible assumption)
    | omega
    | (with_reducible refine Int.emod_nonneg _ ?_)
    | (with_reducible refine Int.emod_lt_of_pos _ ?_))
  · focus (refine body_ret [] [] rfl rfl ?_ ?_; all_goals (first | (with_reducible rfl) | (simp (implicitDefEqProofs := false) (dsimp := false) (disch := first | assumption | omega) only [go_sem, Int.reduceAdd, Int.reduceSub, Int.reduceMul, Int.reduceNeg, Int.reduceLT, Int.reduceLE, Int.reduceEq, Int.reduceNe, Int.reduceToNat, Int.reduceMod, Int.reduceDiv, Int.reducePow, Nat.reduceAdd, Nat.reduceSub, Nat.reduceMul, Nat.reduceLT, Nat.reduceLeDiff, Nat.reduceEqDiff, Nat.reduceMod, Nat.reduceDiv, Nat.reducePow, reduceCtorEq, ↓reduceIte, wrap_i64, wrap_u8, wrap_u32, wrap_u64, Int.tmod_eq_emod_of_nonneg, Int.tdiv_eq_ediv_of_nonneg]) | skip))
    rw [waste, if_pos (by omega)]
  · have hw0 : waste xs = wasteL xs 0 := if_neg (by omega)
    refine sem_loopF (α := Nat × Int) [] [] [true, false, false, true, true, false, false, false, false, false, false, false, false, false, false, false, false, false, false, false, false, false, false, false, false, false, false, false, false, false, false, false, false, false, false, false, false, false, false, false, false, false, false, false, false, false, false, false, false, false, false] (fun (i, s) => i ≤ xs.length ∧ 0 ≤ s ∧ s ≤ 16 * i ∧ wasteL xs 0 = wasteL (xs.drop i) s) (fun (i, s) S => ⟨((S.t).set 3 ((.v (.int .i64 (s))))).set 4 ((.v (.int .i64 (i)))), S.h⟩) (fun (i, s) => xs.length - i) (0, 0) rfl (by simp only [go_sem, Int.reduceAdd, Int.reduceSub, Int.reduceMul, Int.reduceNeg, Int.reduceLT, Int.reduceLE, Int.reduceEq, Int.reduceNe, Int.reduceToNat, Int.reduceMod, Int.reduceDiv, Int.reducePow, Nat.reduceAdd, Nat.reduceSub, Nat.reduceMul, Nat.reduceLT, Nat.reduceLeDiff, Nat.reduceEqDiff, Nat.reduceMod, Nat.reduceDiv, Nat.reducePow, reduceCtorEq, ↓reduceIte]; rfl) ?_ ?_ ?_
    · rfl
    · simp
    rintro ⟨i, s⟩ hI
    try simp only at hI
    simp only [go_sem, Int.reduceAdd, Int.reduceSub, Int.reduceMul, Int.reduceNeg, Int.reduceLT, Int.reduceLE, Int.reduceEq, Int.reduceNe, Int.reduceToNat, Int.reduceMod, Int.reduceDiv, Int.reducePow, Nat.reduceAdd, Nat.reduceSub, Nat.reduceMul, Nat.reduceLT, Nat.reduceLeDiff, Nat.reduceEqDiff, Nat.reduceMod, Nat.reduceDiv, Nat.reducePow, reduceCtorEq, ↓reduceIte]
    obtain ⟨hi, hs0, hs1, hw⟩ := hI
    have wb := whole_bound (xs.getD i 0)
    have cb := class_bound (xs.getD i 0)
    have kb := chunks_bound (xs.getD i 0)
    have zb := size_bound (classOf (xs.getD i 0))
    have wh1 : 0 ≤ classOf (xs.getD i 0) → wholeOf (xs.getD i 0) = classSize (classOf (xs.getD i 0)) := fun h => if_pos h
    have wh2 : ¬ 0 ≤ classOf (xs.getD i 0) → wholeOf (xs.getD i 0) = chunksFor (xs.getD i 0) * 16 := fun h => if_neg h
    have sg : 0 ≤ classOf (xs.getD i 0) → xs.getD i 0 ≤ classSize (classOf (xs.getD i 0)) := size_ge
    repeat' (first
      | ((with_reducible refine nrm ?_); try simp (implicitDefEqProofs := false) (dsimp := false) (disch := first | assumption | omega) only [go_sem, Int.reduceAdd, Int.reduceSub, Int.reduceMul, Int.reduceNeg, Int.reduceLT, Int.reduceLE, Int.reduceEq, Int.reduceNe, Int.reduceToNat, Int.reduceMod, Int.reduceDiv, Int.reducePow, Nat.reduceAdd, Nat.reduceSub, Nat.reduceMul, Nat.reduceLT, Nat.reduceLeDiff, Nat.reduceEqDiff, Nat.reduceMod, Nat.reduceDiv, Nat.reducePow, reduceCtorEq, ↓reduceIte, wrap_i64, wrap_u8, wrap_u32, wrap_u64, Int.tmod_eq_emod_of_nonneg, Int.tdiv_eq_ediv_of_nonneg])
      | (with_reducible refine sem_seqK fun K => ?_)
      | (with_reducible refine kt_f _ ?_)
      | (with_reducible refine regionN cxOk ?_)
      | (with_reducible refine drawN cxOk 4 ?_)
      | (with_reducible refine retN ?_)
      | (with_reducible refine skipN ?_)
      | (with_reducible refine exitN ?_)
      | (with_reducible refine sem_block ?_)
      | (with_reducible refine condN ?_)
      | (with_reducible refine condD_true ?_)
      | (with_reducible refine condD_false ?_)
      | (with_reducible refine condNq (fun hc => ?_) ?_)
      | (with_reducible refine condPN (by simp only [go_sem]; rfl) (by simp only [go_sem]; rfl) (fun hc => ?_) (fun hc => ?_))
      | (with_reducible refine condNN (by simp only [go_sem]; rfl) (by simp only [go_sem]; rfl) (fun hc => ?_) (fun hc => ?_))
      | (with_reducible refine condBN (by simp only [go_sem]; rfl) (by simp only [go_sem]; rfl) (fun hc => ?_) (fun hc => ?_) <;> (try simp only [Bool.not_eq_eq_eq_not, Bool.not_true, Bool.not_false, Bool.and_eq_true, Bool.and_eq_false_imp, Bool.or_eq_true, Bool.or_eq_false_iff, decide_eq_true_eq, decide_eq_false_iff_not] at hc))
      | ((with_reducible refine chk_by ?_); decide +kernel)
      | (with_reducible apply callN)
      | (with_reducible apply callRN [])
      | ((with_reducible refine nrmE ?_); (simp (implicitDefEqProofs := false) (dsimp := false) (disch := first | assumption | omega) only [go_sem, Int.reduceAdd, Int.reduceSub, Int.reduceMul, Int.reduceNeg, Int.reduceLT, Int.reduceLE, Int.reduceEq, Int.reduceNe, Int.reduceToNat, Int.reduceMod, Int.reduceDiv, Int.reducePow, Nat.reduceAdd, Nat.reduceSub, Nat.reduceMul, Nat.reduceLT, Nat.reduceLeDiff, Nat.reduceEqDiff, Nat.reduceMod, Nat.reduceDiv, Nat.reducePow, reduceCtorEq, ↓reduceIte, wrap_i64, wrap_u8, wrap_u32, wrap_u64, Int.tmod_eq_emod_of_nonneg, Int.tdiv_eq_ediv_of_nonneg]) <;> rfl)
      | apply c_specChunksFor
      | apply c_specClassOf
      | apply c_specClassSize
      | (with_reducible refine aft_intro ?_ (fun hc => ?_))
      | (with_reducible refine imp_intro' (fun hc => ?_))
      | (with_reducible refine And.intro ?_ ?_)
      | (with_reducible refine fun d ⟨ha, hc⟩ => ?_)
      | (with_reducible intro hc)
      | (with_reducible assumption)
      | omega
      | (with_reducible refine Int.emod_nonneg _ ?_)
      | (with_reducible refine Int.emod_lt_of_pos _ ?_))
    · focus (refine loop_next (i + 1, s + (classSize (classOf (xs.getD i 0)) - xs.getD i 0)) [] [] [true, false, false, true, true, false, false, false, false, false, false, false, false, false, false, false, false, false, false, false, false, false, false, false, false, false, false, false, false, false, false, false, false, false, false, false, false, false, false, false, false, false, false, false, false, false, false, false, false, false, false] rfl ?_ ?_ ?_; (try (first | rfl | (simp (implicitDefEqProofs := false) (dsimp := false) only [go_sem, Int.reduceAdd, Int.reduceSub, Int.reduceMul, Int.reduceNeg, Int.reduceLT, Int.reduceLE, Int.reduceEq, Int.reduceNe, Int.reduceToNat, Int.reduceMod, Int.reduceDiv, Int.reducePow, Nat.reduceAdd, Nat.reduceSub, Nat.reduceMul, Nat.reduceLT, Nat.reduceLeDiff, Nat.reduceEqDiff, Nat.reduceMod, Nat.reduceDiv, Nat.reducePow, reduceCtorEq, ↓reduceIte, St.mk.injEq, List.cons.injEq, AV.v.injEq, Value.int.injEq, AV.sl.injEq, Option.some.injEq, Ob.mk.injEq, true_and, and_true, Int.natCast_add, Int.cast_ofNat_Int]; omega) | (simp (implicitDefEqProofs := false) (dsimp := false) only [go_sem, Int.reduceAdd, Int.reduceSub, Int.reduceMul, Int.reduceNeg, Int.reduceLT, Int.reduceLE, Int.reduceEq, Int.reduceNe, Int.reduceToNat, Int.reduceMod, Int.reduceDiv, Int.reducePow, Nat.reduceAdd, Nat.reduceSub, Nat.reduceMul, Nat.reduceLT, Nat.reduceLeDiff, Nat.reduceEqDiff, Nat.reduceMod, Nat.reduceDiv, Nat.reducePow, reduceCtorEq, ↓reduceIte, St.mk.injEq, List.cons.injEq, AV.v.injEq, Value.int.injEq, AV.sl.injEq, Option.some.injEq, Ob.mk.injEq, true_and, and_true, Int.natCast_add, Int.cast_ofNat_Int]; done) | (simp (implicitDefEqProofs := false) (dsimp := false) only [go_sem, Int.reduceAdd, Int.reduceSub, Int.reduceMul, Int.reduceNeg, Int.reduceLT, Int.reduceLE, Int.reduceEq, Int.reduceNe, Int.reduceToNat, Int.reduceMod, Int.reduceDiv, Int.reducePow, Nat.reduceAdd, Nat.reduceSub, Nat.reduceMul, Nat.reduceLT, Nat.reduceLeDiff, Nat.reduceEqDiff, Nat.reduceMod, Nat.reduceDiv, Nat.reducePow, reduceCtorEq, ↓reduceIte, St.mk.injEq, List.cons.injEq, AV.v.injEq, Value.int.injEq, AV.sl.injEq, Option.some.injEq, Ob.mk.injEq, true_and, and_true, Int.natCast_add, Int.cast_ofNat_Int]))); all_goals try (first | omega | (simp only; omega)); all_goals (try dsimp only))
      dsimp only
      refine ⟨by omega, by omega, by omega, ?_⟩
      rw [hw, wasteL_step xs i s (by omega), if_neg (by omega), wh1 (by omega)]
    · focus (refine loop_next (i + 1, s + (chunksFor (xs.getD i 0) * 16 - xs.getD i 0)) [] [] [true, false, false, true, true, false, false, false, false, false, false, false, false, false, false, false, false, false, false, false, false, false, false, false, false, false, false, false, false, false, false, false, false, false, false, false, false, false, false, false, false, false, false, false, false, false, false, false, false, false, false] rfl ?_ ?_ ?_; (try (first | rfl | (simp (implicitDefEqProofs := false) (dsimp := false) only [go_sem, Int.reduceAdd, Int.reduceSub, Int.reduceMul, Int.reduceNeg, Int.reduceLT, Int.reduceLE, Int.reduceEq, Int.reduceNe, Int.reduceToNat, Int.reduceMod, Int.reduceDiv, Int.reducePow, Nat.reduceAdd, Nat.reduceSub, Nat.reduceMul, Nat.reduceLT, Nat.reduceLeDiff, Nat.reduceEqDiff, Nat.reduceMod, Nat.reduceDiv, Nat.reducePow, reduceCtorEq, ↓reduceIte, St.mk.injEq, List.cons.injEq, AV.v.injEq, Value.int.injEq, AV.sl.injEq, Option.some.injEq, Ob.mk.injEq, true_and, and_true, Int.natCast_add, Int.cast_ofNat_Int]; omega) | (simp (implicitDefEqProofs := false) (dsimp := false) only [go_sem, Int.reduceAdd, Int.reduceSub, Int.reduceMul, Int.reduceNeg, Int.reduceLT, Int.reduceLE, Int.reduceEq, Int.reduceNe, Int.reduceToNat, Int.reduceMod, Int.reduceDiv, Int.reducePow, Nat.reduceAdd, Nat.reduceSub, Nat.reduceMul, Nat.reduceLT, Nat.reduceLeDiff, Nat.reduceEqDiff, Nat.reduceMod, Nat.reduceDiv, Nat.reducePow, reduceCtorEq, ↓reduceIte, St.mk.injEq, List.cons.injEq, AV.v.injEq, Value.int.injEq, AV.sl.injEq, Option.some.injEq, Ob.mk.injEq, true_and, and_true, Int.natCast_add, Int.cast_ofNat_Int]; done) | (simp (implicitDefEqProofs := false) (dsimp := false) only [go_sem, Int.reduceAdd, Int.reduceSub, Int.reduceMul, Int.reduceNeg, Int.reduceLT, Int.reduceLE, Int.reduceEq, Int.reduceNe, Int.reduceToNat, Int.reduceMod, Int.reduceDiv, Int.reducePow, Nat.reduceAdd, Nat.reduceSub, Nat.reduceMul, Nat.reduceLT, Nat.reduceLeDiff, Nat.reduceEqDiff, Nat.reduceMod, Nat.reduceDiv, Nat.reducePow, reduceCtorEq, ↓reduceIte, St.mk.injEq, List.cons.injEq, AV.v.injEq, Value.int.injEq, AV.sl.injEq, Option.some.injEq, Ob.mk.injEq, true_and, and_true, Int.natCast_add, Int.cast_ofNat_Int]))); all_goals try (first | omega | (simp only; omega)); all_goals (try dsimp only))
      dsimp only
      refine ⟨by omega, by omega, by omega, ?_⟩
      rw [hw, wasteL_step xs i s (by omega), if_neg (by omega), wh2 (by omega)]
    · focus (refine body_ret [] [] rfl rfl ?_ ?_; all_goals (first | (with_reducible rfl) | (simp (implicitDefEqProofs := false) (dsimp := false) (disch := first | assumption | omega) only [go_sem, Int.reduceAdd, Int.reduceSub, Int.reduceMul, Int.reduceNeg, Int.reduceLT, Int.reduceLE, Int.reduceEq, Int.reduceNe, Int.reduceToNat, Int.reduceMod, Int.reduceDiv, Int.reducePow, Nat.reduceAdd, Nat.reduceSub, Nat.reduceMul, Nat.reduceLT, Nat.reduceLeDiff, Nat.reduceEqDiff, Nat.reduceMod, Nat.reduceDiv, Nat.reducePow, reduceCtorEq, ↓reduceIte, wrap_i64, wrap_u8, wrap_u32, wrap_u64, Int.tmod_eq_emod_of_nonneg, Int.tdiv_eq_ediv_of_nonneg]) | skip))
      rw [hw0, hw, wasteL_step xs i s (by omega), if_pos (by omega)]
    · focus (refine body_ret [] [] rfl rfl ?_ ?_; all_goals (first | (with_reducible rfl) | (simp (implicitDefEqProofs := false) (dsimp := false) (disch := first | assumption | omega) only [go_sem, Int.reduceAdd, Int.reduceSub, Int.reduceMul, Int.reduceNeg, Int.reduceLT, Int.reduceLE, Int.reduceEq, Int.reduceNe, Int.reduceToNat, Int.reduceMod, Int.reduceDiv, Int.reducePow, Nat.reduceAdd, Nat.reduceSub, Nat.reduceMul, Nat.reduceLT, Nat.reduceLeDiff, Nat.reduceEqDiff, Nat.reduceMod, Nat.reduceDiv, Nat.reducePow, reduceCtorEq, ↓reduceIte, wrap_i64, wrap_u8, wrap_u32, wrap_u64, Int.tmod_eq_emod_of_nonneg, Int.tdiv_eq_ediv_of_nonneg]) | skip))
      obtain rfl : i = xs.length := by omega
      rw [hw0, hw, List.drop_length]
      rfl


end SA
