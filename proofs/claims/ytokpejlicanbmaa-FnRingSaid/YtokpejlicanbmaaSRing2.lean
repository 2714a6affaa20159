import Derived.Test.YtokpejlicanbmaaSTy
import Derived.Test.YtokpejlicanbmaaSBasic
import Derived.Test.YtokpejlicanbmaaSRing
set_option linter.all false
set_option linter.unusedSimpArgs false
set_option linter.unusedVariables false
set_option maxRecDepth 100000
set_option maxHeartbeats 1000000
open Go Am TyA Go.Proofs
attribute [local irreducible] Beh Con
namespace SA

-- needs basic ring
theorem c_specRingOk (b : Bool) (hd tl : Int) (xs : List (Int × Int)) (hl : xs.length ≤ 1000000) :
    Con Try.prog 20 [.agg [(.v (.int .i64 (hd))), (.v (.int .i64 (tl))), .bor b (xs.map cSl)]] [] ((.v (.bool (ringB hd tl xs)))) [] := by
  refine con_of_body (C := cxOf Try.prog) cxOk [(2, none)] Try.func20 rfl rfl rfl ?_
  simp only [Try.ntmps20, List.length_cons, List.length_nil, Nat.reduceAdd, Nat.reduceSub, List.replicate, List.cons_append, List.nil_append, List.append_nil]
  repeat' (first
    | ((with_reducible refine nrm ?_); try simp (implicitDefEqProofs := false) (dsimp := false) (disch := first | assumption | omega) only [go_sem, Int.reduceAdd, Int.reduceSub, Int.reduceMul, Int.reduceNeg, Int.reduceLT, Int.reduceLE, Int.reduceEq, Int.reduceNe, Int.reduceToNat, Int.reduceMod, Int.reduceDiv, Int.reducePow, Nat.reduceAdd, Nat.reduceSub, Nat.reduceMul, Nat.reduceLT, Nat.reduceLeDiff, Nat.reduceEqDiff, Nat.reduceMod, Nat.reduceDiv, Nat.reducePow, reduceCtorEq, ↓reduceIte, wrap_i64, wrap_u8, wrap_u32, wrap_u64, Int.tmod_eq_emod_of_nonneg, Int.tdiv_eq_ediv_of_nonneg])
    | (with_reducible refine sem_seqK fun K => ?_)
    | (with_reducible refine kt_f _ ?_)
    | (with_reducible refine regionN cxOk ?_)
    | (with_reducible refine drawN cxOk 4 ?_)
    | ((with_reducible refine chk_by ?_); decide +kernel)
    | (with_reducible refine retN ?_)
    | (with_reducible refine skipN ?_)
    | (with_reducible refine exitN ?_)
    | (with_reducible refine sem_block ?_)
    | (with_reducible refine condN ?_)
    | (with_reducible refine condD_true ?_)
    | (with_reducible refine condD_false ?_)
    | (with_reducible refine condNq (fun hc => ?_) ?_)
    | (with_reducible refine condPN (by simp only [go_sem]; rfl) (by simp only [go_sem]; rfl) (fun hc => ?_) (fun hc => ?_))
    | (with_reducible refine condNN (by simp only [go_sem]; rfl) (by simp only [go_sem]; rfl) (fun hc => ?_) (fun hc => ?_))
    | (with_reducible refine condBN (by simp only [go_sem]; rfl) (by simp only [go_sem]; rfl) (fun hc => ?_) (fun hc => ?_) <;> (try simp only [Bool.not_eq_eq_eq_not, Bool.not_true, Bool.not_false, Bool.and_eq_true, Bool.and_eq_false_imp, Bool.or_eq_true, Bool.or_eq_false_iff, decide_eq_true_eq, decide_eq_false_iff_not] at hc))
    | (with_reducible refine aft_intro ?_ (fun hc => ?_))
    | (with_reducible refine imp_intro' (fun hc => ?_))
    | (with_reducible refine And.intro ?_ ?_)
    | (with_reducible intro hc)
    | (with_reducible assumption)
    | omega
    | (with_reducible refine Int.emod_nonneg _ ?_)
    | (with_reducible refine Int.emod_lt_of_pos _ ?_))
  all_goals try (focus (refine body_ret [] [] rfl rfl ?_ ?_; all_goals (first | (with_reducible rfl) | (simp (implicitDefEqProofs := false) (dsimp := false) (disch := first | assumption | omega) only [go_sem, Int.reduceAdd, Int.reduceSub, Int.reduceMul, Int.reduceNeg, Int.reduceLT, Int.reduceLE, Int.reduceEq, Int.reduceNe, Int.reduceToNat, Int.reduceMod, Int.reduceDiv, Int.reducePow, Nat.reduceAdd, Nat.reduceSub, Nat.reduceMul, Nat.reduceLT, Nat.reduceLeDiff, Nat.reduceEqDiff, Nat.reduceMod, Nat.reduceDiv, Nat.reducePow, reduceCtorEq, ↓reduceIte, wrap_i64, wrap_u8, wrap_u32, wrap_u64, Int.tmod_eq_emod_of_nonneg, Int.tdiv_eq_ediv_of_nonneg]) | skip)); rw [ringB_false]; unfold ringP; omega)
  · refine sem_loopF (α := Nat) [] [0] [false, true, false, true, true, false, false, false, false, false, false, false, false, false, false, false, false, false, false, false, false, false, false, false, false, false, false, false, false, false, false, false, false, false, false, false, false, false, false, false, false, false, false, false, false, false, false, false, false, false, false, false, false, false, false, false, false, false, false, false, false, false, false, false, false, false, false, false, false, false, false, false, false, false, false, false, false, false, false, false, false, false, false, false, false, false, false, false, false, false, false] (fun j => j ≤ xs.length ∧ ∀ i : Nat, i < j → slotOk tl (hd + i) (slotAt xs (hd + i))) (fun j S => ⟨(S.t).set 4 ((.v (.int .i64 (hd + j)))), S.h⟩) (fun j => xs.length - j) (0) rfl (by simp only [go_sem, Int.reduceAdd, Int.reduceSub, Int.reduceMul, Int.reduceNeg, Int.reduceLT, Int.reduceLE, Int.reduceEq, Int.reduceNe, Int.reduceToNat, Int.reduceMod, Int.reduceDiv, Int.reducePow, Nat.reduceAdd, Nat.reduceSub, Nat.reduceMul, Nat.reduceLT, Nat.reduceLeDiff, Nat.reduceEqDiff, Nat.reduceMod, Nat.reduceDiv, Nat.reducePow, reduceCtorEq, ↓reduceIte]; rfl) ?_ ?_ ?_
    · simp [go_sem]
    · simp
    rintro j hI
    try simp only at hI
    simp only [go_sem, Int.reduceAdd, Int.reduceSub, Int.reduceMul, Int.reduceNeg, Int.reduceLT, Int.reduceLE, Int.reduceEq, Int.reduceNe, Int.reduceToNat, Int.reduceMod, Int.reduceDiv, Int.reducePow, Nat.reduceAdd, Nat.reduceSub, Nat.reduceMul, Nat.reduceLT, Nat.reduceLeDiff, Nat.reduceEqDiff, Nat.reduceMod, Nat.reduceDiv, Nat.reducePow, reduceCtorEq, ↓reduceIte]
    obtain ⟨hj, hs⟩ := hI
    have hm := emod_len (hd + j) xs.length (by omega)
    have hsl : (xs.getD ((hd + (j : Int)) % (xs.length : Int)).toNat default) = slotAt xs (hd + j) := rfl
    repeat' (first
      | ((with_reducible refine nrm ?_); try simp (implicitDefEqProofs := false) (dsimp := false) (disch := first | assumption | omega) only [go_sem, Int.reduceAdd, Int.reduceSub, Int.reduceMul, Int.reduceNeg, Int.reduceLT, Int.reduceLE, Int.reduceEq, Int.reduceNe, Int.reduceToNat, Int.reduceMod, Int.reduceDiv, Int.reducePow, Nat.reduceAdd, Nat.reduceSub, Nat.reduceMul, Nat.reduceLT, Nat.reduceLeDiff, Nat.reduceEqDiff, Nat.reduceMod, Nat.reduceDiv, Nat.reducePow, reduceCtorEq, ↓reduceIte, wrap_i64, wrap_u8, wrap_u32, wrap_u64, Int.tmod_eq_emod_of_nonneg, Int.tdiv_eq_ediv_of_nonneg])
      | (with_reducible refine sem_seqK fun K => ?_)
      | (with_reducible refine kt_f _ ?_)
      | (with_reducible refine regionN cxOk ?_)
      | (with_reducible refine drawN cxOk 4 ?_)
      | ((with_reducible refine chk_by ?_); decide +kernel)
      | (with_reducible refine retN ?_)
      | (with_reducible refine skipN ?_)
      | (with_reducible refine exitN ?_)
      | (with_reducible refine sem_block ?_)
      | (with_reducible refine condN ?_)
      | (with_reducible refine condD_true ?_)
      | (with_reducible refine condD_false ?_)
      | (with_reducible refine condNq (fun hc => ?_) ?_)
      | (with_reducible refine condPN (by simp only [go_sem]; rfl) (by simp only [go_sem]; rfl) (fun hc => ?_) (fun hc => ?_))
      | (with_reducible refine condNN (by simp only [go_sem]; rfl) (by simp only [go_sem]; rfl) (fun hc => ?_) (fun hc => ?_))
      | (with_reducible refine condBN (by simp only [go_sem]; rfl) (by simp only [go_sem]; rfl) (fun hc => ?_) (fun hc => ?_) <;> (try simp only [Bool.not_eq_eq_eq_not, Bool.not_true, Bool.not_false, Bool.and_eq_true, Bool.and_eq_false_imp, Bool.or_eq_true, Bool.or_eq_false_iff, decide_eq_true_eq, decide_eq_false_iff_not] at hc))
      | (with_reducible refine aft_intro ?_ (fun hc => ?_))
      | (with_reducible refine imp_intro' (fun hc => ?_))
      | (with_reducible refine And.intro ?_ ?_)
      | (with_reducible intro hc)
      | (with_reducible assumption)
      | omega
      | (with_reducible refine Int.emod_nonneg _ ?_)
      | (with_reducible refine Int.emod_lt_of_pos _ ?_))
    all_goals first
      | (focus (refine loop_next (j + 1) [] [0] [false, true, false, true, true, false, false, false, false, false, false, false, false, false, false, false, false, false, false, false, false, false, false, false, false, false, false, false, false, false, false, false, false, false, false, false, false, false, false, false, false, false, false, false, false, false, false, false, false, false, false, false, false, false, false, false, false, false, false, false, false, false, false, false, false, false, false, false, false, false, false, false, false, false, false, false, false, false, false, false, false, false, false, false, false, false, false, false, false, false, false] rfl ?_ ?_ ?_; (try (first | rfl | (simp (implicitDefEqProofs := false) (dsimp := false) only [go_sem, Int.reduceAdd, Int.reduceSub, Int.reduceMul, Int.reduceNeg, Int.reduceLT, Int.reduceLE, Int.reduceEq, Int.reduceNe, Int.reduceToNat, Int.reduceMod, Int.reduceDiv, Int.reducePow, Nat.reduceAdd, Nat.reduceSub, Nat.reduceMul, Nat.reduceLT, Nat.reduceLeDiff, Nat.reduceEqDiff, Nat.reduceMod, Nat.reduceDiv, Nat.reducePow, reduceCtorEq, ↓reduceIte, St.mk.injEq, List.cons.injEq, AV.v.injEq, Value.int.injEq, AV.sl.injEq, Option.some.injEq, Ob.mk.injEq, true_and, and_true, Int.natCast_add, Int.cast_ofNat_Int]; omega) | (simp (implicitDefEqProofs := false) (dsimp := false) only [go_sem, Int.reduceAdd, Int.reduceSub, Int.reduceMul, Int.reduceNeg, Int.reduceLT, Int.reduceLE, Int.reduceEq, Int.reduceNe, Int.reduceToNat, Int.reduceMod, Int.reduceDiv, Int.reducePow, Nat.reduceAdd, Nat.reduceSub, Nat.reduceMul, Nat.reduceLT, Nat.reduceLeDiff, Nat.reduceEqDiff, Nat.reduceMod, Nat.reduceDiv, Nat.reducePow, reduceCtorEq, ↓reduceIte, St.mk.injEq, List.cons.injEq, AV.v.injEq, Value.int.injEq, AV.sl.injEq, Option.some.injEq, Ob.mk.injEq, true_and, and_true, Int.natCast_add, Int.cast_ofNat_Int]; done) | (simp (implicitDefEqProofs := false) (dsimp := false) only [go_sem, Int.reduceAdd, Int.reduceSub, Int.reduceMul, Int.reduceNeg, Int.reduceLT, Int.reduceLE, Int.reduceEq, Int.reduceNe, Int.reduceToNat, Int.reduceMod, Int.reduceDiv, Int.reducePow, Nat.reduceAdd, Nat.reduceSub, Nat.reduceMul, Nat.reduceLT, Nat.reduceLeDiff, Nat.reduceEqDiff, Nat.reduceMod, Nat.reduceDiv, Nat.reducePow, reduceCtorEq, ↓reduceIte, St.mk.injEq, List.cons.injEq, AV.v.injEq, Value.int.injEq, AV.sl.injEq, Option.some.injEq, Ob.mk.injEq, true_and, and_true, Int.natCast_add, Int.cast_ofNat_Int]))); all_goals try (first | omega | (simp only; omega)); all_goals (try dsimp only)); refine ⟨by omega, fun i hi => ?_⟩; by_cases he : i = j; (· subst he; rw [← hsl]; unfold slotOk; omega); exact hs i (by omega))
      | (focus (refine body_ret [] [] rfl rfl ?_ ?_; all_goals (first | (with_reducible rfl) | (simp (implicitDefEqProofs := false) (dsimp := false) (disch := first | assumption | omega) only [go_sem, Int.reduceAdd, Int.reduceSub, Int.reduceMul, Int.reduceNeg, Int.reduceLT, Int.reduceLE, Int.reduceEq, Int.reduceNe, Int.reduceToNat, Int.reduceMod, Int.reduceDiv, Int.reducePow, Nat.reduceAdd, Nat.reduceSub, Nat.reduceMul, Nat.reduceLT, Nat.reduceLeDiff, Nat.reduceEqDiff, Nat.reduceMod, Nat.reduceDiv, Nat.reducePow, reduceCtorEq, ↓reduceIte, wrap_i64, wrap_u8, wrap_u32, wrap_u64, Int.tmod_eq_emod_of_nonneg, Int.tdiv_eq_ediv_of_nonneg]) | skip)); rw [ringB_false]; intro h; have h1 := h.2.2.2.2.2.2 j (by omega); rw [← hsl] at h1; unfold slotOk at h1; omega)
      | (focus (refine body_ret [] [] rfl rfl ?_ ?_; all_goals (first | (with_reducible rfl) | (simp (implicitDefEqProofs := false) (dsimp := false) (disch := first | assumption | omega) only [go_sem, Int.reduceAdd, Int.reduceSub, Int.reduceMul, Int.reduceNeg, Int.reduceLT, Int.reduceLE, Int.reduceEq, Int.reduceNe, Int.reduceToNat, Int.reduceMod, Int.reduceDiv, Int.reducePow, Nat.reduceAdd, Nat.reduceSub, Nat.reduceMul, Nat.reduceLT, Nat.reduceLeDiff, Nat.reduceEqDiff, Nat.reduceMod, Nat.reduceDiv, Nat.reducePow, reduceCtorEq, ↓reduceIte, wrap_i64, wrap_u8, wrap_u32, wrap_u64, Int.tmod_eq_emod_of_nonneg, Int.tdiv_eq_ediv_of_nonneg]) | skip)); rw [ringB_true]; obtain rfl : j = xs.length := (by omega); exact ⟨by omega, by omega, by omega, by omega, by omega, by omega, hs⟩)

theorem c_RingOk (b : Bool) (hd tl : Int) (xs : List (Int × Int)) (hl : xs.length ≤ 1000000) :
    Con Try.prog 21 [.agg [(.v (.int .i64 (hd))), (.v (.int .i64 (tl))), .bor b (xs.map cSl)]] [] ((.v (.bool (ringB hd tl xs)))) [] := by
  refine con_of_body (C := cxOf Try.prog) cxOk [(2, none)] Try.func21 rfl rfl rfl ?_
  simp only [Try.ntmps21, List.length_cons, List.length_nil, Nat.reduceAdd, Nat.reduceSub, List.replicate, List.cons_append, List.nil_append, List.append_nil]
  repeat' (first
    | ((with_reducible refine nrm ?_); try simp (implicitDefEqProofs := false) (dsimp := false) (disch := first | assumption | omega) only [go_sem, Int.reduceAdd, Int.reduceSub, Int.reduceMul, Int.reduceNeg, Int.reduceLT, Int.reduceLE, Int.reduceEq, Int.reduceNe, Int.reduceToNat, Int.reduceMod, Int.reduceDiv, Int.reducePow, Nat.reduceAdd, Nat.reduceSub, Nat.reduceMul, Nat.reduceLT, Nat.reduceLeDiff, Nat.reduceEqDiff, Nat.reduceMod, Nat.reduceDiv, Nat.reducePow, reduceCtorEq, ↓reduceIte, wrap_i64, wrap_u8, wrap_u32, wrap_u64, Int.tmod_eq_emod_of_nonneg, Int.tdiv_eq_ediv_of_nonneg])
    | (with_reducible refine sem_seqK fun K => ?_)
    | (with_reducible refine kt_f _ ?_)
    | (with_reducible refine regionN cxOk ?_)
    | (with_reducible refine drawN cxOk 4 ?_)
    | ((with_reducible refine chk_by ?_); decide +kernel)
    | (with_reducible refine retN ?_)
    | (with_reducible refine skipN ?_)
    | (with_reducible refine exitN ?_)
    | (with_reducible refine sem_block ?_)
    | (with_reducible refine condN ?_)
    | (with_reducible refine condD_true ?_)
    | (with_reducible refine condD_false ?_)
    | (with_reducible refine condNq (fun hc => ?_) ?_)
    | (with_reducible refine condPN (by simp only [go_sem]; rfl) (by simp only [go_sem]; rfl) (fun hc => ?_) (fun hc => ?_))
    | (with_reducible refine condNN (by simp only [go_sem]; rfl) (by simp only [go_sem]; rfl) (fun hc => ?_) (fun hc => ?_))
    | (with_reducible refine condBN (by simp only [go_sem]; rfl) (by simp only [go_sem]; rfl) (fun hc => ?_) (fun hc => ?_) <;> (try simp only [Bool.not_eq_eq_eq_not, Bool.not_true, Bool.not_false, Bool.and_eq_true, Bool.and_eq_false_imp, Bool.or_eq_true, Bool.or_eq_false_iff, decide_eq_true_eq, decide_eq_false_iff_not] at hc))
    | (with_reducible apply callN)
    | (with_reducible apply callRN [])
    | ((with_reducible refine nrmE ?_); (simp (implicitDefEqProofs := false) (dsimp := false) (disch := first | assumption | omega) only [go_sem, Int.reduceAdd, Int.reduceSub, Int.reduceMul, Int.reduceNeg, Int.reduceLT, Int.reduceLE, Int.reduceEq, Int.reduceNe, Int.reduceToNat, Int.reduceMod, Int.reduceDiv, Int.reducePow, Nat.reduceAdd, Nat.reduceSub, Nat.reduceMul, Nat.reduceLT, Nat.reduceLeDiff, Nat.reduceEqDiff, Nat.reduceMod, Nat.reduceDiv, Nat.reducePow, reduceCtorEq, ↓reduceIte, wrap_i64, wrap_u8, wrap_u32, wrap_u64, Int.tmod_eq_emod_of_nonneg, Int.tdiv_eq_ediv_of_nonneg]) <;> rfl)
    | apply c_isRing
    | (with_reducible refine aft_intro ?_ (fun hc => ?_))
    | (with_reducible refine imp_intro' (fun hc => ?_))
    | (with_reducible refine And.intro ?_ ?_)
    | (with_reducible intro hc)
    | (with_reducible assumption)
    | omega
    | (with_reducible refine Int.emod_nonneg _ ?_)
    | (with_reducible refine Int.emod_lt_of_pos _ ?_))
  focus (refine body_ret [] [] rfl rfl ?_ ?_; all_goals (first | (with_reducible rfl) | (simp (implicitDefEqProofs := false) (dsimp := false) (disch := first | assumption | omega) only [go_sem, Int.reduceAdd, Int.reduceSub, Int.reduceMul, Int.reduceNeg, Int.reduceLT, Int.reduceLE, Int.reduceEq, Int.reduceNe, Int.reduceToNat, Int.reduceMod, Int.reduceDiv, Int.reducePow, Nat.reduceAdd, Nat.reduceSub, Nat.reduceMul, Nat.reduceLT, Nat.reduceLeDiff, Nat.reduceEqDiff, Nat.reduceMod, Nat.reduceDiv, Nat.reducePow, reduceCtorEq, ↓reduceIte, wrap_i64, wrap_u8, wrap_u32, wrap_u64, Int.tmod_eq_emod_of_nonneg, Int.tdiv_eq_ediv_of_nonneg]) | skip))

def pushXs (tl v : Int) (xs : List (Int × Int)) : List (Int × Int) := xs.set (tl % (xs.length : Int)).toNat (tl + 1, v)
def pushP (hd tl v : Int) (xs : List (Int × Int)) : Prop := ringP hd tl xs ∧ 0 ≤ v ∧ v ≤ 255 ∧ tl ≠ hd + xs.length ∧ tl ≠ 1000000

theorem c_RingPush (b : Bool) (hd tl v : Int) (xs : List (Int × Int)) (hl : xs.length ≤ 1000000) (hp : pushP hd tl v xs) :
    Con Try.prog 16 [.agg [(.v (.int .i64 (hd))), (.v (.int .i64 (tl))), .bor b (xs.map cSl)], (.v (.int .i64 (v)))] [] (.tup [.agg [(.v (.int .i64 (hd))), (.v (.int .i64 (tl + 1))), .sl 0 0 xs.length], (.v (.bool (true)))]) [some { es := (pushXs tl v xs).map cSl, sz := 2, flat := true }] := by
  obtain ⟨hr, hv0, hv1, hf, ht⟩ := hp
  have hB := ringB_true hr
  have ⟨h1, h2, h3, h4, h5, h6, h7⟩ := hr
  have hm := emod_len tl xs.length (by omega)
  refine con_of_body (C := cxOf Try.prog) cxOk [(4, some 27), (5, none)] Try.func16 rfl rfl rfl ?_
  simp only [Try.ntmps16, List.length_cons, List.length_nil, Nat.reduceAdd, Nat.reduceSub, List.replicate, List.cons_append, List.nil_append, List.append_nil]
  repeat' (first
    | ((with_reducible refine nrm ?_); try simp (implicitDefEqProofs := false) (dsimp := false) (disch := first | assumption | omega) only [go_sem, Int.reduceAdd, Int.reduceSub, Int.reduceMul, Int.reduceNeg, Int.reduceLT, Int.reduceLE, Int.reduceEq, Int.reduceNe, Int.reduceToNat, Int.reduceMod, Int.reduceDiv, Int.reducePow, Nat.reduceAdd, Nat.reduceSub, Nat.reduceMul, Nat.reduceLT, Nat.reduceLeDiff, Nat.reduceEqDiff, Nat.reduceMod, Nat.reduceDiv, Nat.reducePow, reduceCtorEq, ↓reduceIte, wrap_i64, wrap_u8, wrap_u32, wrap_u64, Int.tmod_eq_emod_of_nonneg, Int.tdiv_eq_ediv_of_nonneg, hB])
    | (with_reducible refine sem_seqK fun K => ?_)
    | (with_reducible refine kt_f _ ?_)
    | (with_reducible refine regionN cxOk ?_)
    | (with_reducible refine drawN cxOk 4 ?_)
    | ((with_reducible refine chk_by ?_); decide +kernel)
    | (with_reducible refine retN ?_)
    | (with_reducible refine skipN ?_)
    | (with_reducible refine exitN ?_)
    | (with_reducible refine sem_block ?_)
    | (with_reducible refine condN ?_)
    | (with_reducible refine condD_true ?_)
    | (with_reducible refine condD_false ?_)
    | (with_reducible refine condNq (fun hc => ?_) ?_)
    | (with_reducible refine condPN (by simp only [go_sem]; rfl) (by simp only [go_sem]; rfl) (fun hc => ?_) (fun hc => ?_))
    | (with_reducible refine condNN (by simp only [go_sem]; rfl) (by simp only [go_sem]; rfl) (fun hc => ?_) (fun hc => ?_))
    | (with_reducible refine condBN (by simp only [go_sem]; rfl) (by simp only [go_sem]; rfl) (fun hc => ?_) (fun hc => ?_) <;> (try simp only [Bool.not_eq_eq_eq_not, Bool.not_true, Bool.not_false, Bool.and_eq_true, Bool.and_eq_false_imp, Bool.or_eq_true, Bool.or_eq_false_iff, decide_eq_true_eq, decide_eq_false_iff_not] at hc))
    | (with_reducible apply callN)
    | (with_reducible apply callRN [])
    | ((with_reducible refine nrmE ?_); (simp (implicitDefEqProofs := false) (dsimp := false) (disch := first | assumption | omega) only [go_sem, Int.reduceAdd, Int.reduceSub, Int.reduceMul, Int.reduceNeg, Int.reduceLT, Int.reduceLE, Int.reduceEq, Int.reduceNe, Int.reduceToNat, Int.reduceMod, Int.reduceDiv, Int.reducePow, Nat.reduceAdd, Nat.reduceSub, Nat.reduceMul, Nat.reduceLT, Nat.reduceLeDiff, Nat.reduceEqDiff, Nat.reduceMod, Nat.reduceDiv, Nat.reducePow, reduceCtorEq, ↓reduceIte, wrap_i64, wrap_u8, wrap_u32, wrap_u64, Int.tmod_eq_emod_of_nonneg, Int.tdiv_eq_ediv_of_nonneg, hB]) <;> rfl)
    | apply c_isRing
    | apply c_within
    | apply c_cloneSl
    | (with_reducible refine aft_intro ?_ (fun hc => ?_))
    | (with_reducible refine imp_intro' (fun hc => ?_))
    | (with_reducible refine And.intro ?_ ?_)
    | (with_reducible intro hc)
    | (with_reducible assumption)
    | omega
    | (with_reducible refine Int.emod_nonneg _ ?_)
    | (with_reducible refine Int.emod_lt_of_pos _ ?_))
  focus (refine body_ret [] [2] rfl rfl ?_ ?_; all_goals (first | (with_reducible rfl) | (simp (implicitDefEqProofs := false) (dsimp := false) (disch := first | assumption | omega) only [go_sem, Int.reduceAdd, Int.reduceSub, Int.reduceMul, Int.reduceNeg, Int.reduceLT, Int.reduceLE, Int.reduceEq, Int.reduceNe, Int.reduceToNat, Int.reduceMod, Int.reduceDiv, Int.reducePow, Nat.reduceAdd, Nat.reduceSub, Nat.reduceMul, Nat.reduceLT, Nat.reduceLeDiff, Nat.reduceEqDiff, Nat.reduceMod, Nat.reduceDiv, Nat.reducePow, reduceCtorEq, ↓reduceIte, wrap_i64, wrap_u8, wrap_u32, wrap_u64, Int.tmod_eq_emod_of_nonneg, Int.tdiv_eq_ediv_of_nonneg]) | skip))
  rfl

theorem c_RingPush_no (b : Bool) (hd tl v : Int) (xs : List (Int × Int)) (hl : xs.length ≤ 1000000) (hp : ¬ pushP hd tl v xs) :
    Con Try.prog 16 [.agg [(.v (.int .i64 (hd))), (.v (.int .i64 (tl))), .bor b (xs.map cSl)], (.v (.int .i64 (v)))] [] (.tup [.agg [(.v (.int .i64 (0))), (.v (.int .i64 (0))), .nl], (.v (.bool (false)))]) [] := by
  by_cases hr : ringP hd tl xs
  · have hB := ringB_true hr
    have ⟨h1, h2, h3, h4, h5, h6, h7⟩ := hr
    simp only [pushP, hr, true_and] at hp
    refine con_of_body (C := cxOf Try.prog) cxOk [(4, some 27), (5, none)] Try.func16 rfl rfl rfl ?_
    simp only [Try.ntmps16, List.length_cons, List.length_nil, Nat.reduceAdd, Nat.reduceSub, List.replicate, List.cons_append, List.nil_append, List.append_nil]
    repeat' (first
      | ((with_reducible refine nrm ?_); try simp (implicitDefEqProofs := false) (dsimp := false) (disch := first | assumption | omega) only [go_sem, Int.reduceAdd, Int.reduceSub, Int.reduceMul, Int.reduceNeg, Int.reduceLT, Int.reduceLE, Int.reduceEq, Int.reduceNe, Int.reduceToNat, Int.reduceMod, Int.reduceDiv, Int.reducePow, Nat.reduceAdd, Nat.reduceSub, Nat.reduceMul, Nat.reduceLT, Nat.reduceLeDiff, Nat.reduceEqDiff, Nat.reduceMod, Nat.reduceDiv, Nat.reducePow, reduceCtorEq, ↓reduceIte, wrap_i64, wrap_u8, wrap_u32, wrap_u64, Int.tmod_eq_emod_of_nonneg, Int.tdiv_eq_ediv_of_nonneg, hB])
      | (with_reducible refine sem_seqK fun K => ?_)
      | (with_reducible refine kt_f _ ?_)
      | (with_reducible refine regionN cxOk ?_)
      | (with_reducible refine drawN cxOk 4 ?_)
      | ((with_reducible refine chk_by ?_); decide +kernel)
      | (with_reducible refine retN ?_)
      | (with_reducible refine skipN ?_)
      | (with_reducible refine exitN ?_)
      | (with_reducible refine sem_block ?_)
      | (with_reducible refine condN ?_)
      | (with_reducible refine condD_true ?_)
      | (with_reducible refine condD_false ?_)
      | (with_reducible refine condNq (fun hc => ?_) ?_)
      | (with_reducible refine condPN (by simp only [go_sem]; rfl) (by simp only [go_sem]; rfl) (fun hc => ?_) (fun hc => ?_))
      | (with_reducible refine condNN (by simp only [go_sem]; rfl) (by simp only [go_sem]; rfl) (fun hc => ?_) (fun hc => ?_))
      | (with_reducible refine condBN (by simp only [go_sem]; rfl) (by simp only [go_sem]; rfl) (fun hc => ?_) (fun hc => ?_) <;> (try simp only [Bool.not_eq_eq_eq_not, Bool.not_true, Bool.not_false, Bool.and_eq_true, Bool.and_eq_false_imp, Bool.or_eq_true, Bool.or_eq_false_iff, decide_eq_true_eq, decide_eq_false_iff_not] at hc))
      | (with_reducible apply callN)
      | (with_reducible apply callRN [])
      | ((with_reducible refine nrmE ?_); (simp (implicitDefEqProofs := false) (dsimp := false) (disch := first | assumption | omega) only [go_sem, Int.reduceAdd, Int.reduceSub, Int.reduceMul, Int.reduceNeg, Int.reduceLT, Int.reduceLE, Int.reduceEq, Int.reduceNe, Int.reduceToNat, Int.reduceMod, Int.reduceDiv, Int.reducePow, Nat.reduceAdd, Nat.reduceSub, Nat.reduceMul, Nat.reduceLT, Nat.reduceLeDiff, Nat.reduceEqDiff, Nat.reduceMod, Nat.reduceDiv, Nat.reducePow, reduceCtorEq, ↓reduceIte, wrap_i64, wrap_u8, wrap_u32, wrap_u64, Int.tmod_eq_emod_of_nonneg, Int.tdiv_eq_ediv_of_nonneg, hB]) <;> rfl)
      | apply c_isRing
      | apply c_within
      | apply c_cloneSl
      | (with_reducible refine aft_intro ?_ (fun hc => ?_))
      | (with_reducible refine imp_intro' (fun hc => ?_))
      | (with_reducible refine And.intro ?_ ?_)
      | (with_reducible intro hc)
      | (with_reducible assumption)
      | omega
      | (with_reducible refine Int.emod_nonneg _ ?_)
      | (with_reducible refine Int.emod_lt_of_pos _ ?_))
    all_goals first | (focus (refine body_ret [] [] rfl rfl ?_ ?_; all_goals (first | (with_reducible rfl) | (simp (implicitDefEqProofs := false) (dsimp := false) (disch := first | assumption | omega) only [go_sem, Int.reduceAdd, Int.reduceSub, Int.reduceMul, Int.reduceNeg, Int.reduceLT, Int.reduceLE, Int.reduceEq, Int.reduceNe, Int.reduceToNat, Int.reduceMod, Int.reduceDiv, Int.reducePow, Nat.reduceAdd, Nat.reduceSub, Nat.reduceMul, Nat.reduceLT, Nat.reduceLeDiff, Nat.reduceEqDiff, Nat.reduceMod, Nat.reduceDiv, Nat.reducePow, reduceCtorEq, ↓reduceIte, wrap_i64, wrap_u8, wrap_u32, wrap_u64, Int.tmod_eq_emod_of_nonneg, Int.tdiv_eq_ediv_of_nonneg]) | skip))) | (exfalso; omega)
  · have hB := ringB_false hr
    refine con_of_body (C := cxOf Try.prog) cxOk [(4, some 27), (5, none)] Try.func16 rfl rfl rfl ?_
    simp only [Try.ntmps16, List.length_cons, List.length_nil, Nat.reduceAdd, Nat.reduceSub, List.replicate, List.cons_append, List.nil_append, List.append_nil]
    repeat' (first
      | ((with_reducible refine nrm ?_); try simp (implicitDefEqProofs := false) (dsimp := false) (disch := first | assumption | omega) only [go_sem, Int.reduceAdd, Int.reduceSub, Int.reduceMul, Int.reduceNeg, Int.reduceLT, Int.reduceLE, Int.reduceEq, Int.reduceNe, Int.reduceToNat, Int.reduceMod, Int.reduceDiv, Int.reducePow, Nat.reduceAdd, Nat.reduceSub, Nat.reduceMul, Nat.reduceLT, Nat.reduceLeDiff, Nat.reduceEqDiff, Nat.reduceMod, Nat.reduceDiv, Nat.reducePow, reduceCtorEq, ↓reduceIte, wrap_i64, wrap_u8, wrap_u32, wrap_u64, Int.tmod_eq_emod_of_nonneg, Int.tdiv_eq_ediv_of_nonneg, hB])
      | (with_reducible refine sem_seqK fun K => ?_)
      | (with_reducible refine kt_f _ ?_)
      | (with_reducible refine regionN cxOk ?_)
      | (with_reducible refine drawN cxOk 4 ?_)
      | ((with_reducible refine chk_by ?_); decide +kernel)
      | (with_reducible refine retN ?_)
      | (with_reducible refine skipN ?_)
      | (with_reducible refine exitN ?_)
      | (with_reducible refine sem_block ?_)
      | (with_reducible refine condN ?_)
      | (with_reducible refine condD_true ?_)
      | (with_reducible refine condD_false ?_)
      | (with_reducible refine condNq (fun hc => ?_) ?_)
      | (with_reducible refine condPN (by simp only [go_sem]; rfl) (by simp only [go_sem]; rfl) (fun hc => ?_) (fun hc => ?_))
      | (with_reducible refine condNN (by simp only [go_sem]; rfl) (by simp only [go_sem]; rfl) (fun hc => ?_) (fun hc => ?_))
      | (with_reducible refine condBN (by simp only [go_sem]; rfl) (by simp only [go_sem]; rfl) (fun hc => ?_) (fun hc => ?_) <;> (try simp only [Bool.not_eq_eq_eq_not, Bool.not_true, Bool.not_false, Bool.and_eq_true, Bool.and_eq_false_imp, Bool.or_eq_true, Bool.or_eq_false_iff, decide_eq_true_eq, decide_eq_false_iff_not] at hc))
      | (with_reducible apply callN)
      | (with_reducible apply callRN [])
      | ((with_reducible refine nrmE ?_); (simp (implicitDefEqProofs := false) (dsimp := false) (disch := first | assumption | omega) only [go_sem, Int.reduceAdd, Int.reduceSub, Int.reduceMul, Int.reduceNeg, Int.reduceLT, Int.reduceLE, Int.reduceEq, Int.reduceNe, Int.reduceToNat, Int.reduceMod, Int.reduceDiv, Int.reducePow, Nat.reduceAdd, Nat.reduceSub, Nat.reduceMul, Nat.reduceLT, Nat.reduceLeDiff, Nat.reduceEqDiff, Nat.reduceMod, Nat.reduceDiv, Nat.reducePow, reduceCtorEq, ↓reduceIte, wrap_i64, wrap_u8, wrap_u32, wrap_u64, Int.tmod_eq_emod_of_nonneg, Int.tdiv_eq_ediv_of_nonneg, hB]) <;> rfl)
      | apply c_isRing
      | apply c_within
      | apply c_cloneSl
      | (with_reducible refine aft_intro ?_ (fun hc => ?_))
      | (with_reducible refine imp_intro' (fun hc => ?_))
      | (with_reducible refine And.intro ?_ ?_)
      | (with_reducible intro hc)
      | (with_reducible assumption)
      | omega
      | (with_reducible refine Int.emod_nonneg _ ?_)
      | (with_reducible refine Int.emod_lt_of_pos _ ?_))
    focus (refine body_ret [] [] rfl rfl ?_ ?_; all_goals (first | (with_reducible rfl) | (simp (implicitDefEqProofs := false) (dsimp := false) (disch := first | assumption | omega) only [go_sem, Int.reduceAdd, Int.reduceSub, Int.reduceMul, Int.reduceNeg, Int.reduceLT, Int.reduceLE, Int.reduceEq, Int.reduceNe, Int.reduceToNat, Int.reduceMod, Int.reduceDiv, Int.reducePow, Nat.reduceAdd, Nat.reduceSub, Nat.reduceMul, Nat.reduceLT, Nat.reduceLeDiff, Nat.reduceEqDiff, Nat.reduceMod, Nat.reduceDiv, Nat.reducePow, reduceCtorEq, ↓reduceIte, wrap_i64, wrap_u8, wrap_u32, wrap_u64, Int.tmod_eq_emod_of_nonneg, Int.tdiv_eq_ediv_of_nonneg]) | skip))

def popXs (hd : Int) (xs : List (Int × Int)) : List (Int × Int) := xs.set (hd % (xs.length : Int)).toNat (hd + xs.length, 0)

theorem c_RingPop (b : Bool) (hd tl : Int) (xs : List (Int × Int)) (hl : xs.length ≤ 1000000) (hr : ringP hd tl xs) (hne : hd ≠ tl) :
    Con Try.prog 17 [.agg [(.v (.int .i64 (hd))), (.v (.int .i64 (tl))), .bor b (xs.map cSl)]] [] (.tup [.agg [(.v (.int .i64 (hd + 1))), (.v (.int .i64 (tl))), .sl 0 0 xs.length], (.v (.int .i64 ((slotAt xs hd).2))), (.v (.bool (true)))]) [some { es := (popXs hd xs).map cSl, sz := 2, flat := true }] := by
  have hB := ringB_true hr
  have ⟨h1, h2, h3, h4, h5, h6, h7⟩ := hr
  have hm := emod_len hd xs.length (by omega)
  refine con_of_body (C := cxOf Try.prog) cxOk [(2, some 27), (3, none), (4, none)] Try.func17 rfl rfl rfl ?_
  simp only [Try.ntmps17, List.length_cons, List.length_nil, Nat.reduceAdd, Nat.reduceSub, List.replicate, List.cons_append, List.nil_append, List.append_nil]
  repeat' (first
    | ((with_reducible refine nrm ?_); try simp (implicitDefEqProofs := false) (dsimp := false) (disch := first | assumption | omega) only [go_sem, Int.reduceAdd, Int.reduceSub, Int.reduceMul, Int.reduceNeg, Int.reduceLT, Int.reduceLE, Int.reduceEq, Int.reduceNe, Int.reduceToNat, Int.reduceMod, Int.reduceDiv, Int.reducePow, Nat.reduceAdd, Nat.reduceSub, Nat.reduceMul, Nat.reduceLT, Nat.reduceLeDiff, Nat.reduceEqDiff, Nat.reduceMod, Nat.reduceDiv, Nat.reducePow, reduceCtorEq, ↓reduceIte, wrap_i64, wrap_u8, wrap_u32, wrap_u64, Int.tmod_eq_emod_of_nonneg, Int.tdiv_eq_ediv_of_nonneg, hB])
    | (with_reducible refine sem_seqK fun K => ?_)
    | (with_reducible refine kt_f _ ?_)
    | (with_reducible refine regionN cxOk ?_)
    | (with_reducible refine drawN cxOk 4 ?_)
    | ((with_reducible refine chk_by ?_); decide +kernel)
    | (with_reducible refine retN ?_)
    | (with_reducible refine skipN ?_)
    | (with_reducible refine exitN ?_)
    | (with_reducible refine sem_block ?_)
    | (with_reducible refine condN ?_)
    | (with_reducible refine condD_true ?_)
    | (with_reducible refine condD_false ?_)
    | (with_reducible refine condNq (fun hc => ?_) ?_)
    | (with_reducible refine condPN (by simp only [go_sem]; rfl) (by simp only [go_sem]; rfl) (fun hc => ?_) (fun hc => ?_))
    | (with_reducible refine condNN (by simp only [go_sem]; rfl) (by simp only [go_sem]; rfl) (fun hc => ?_) (fun hc => ?_))
    | (with_reducible refine condBN (by simp only [go_sem]; rfl) (by simp only [go_sem]; rfl) (fun hc => ?_) (fun hc => ?_) <;> (try simp only [Bool.not_eq_eq_eq_not, Bool.not_true, Bool.not_false, Bool.and_eq_true, Bool.and_eq_false_imp, Bool.or_eq_true, Bool.or_eq_false_iff, decide_eq_true_eq, decide_eq_false_iff_not] at hc))
    | (with_reducible apply callN)
    | (with_reducible apply callRN [])
    | ((with_reducible refine nrmE ?_); (simp (implicitDefEqProofs := false) (dsimp := false) (disch := first | assumption | omega) only [go_sem, Int.reduceAdd, Int.reduceSub, Int.reduceMul, Int.reduceNeg, Int.reduceLT, Int.reduceLE, Int.reduceEq, Int.reduceNe, Int.reduceToNat, Int.reduceMod, Int.reduceDiv, Int.reducePow, Nat.reduceAdd, Nat.reduceSub, Nat.reduceMul, Nat.reduceLT, Nat.reduceLeDiff, Nat.reduceEqDiff, Nat.reduceMod, Nat.reduceDiv, Nat.reducePow, reduceCtorEq, ↓reduceIte, wrap_i64, wrap_u8, wrap_u32, wrap_u64, Int.tmod_eq_emod_of_nonneg, Int.tdiv_eq_ediv_of_nonneg, hB]) <;> rfl)
    | apply c_isRing
    | apply c_within
    | apply c_cloneSl
    | (with_reducible refine aft_intro ?_ (fun hc => ?_))
    | (with_reducible refine imp_intro' (fun hc => ?_))
    | (with_reducible refine And.intro ?_ ?_)
    | (with_reducible intro hc)
    | (with_reducible assumption)
    | omega
    | (with_reducible refine Int.emod_nonneg _ ?_)
    | (with_reducible refine Int.emod_lt_of_pos _ ?_))
  focus (refine body_ret [] [2] rfl rfl ?_ ?_; all_goals (first | (with_reducible rfl) | (simp (implicitDefEqProofs := false) (dsimp := false) (disch := first | assumption | omega) only [go_sem, Int.reduceAdd, Int.reduceSub, Int.reduceMul, Int.reduceNeg, Int.reduceLT, Int.reduceLE, Int.reduceEq, Int.reduceNe, Int.reduceToNat, Int.reduceMod, Int.reduceDiv, Int.reducePow, Nat.reduceAdd, Nat.reduceSub, Nat.reduceMul, Nat.reduceLT, Nat.reduceLeDiff, Nat.reduceEqDiff, Nat.reduceMod, Nat.reduceDiv, Nat.reducePow, reduceCtorEq, ↓reduceIte, wrap_i64, wrap_u8, wrap_u32, wrap_u64, Int.tmod_eq_emod_of_nonneg, Int.tdiv_eq_ediv_of_nonneg]) | skip))
  · rfl
  · rfl

theorem c_RingPop_no (b : Bool) (hd tl : Int) (xs : List (Int × Int)) (hl : xs.length ≤ 1000000) (hr : ringP hd tl xs → hd = tl) :
    Con Try.prog 17 [.agg [(.v (.int .i64 (hd))), (.v (.int .i64 (tl))), .bor b (xs.map cSl)]] [] (.tup [.agg [(.v (.int .i64 (0))), (.v (.int .i64 (0))), .nl], (.v (.int .i64 (0))), (.v (.bool (false)))]) [] := by
  by_cases h : ringP hd tl xs
  · have hB := ringB_true h
    obtain rfl := hr h
    refine con_of_body (C := cxOf Try.prog) cxOk [(2, some 27), (3, none), (4, none)] Try.func17 rfl rfl rfl ?_
    simp only [Try.ntmps17, List.length_cons, List.length_nil, Nat.reduceAdd, Nat.reduceSub, List.replicate, List.cons_append, List.nil_append, List.append_nil]
    repeat' (first
      | ((with_reducible refine nrm ?_); try simp (implicitDefEqProofs := false) (dsimp := false) (disch := first | assumption | omega) only [go_sem, Int.reduceAdd, Int.reduceSub, Int.reduceMul, Int.reduceNeg, Int.reduceLT, Int.reduceLE, Int.reduceEq, Int.reduceNe, Int.reduceToNat, Int.reduceMod, Int.reduceDiv, Int.reducePow, Nat.reduceAdd, Nat.reduceSub, Nat.reduceMul, Nat.reduceLT, Nat.reduceLeDiff, Nat.reduceEqDiff, Nat.reduceMod, Nat.reduceDiv, Nat.reducePow, reduceCtorEq, ↓reduceIte, wrap_i64, wrap_u8, wrap_u32, wrap_u64, Int.tmod_eq_emod_of_nonneg, Int.tdiv_eq_ediv_of_nonneg, hB])
      | (with_reducible refine sem_seqK fun K => ?_)
      | (with_reducible refine kt_f _ ?_)
      | (with_reducible refine regionN cxOk ?_)
      | (with_reducible refine drawN cxOk 4 ?_)
      | ((with_reducible refine chk_by ?_); decide +kernel)
      | (with_reducible refine retN ?_)
      | (with_reducible refine skipN ?_)
      | (with_reducible refine exitN ?_)
      | (with_reducible refine sem_block ?_)
      | (with_reducible refine condN ?_)
      | (with_reducible refine condD_true ?_)
      | (with_reducible refine condD_false ?_)
      | (with_reducible refine condNq (fun hc => ?_) ?_)
      | (with_reducible refine condPN (by simp only [go_sem]; rfl) (by simp only [go_sem]; rfl) (fun hc => ?_) (fun hc => ?_))
      | (with_reducible refine condNN (by simp only [go_sem]; rfl) (by simp only [go_sem]; rfl) (fun hc => ?_) (fun hc => ?_))
      | (with_reducible refine condBN (by simp only [go_sem]; rfl) (by simp only [go_sem]; rfl) (fun hc => ?_) (fun hc => ?_) <;> (try simp only [Bool.not_eq_eq_eq_not, Bool.not_true, Bool.not_false, Bool.and_eq_true, Bool.and_eq_false_imp, Bool.or_eq_true, Bool.or_eq_false_iff, decide_eq_true_eq, decide_eq_false_iff_not] at hc))
      | (with_reducible apply callN)
      | (with_reducible apply callRN [])
      | ((with_reducible refine nrmE ?_); (simp (implicitDefEqProofs := false) (dsimp := false) (disch := first | assumption | omega) only [go_sem, Int.reduceAdd, Int.reduceSub, Int.reduceMul, Int.reduceNeg, Int.reduceLT, Int.reduceLE, Int.reduceEq, Int.reduceNe, Int.reduceToNat, Int.reduceMod, Int.reduceDiv, Int.reducePow, Nat.reduceAdd, Nat.reduceSub, Nat.reduceMul, Nat.reduceLT, Nat.reduceLeDiff, Nat.reduceEqDiff, Nat.reduceMod, Nat.reduceDiv, Nat.reducePow, reduceCtorEq, ↓reduceIte, wrap_i64, wrap_u8, wrap_u32, wrap_u64, Int.tmod_eq_emod_of_nonneg, Int.tdiv_eq_ediv_of_nonneg, hB]) <;> rfl)
      | apply c_isRing
      | apply c_within
      | apply c_cloneSl
      | (with_reducible refine aft_intro ?_ (fun hc => ?_))
      | (with_reducible refine imp_intro' (fun hc => ?_))
      | (with_reducible refine And.intro ?_ ?_)
      | (with_reducible intro hc)
      | (with_reducible assumption)
      | omega
      | (with_reducible refine Int.emod_nonneg _ ?_)
      | (with_reducible refine Int.emod_lt_of_pos _ ?_))
    focus (refine body_ret [] [] rfl rfl ?_ ?_; all_goals (first | (with_reducible rfl) | (simp (implicitDefEqProofs := false) (dsimp := false) (disch := first | assumption | omega) only [go_sem, Int.reduceAdd, Int.reduceSub, Int.reduceMul, Int.reduceNeg, Int.reduceLT, Int.reduceLE, Int.reduceEq, Int.reduceNe, Int.reduceToNat, Int.reduceMod, Int.reduceDiv, Int.reducePow, Nat.reduceAdd, Nat.reduceSub, Nat.reduceMul, Nat.reduceLT, Nat.reduceLeDiff, Nat.reduceEqDiff, Nat.reduceMod, Nat.reduceDiv, Nat.reducePow, reduceCtorEq, ↓reduceIte, wrap_i64, wrap_u8, wrap_u32, wrap_u64, Int.tmod_eq_emod_of_nonneg, Int.tdiv_eq_ediv_of_nonneg]) | skip))
  · have hB := ringB_false h
    refine con_of_body (C := cxOf Try.prog) cxOk [(2, some 27), (3, none), (4, none)] Try.func17 rfl rfl rfl ?_
    simp only [Try.ntmps17, List.length_cons, List.length_nil, Nat.reduceAdd, Nat.reduceSub, List.replicate, List.cons_append, List.nil_append, List.append_nil]
    repeat' (first
      | ((with_reducible refine nrm ?_); try simp (implicitDefEqProofs := false) (dsimp := false) (disch := first | assumption | omega) only [go_sem, Int.reduceAdd, Int.reduceSub, Int.reduceMul, Int.reduceNeg, Int.reduceLT, Int.reduceLE, Int.reduceEq, Int.reduceNe, Int.reduceToNat, Int.reduceMod, Int.reduceDiv, Int.reducePow, Nat.reduceAdd, Nat.reduceSub, Nat.reduceMul, Nat.reduceLT, Nat.reduceLeDiff, Nat.reduceEqDiff, Nat.reduceMod, Nat.reduceDiv, Nat.reducePow, reduceCtorEq, ↓reduceIte, wrap_i64, wrap_u8, wrap_u32, wrap_u64, Int.tmod_eq_emod_of_nonneg, Int.tdiv_eq_ediv_of_nonneg, hB])
      | (with_reducible refine sem_seqK fun K => ?_)
      | (with_reducible refine kt_f _ ?_)
      | (with_reducible refine regionN cxOk ?_)
      | (with_reducible refine drawN cxOk 4 ?_)
      | ((with_reducible refine chk_by ?_); decide +kernel)
      | (with_reducible refine retN ?_)
      | (with_reducible refine skipN ?_)
      | (with_reducible refine exitN ?_)
      | (with_reducible refine sem_block ?_)
      | (with_reducible refine condN ?_)
      | (with_reducible refine condD_true ?_)
      | (with_reducible refine condD_false ?_)
      | (with_reducible refine condNq (fun hc => ?_) ?_)
      | (with_reducible refine condPN (by simp only [go_sem]; rfl) (by simp only [go_sem]; rfl) (fun hc => ?_) (fun hc => ?_))
      | (with_reducible refine condNN (by simp only [go_sem]; rfl) (by simp only [go_sem]; rfl) (fun hc => ?_) (fun hc => ?_))
      | (with_reducible refine condBN (by simp only [go_sem]; rfl) (by simp only [go_sem]; rfl) (fun hc => ?_) (fun hc => ?_) <;> (try simp only [Bool.not_eq_eq_eq_not, Bool.not_true, Bool.not_false, Bool.and_eq_true, Bool.and_eq_false_imp, Bool.or_eq_true, Bool.or_eq_false_iff, decide_eq_true_eq, decide_eq_false_iff_not] at hc))
      | (with_reducible apply callN)
      | (with_reducible apply callRN [])
      | ((with_reducible refine nrmE ?_); (simp (implicitDefEqProofs := false) (dsimp := false) (disch := first | assumption | omega) only [go_sem, Int.reduceAdd, Int.reduceSub, Int.reduceMul, Int.reduceNeg, Int.reduceLT, Int.reduceLE, Int.reduceEq, Int.reduceNe, Int.reduceToNat, Int.reduceMod, Int.reduceDiv, Int.reducePow, Nat.reduceAdd, Nat.reduceSub, Nat.reduceMul, Nat.reduceLT, Nat.reduceLeDiff, Nat.reduceEqDiff, Nat.reduceMod, Nat.reduceDiv, Nat.reducePow, reduceCtorEq, ↓reduceIte, wrap_i64, wrap_u8, wrap_u32, wrap_u64, Int.tmod_eq_emod_of_nonneg, Int.tdiv_eq_ediv_of_nonneg, hB]) <;> rfl)
      | apply c_isRing
      | apply c_within
      | apply c_cloneSl
      | (with_reducible refine aft_intro ?_ (fun hc => ?_))
      | (with_reducible refine imp_intro' (fun hc => ?_))
      | (with_reducible refine And.intro ?_ ?_)
      | (with_reducible intro hc)
      | (with_reducible assumption)
      | omega
      | (with_reducible refine Int.emod_nonneg _ ?_)
      | (with_reducible refine Int.emod_lt_of_pos _ ?_))
    focus (refine body_ret [] [] rfl rfl ?_ ?_; all_goals (first | (with_reducible rfl) | (simp (implicitDefEqProofs := false) (dsimp := false) (disch := first | assumption | omega) only [go_sem, Int.reduceAdd, Int.reduceSub, Int.reduceMul, Int.reduceNeg, Int.reduceLT, Int.reduceLE, Int.reduceEq, Int.reduceNe, Int.reduceToNat, Int.reduceMod, Int.reduceDiv, Int.reducePow, Nat.reduceAdd, Nat.reduceSub, Nat.reduceMul, Nat.reduceLT, Nat.reduceLeDiff, Nat.reduceEqDiff, Nat.reduceMod, Nat.reduceDiv, Nat.reducePow, reduceCtorEq, ↓reduceIte, wrap_i64, wrap_u8, wrap_u32, wrap_u64, Int.tmod_eq_emod_of_nonneg, Int.tdiv_eq_ediv_of_nonneg]) | skip))

def slots (xs : List (Int × Int)) (a : Int) (n : Nat) : List Int := (List.range n).map fun i => (slotAt xs (a + (i : Nat))).2
theorem slots_succ (xs : List (Int × Int)) (a : Int) (n : Nat) : slots xs a (n + 1) = slots xs a n ++ [(slotAt xs (a + (n : Nat))).2] := by
  simp [slots, List.range_succ]
theorem slots_take (xs : List (Int × Int)) (a : Int) (n : Nat) : (slots xs a n).take n = slots xs a n := by rw [List.take_of_length_le (by simp [slots])]
theorem slots_length (xs : List (Int × Int)) (a : Int) (n : Nat) : (slots xs a n).length = n := by simp [slots]
def ringList (hd tl : Int) (xs : List (Int × Int)) : List Int := slots xs hd (tl - hd).toNat

theorem c_RingList (b : Bool) (hd tl : Int) (xs : List (Int × Int)) (hl : xs.length ≤ 1000000) (hr : ringP hd tl xs) :
    Con Try.prog 19 [.agg [(.v (.int .i64 (hd))), (.v (.int .i64 (tl))), .bor b (xs.map cSl)]] [] (.sl 0 0 (tl - hd).toNat) [some { es := (ringList hd tl xs).map (cI .i64), sz := 1, flat := true }] := by
  have hB := ringB_true hr
  have ⟨h1, h2, h3, h4, h5, h6, h7⟩ := hr
  refine con_of_body (C := cxOf Try.prog) cxOk [(2, none)] Try.func19 rfl rfl rfl ?_
  simp only [Try.ntmps19, List.length_cons, List.length_nil, Nat.reduceAdd, Nat.reduceSub, List.replicate, List.cons_append, List.nil_append, List.append_nil]
  repeat' (first
    | ((with_reducible refine nrm ?_); try simp (implicitDefEqProofs := false) (dsimp := false) (disch := first | assumption | omega) only [go_sem, Int.reduceAdd, Int.reduceSub, Int.reduceMul, Int.reduceNeg, Int.reduceLT, Int.reduceLE, Int.reduceEq, Int.reduceNe, Int.reduceToNat, Int.reduceMod, Int.reduceDiv, Int.reducePow, Nat.reduceAdd, Nat.reduceSub, Nat.reduceMul, Nat.reduceLT, Nat.reduceLeDiff, Nat.reduceEqDiff, Nat.reduceMod, Nat.reduceDiv, Nat.reducePow, reduceCtorEq, ↓reduceIte, wrap_i64, wrap_u8, wrap_u32, wrap_u64, Int.tmod_eq_emod_of_nonneg, Int.tdiv_eq_ediv_of_nonneg, hB])
    | (with_reducible refine sem_seqK fun K => ?_)
    | (with_reducible refine kt_f _ ?_)
    | (with_reducible refine regionN cxOk ?_)
    | (with_reducible refine drawN cxOk 4 ?_)
    | ((with_reducible refine chk_by ?_); decide +kernel)
    | (with_reducible refine retN ?_)
    | (with_reducible refine skipN ?_)
    | (with_reducible refine exitN ?_)
    | (with_reducible refine sem_block ?_)
    | (with_reducible refine condN ?_)
    | (with_reducible refine condD_true ?_)
    | (with_reducible refine condD_false ?_)
    | (with_reducible refine condNq (fun hc => ?_) ?_)
    | (with_reducible refine condPN (by simp only [go_sem]; rfl) (by simp only [go_sem]; rfl) (fun hc => ?_) (fun hc => ?_))
    | (with_reducible refine condNN (by simp only [go_sem]; rfl) (by simp only [go_sem]; rfl) (fun hc => ?_) (fun hc => ?_))
    | (with_reducible refine condBN (by simp only [go_sem]; rfl) (by simp only [go_sem]; rfl) (fun hc => ?_) (fun hc => ?_) <;> (try simp only [Bool.not_eq_eq_eq_not, Bool.not_true, Bool.not_false, Bool.and_eq_true, Bool.and_eq_false_imp, Bool.or_eq_true, Bool.or_eq_false_iff, decide_eq_true_eq, decide_eq_false_iff_not] at hc))
    | (with_reducible apply callN)
    | (with_reducible apply callRN [])
    | ((with_reducible refine nrmE ?_); (simp (implicitDefEqProofs := false) (dsimp := false) (disch := first | assumption | omega) only [go_sem, Int.reduceAdd, Int.reduceSub, Int.reduceMul, Int.reduceNeg, Int.reduceLT, Int.reduceLE, Int.reduceEq, Int.reduceNe, Int.reduceToNat, Int.reduceMod, Int.reduceDiv, Int.reducePow, Nat.reduceAdd, Nat.reduceSub, Nat.reduceMul, Nat.reduceLT, Nat.reduceLeDiff, Nat.reduceEqDiff, Nat.reduceMod, Nat.reduceDiv, Nat.reducePow, reduceCtorEq, ↓reduceIte, wrap_i64, wrap_u8, wrap_u32, wrap_u64, Int.tmod_eq_emod_of_nonneg, Int.tdiv_eq_ediv_of_nonneg, hB]) <;> rfl)
    | apply c_isRing
    | (with_reducible refine aft_intro ?_ (fun hc => ?_))
    | (with_reducible refine imp_intro' (fun hc => ?_))
    | (with_reducible refine And.intro ?_ ?_)
    | (with_reducible intro hc)
    | (with_reducible assumption)
    | omega
    | (with_reducible refine Int.emod_nonneg _ ?_)
    | (with_reducible refine Int.emod_lt_of_pos _ ?_))
  refine sem_loopF (α := Nat) [(.slot 3, .virt 1 true)] [0, 1] [false, true, false, true, true, false, false, false, false, false, false, false, false, false, false, false, false, false, false, false, false, false, false, false, false, false, false, false, false, false] (fun j => (j : Int) ≤ tl - hd) (fun j S => ⟨((S.t).set 3 (.sl 1 0 j)).set 4 ((.v (.int .i64 (hd + j)))), S.h.set 1 (some { es := (slots xs hd j).map (cI .i64), sz := 1, flat := true })⟩) (fun j => (tl - hd).toNat - j) (0) rfl (by simp only [go_sem, Int.reduceAdd, Int.reduceSub, Int.reduceMul, Int.reduceNeg, Int.reduceLT, Int.reduceLE, Int.reduceEq, Int.reduceNe, Int.reduceToNat, Int.reduceMod, Int.reduceDiv, Int.reducePow, Nat.reduceAdd, Nat.reduceSub, Nat.reduceMul, Nat.reduceLT, Nat.reduceLeDiff, Nat.reduceEqDiff, Nat.reduceMod, Nat.reduceDiv, Nat.reducePow, reduceCtorEq, ↓reduceIte]; rfl) ?_ ?_ ?_
  · simp [go_sem, slots]
  · simp; omega
  rintro j hI
  try simp only at hI
  simp only [go_sem, Int.reduceAdd, Int.reduceSub, Int.reduceMul, Int.reduceNeg, Int.reduceLT, Int.reduceLE, Int.reduceEq, Int.reduceNe, Int.reduceToNat, Int.reduceMod, Int.reduceDiv, Int.reducePow, Nat.reduceAdd, Nat.reduceSub, Nat.reduceMul, Nat.reduceLT, Nat.reduceLeDiff, Nat.reduceEqDiff, Nat.reduceMod, Nat.reduceDiv, Nat.reducePow, reduceCtorEq, ↓reduceIte]
  have hm := emod_len (hd + j) xs.length (by omega)
  repeat' (first
    | ((with_reducible refine nrm ?_); try simp (implicitDefEqProofs := false) (dsimp := false) (disch := first | assumption | omega) only [go_sem, Int.reduceAdd, Int.reduceSub, Int.reduceMul, Int.reduceNeg, Int.reduceLT, Int.reduceLE, Int.reduceEq, Int.reduceNe, Int.reduceToNat, Int.reduceMod, Int.reduceDiv, Int.reducePow, Nat.reduceAdd, Nat.reduceSub, Nat.reduceMul, Nat.reduceLT, Nat.reduceLeDiff, Nat.reduceEqDiff, Nat.reduceMod, Nat.reduceDiv, Nat.reducePow, reduceCtorEq, ↓reduceIte, wrap_i64, wrap_u8, wrap_u32, wrap_u64, Int.tmod_eq_emod_of_nonneg, Int.tdiv_eq_ediv_of_nonneg, slots_length, slots_take])
    | (with_reducible refine sem_seqK fun K => ?_)
    | (with_reducible refine kt_f _ ?_)
    | (with_reducible refine regionN cxOk ?_)
    | (with_reducible refine drawN cxOk 4 ?_)
    | ((with_reducible refine chk_by ?_); decide +kernel)
    | (with_reducible refine retN ?_)
    | (with_reducible refine skipN ?_)
    | (with_reducible refine exitN ?_)
    | (with_reducible refine sem_block ?_)
    | (with_reducible refine condN ?_)
    | (with_reducible refine condD_true ?_)
    | (with_reducible refine condD_false ?_)
    | (with_reducible refine condNq (fun hc => ?_) ?_)
    | (with_reducible refine condPN (by simp only [go_sem]; rfl) (by simp only [go_sem]; rfl) (fun hc => ?_) (fun hc => ?_))
    | (with_reducible refine condNN (by simp only [go_sem]; rfl) (by simp only [go_sem]; rfl) (fun hc => ?_) (fun hc => ?_))
    | (with_reducible refine condBN (by simp only [go_sem]; rfl) (by simp only [go_sem]; rfl) (fun hc => ?_) (fun hc => ?_) <;> (try simp only [Bool.not_eq_eq_eq_not, Bool.not_true, Bool.not_false, Bool.and_eq_true, Bool.and_eq_false_imp, Bool.or_eq_true, Bool.or_eq_false_iff, decide_eq_true_eq, decide_eq_false_iff_not] at hc))
    | (with_reducible refine aft_intro ?_ (fun hc => ?_))
    | (with_reducible refine imp_intro' (fun hc => ?_))
    | (with_reducible refine And.intro ?_ ?_)
    | (with_reducible intro hc)
    | (with_reducible assumption)
    | omega
    | (with_reducible refine Int.emod_nonneg _ ?_)
    | (with_reducible refine Int.emod_lt_of_pos _ ?_))
  · focus (refine loop_next (j + 1) [] [0, 3] [false, true, false, true, true, false, false, false, false, false, false, false, false, false, false, false, false, false, false, false, false, false, false, false, false, false, false, false, false, false] rfl ?_ ?_ ?_; (try (first | rfl | (simp (implicitDefEqProofs := false) (dsimp := false) only [go_sem, Int.reduceAdd, Int.reduceSub, Int.reduceMul, Int.reduceNeg, Int.reduceLT, Int.reduceLE, Int.reduceEq, Int.reduceNe, Int.reduceToNat, Int.reduceMod, Int.reduceDiv, Int.reducePow, Nat.reduceAdd, Nat.reduceSub, Nat.reduceMul, Nat.reduceLT, Nat.reduceLeDiff, Nat.reduceEqDiff, Nat.reduceMod, Nat.reduceDiv, Nat.reducePow, reduceCtorEq, ↓reduceIte, St.mk.injEq, List.cons.injEq, AV.v.injEq, Value.int.injEq, AV.sl.injEq, Option.some.injEq, Ob.mk.injEq, true_and, and_true, Int.natCast_add, Int.cast_ofNat_Int]; omega) | (simp (implicitDefEqProofs := false) (dsimp := false) only [go_sem, Int.reduceAdd, Int.reduceSub, Int.reduceMul, Int.reduceNeg, Int.reduceLT, Int.reduceLE, Int.reduceEq, Int.reduceNe, Int.reduceToNat, Int.reduceMod, Int.reduceDiv, Int.reducePow, Nat.reduceAdd, Nat.reduceSub, Nat.reduceMul, Nat.reduceLT, Nat.reduceLeDiff, Nat.reduceEqDiff, Nat.reduceMod, Nat.reduceDiv, Nat.reducePow, reduceCtorEq, ↓reduceIte, St.mk.injEq, List.cons.injEq, AV.v.injEq, Value.int.injEq, AV.sl.injEq, Option.some.injEq, Ob.mk.injEq, true_and, and_true, Int.natCast_add, Int.cast_ofNat_Int]; done) | (simp (implicitDefEqProofs := false) (dsimp := false) only [go_sem, Int.reduceAdd, Int.reduceSub, Int.reduceMul, Int.reduceNeg, Int.reduceLT, Int.reduceLE, Int.reduceEq, Int.reduceNe, Int.reduceToNat, Int.reduceMod, Int.reduceDiv, Int.reducePow, Nat.reduceAdd, Nat.reduceSub, Nat.reduceMul, Nat.reduceLT, Nat.reduceLeDiff, Nat.reduceEqDiff, Nat.reduceMod, Nat.reduceDiv, Nat.reducePow, reduceCtorEq, ↓reduceIte, St.mk.injEq, List.cons.injEq, AV.v.injEq, Value.int.injEq, AV.sl.injEq, Option.some.injEq, Ob.mk.injEq, true_and, and_true, Int.natCast_add, Int.cast_ofNat_Int]))); all_goals try (first | omega | (simp only; omega)); all_goals (try dsimp only))
    exact ⟨by omega, by rw [slots_succ]; rfl⟩
  · obtain rfl : j = (tl - hd).toNat := by omega
    focus (refine body_ret [] [1] rfl rfl ?_ ?_; all_goals (first | (with_reducible rfl) | (simp (implicitDefEqProofs := false) (dsimp := false) (disch := first | assumption | omega) only [go_sem, Int.reduceAdd, Int.reduceSub, Int.reduceMul, Int.reduceNeg, Int.reduceLT, Int.reduceLE, Int.reduceEq, Int.reduceNe, Int.reduceToNat, Int.reduceMod, Int.reduceDiv, Int.reducePow, Nat.reduceAdd, Nat.reduceSub, Nat.reduceMul, Nat.reduceLT, Nat.reduceLeDiff, Nat.reduceEqDiff, Nat.reduceMod, Nat.reduceDiv, Nat.reducePow, reduceCtorEq, ↓reduceIte, wrap_i64, wrap_u8, wrap_u32, wrap_u64, Int.tmod_eq_emod_of_nonneg, Int.tdiv_eq_ediv_of_nonneg]) | skip))
    rfl

theorem take_succ_eq {xs ys : List Int} {j : Nat} (ht : xs.take j = ys.take j) (h1 : j < xs.length) (h2 : j < ys.length) (h : xs.getD j 0 = ys.getD j 0) : xs.take (j + 1) = ys.take (j + 1) := by
  rw [List.take_succ_eq_append_getElem h1, List.take_succ_eq_append_getElem h2, ht]
  simp only [List.getD_eq_getElem?_getD, List.getElem?_eq_getElem h1, List.getElem?_eq_getElem h2, Option.getD_some] at h
  rw [h]

theorem c_same (a b : Bool) (xs ys : List Int) (h1 : xs.length ≤ 1000000) (h2 : ys.length ≤ 1000000) :
    Con Try.prog 18 [.bor a (xs.map (cI .i64)), .bor b (ys.map (cI .i64))] [] ((.v (.bool (decide (xs = ys))))) [] := by
  refine con_of_body (C := cxOf Try.prog) cxOk [(4, none)] Try.func18 rfl rfl rfl ?_
  simp only [Try.ntmps18, List.length_cons, List.length_nil, Nat.reduceAdd, Nat.reduceSub, List.replicate, List.cons_append, List.nil_append, List.append_nil]
  repeat' (first
    | ((with_reducible refine nrm ?_); try simp (implicitDefEqProofs := false) (dsimp := false) (disch := first | assumption | omega) only [go_sem, Int.reduceAdd, Int.reduceSub, Int.reduceMul, Int.reduceNeg, Int.reduceLT, Int.reduceLE, Int.reduceEq, Int.reduceNe, Int.reduceToNat, Int.reduceMod, Int.reduceDiv, Int.reducePow, Nat.reduceAdd, Nat.reduceSub, Nat.reduceMul, Nat.reduceLT, Nat.reduceLeDiff, Nat.reduceEqDiff, Nat.reduceMod, Nat.reduceDiv, Nat.reducePow, reduceCtorEq, ↓reduceIte, wrap_i64, wrap_u8, wrap_u32, wrap_u64, Int.tmod_eq_emod_of_nonneg, Int.tdiv_eq_ediv_of_nonneg])
    | (with_reducible refine sem_seqK fun K => ?_)
    | (with_reducible refine kt_f _ ?_)
    | (with_reducible refine regionN cxOk ?_)
    | (with_reducible refine drawN cxOk 4 ?_)
    | ((with_reducible refine chk_by ?_); decide +kernel)
    | (with_reducible refine retN ?_)
    | (with_reducible refine skipN ?_)
    | (with_reducible refine exitN ?_)
    | (with_reducible refine sem_block ?_)
    | (with_reducible refine condN ?_)
    | (with_reducible refine condD_true ?_)
    | (with_reducible refine condD_false ?_)
    | (with_reducible refine condNq (fun hc => ?_) ?_)
    | (with_reducible refine condPN (by simp only [go_sem]; rfl) (by simp only [go_sem]; rfl) (fun hc => ?_) (fun hc => ?_))
    | (with_reducible refine condNN (by simp only [go_sem]; rfl) (by simp only [go_sem]; rfl) (fun hc => ?_) (fun hc => ?_))
    | (with_reducible refine condBN (by simp only [go_sem]; rfl) (by simp only [go_sem]; rfl) (fun hc => ?_) (fun hc => ?_) <;> (try simp only [Bool.not_eq_eq_eq_not, Bool.not_true, Bool.not_false, Bool.and_eq_true, Bool.and_eq_false_imp, Bool.or_eq_true, Bool.or_eq_false_iff, decide_eq_true_eq, decide_eq_false_iff_not] at hc))
    | (with_reducible refine aft_intro ?_ (fun hc => ?_))
    | (with_reducible refine imp_intro' (fun hc => ?_))
    | (with_reducible refine And.intro ?_ ?_)
    | (with_reducible intro hc)
    | (with_reducible assumption)
    | omega
    | (with_reducible refine Int.emod_nonneg _ ?_)
    | (with_reducible refine Int.emod_lt_of_pos _ ?_))
  · focus (refine body_ret [] [] rfl rfl ?_ ?_; all_goals (first | (with_reducible rfl) | (simp (implicitDefEqProofs := false) (dsimp := false) (disch := first | assumption | omega) only [go_sem, Int.reduceAdd, Int.reduceSub, Int.reduceMul, Int.reduceNeg, Int.reduceLT, Int.reduceLE, Int.reduceEq, Int.reduceNe, Int.reduceToNat, Int.reduceMod, Int.reduceDiv, Int.reducePow, Nat.reduceAdd, Nat.reduceSub, Nat.reduceMul, Nat.reduceLT, Nat.reduceLeDiff, Nat.reduceEqDiff, Nat.reduceMod, Nat.reduceDiv, Nat.reducePow, reduceCtorEq, ↓reduceIte, wrap_i64, wrap_u8, wrap_u32, wrap_u64, Int.tmod_eq_emod_of_nonneg, Int.tdiv_eq_ediv_of_nonneg]) | skip))
    rw [decide_eq_false]; intro h; subst h; exact hc rfl
  · refine sem_loopF (α := Nat) [] [] [true, true, false, false, false, true, false, false, false, false, false, false, false, false, false, false, false, false, false, false, false, false, false, false, false, false] (fun j => j ≤ xs.length ∧ xs.take j = ys.take j) (fun j S => ⟨(S.t).set 5 ((.v (.int .i64 (j)))), S.h⟩) (fun j => xs.length - j) (0) rfl (by simp only [go_sem, Int.reduceAdd, Int.reduceSub, Int.reduceMul, Int.reduceNeg, Int.reduceLT, Int.reduceLE, Int.reduceEq, Int.reduceNe, Int.reduceToNat, Int.reduceMod, Int.reduceDiv, Int.reducePow, Nat.reduceAdd, Nat.reduceSub, Nat.reduceMul, Nat.reduceLT, Nat.reduceLeDiff, Nat.reduceEqDiff, Nat.reduceMod, Nat.reduceDiv, Nat.reducePow, reduceCtorEq, ↓reduceIte]; rfl) ?_ ?_ ?_
    · rfl
    · simp
    rintro j hI
    try simp only at hI
    simp only [go_sem, Int.reduceAdd, Int.reduceSub, Int.reduceMul, Int.reduceNeg, Int.reduceLT, Int.reduceLE, Int.reduceEq, Int.reduceNe, Int.reduceToNat, Int.reduceMod, Int.reduceDiv, Int.reducePow, Nat.reduceAdd, Nat.reduceSub, Nat.reduceMul, Nat.reduceLT, Nat.reduceLeDiff, Nat.reduceEqDiff, Nat.reduceMod, Nat.reduceDiv, Nat.reducePow, reduceCtorEq, ↓reduceIte]
    obtain ⟨hj, ht⟩ := hI
    repeat' (first
      | ((with_reducible refine nrm ?_); try simp (implicitDefEqProofs := false) (dsimp := false) (disch := first | assumption | omega) only [go_sem, Int.reduceAdd, Int.reduceSub, Int.reduceMul, Int.reduceNeg, Int.reduceLT, Int.reduceLE, Int.reduceEq, Int.reduceNe, Int.reduceToNat, Int.reduceMod, Int.reduceDiv, Int.reducePow, Nat.reduceAdd, Nat.reduceSub, Nat.reduceMul, Nat.reduceLT, Nat.reduceLeDiff, Nat.reduceEqDiff, Nat.reduceMod, Nat.reduceDiv, Nat.reducePow, reduceCtorEq, ↓reduceIte, wrap_i64, wrap_u8, wrap_u32, wrap_u64, Int.tmod_eq_emod_of_nonneg, Int.tdiv_eq_ediv_of_nonneg])
      | (with_reducible refine sem_seqK fun K => ?_)
      | (with_reducible refine kt_f _ ?_)
      | (with_reducible refine regionN cxOk ?_)
      | (with_reducible refine drawN cxOk 4 ?_)
      | ((with_reducible refine chk_by ?_); decide +kernel)
      | (with_reducible refine retN ?_)
      | (with_reducible refine skipN ?_)
      | (with_reducible refine exitN ?_)
      | (with_reducible refine sem_block ?_)
      | (with_reducible refine condN ?_)
      | (with_reducible refine condD_true ?_)
      | (with_reducible refine condD_false ?_)
      | (with_reducible refine condNq (fun hc => ?_) ?_)
      | (with_reducible refine condPN (by simp only [go_sem]; rfl) (by simp only [go_sem]; rfl) (fun hc => ?_) (fun hc => ?_))
      | (with_reducible refine condNN (by simp only [go_sem]; rfl) (by simp only [go_sem]; rfl) (fun hc => ?_) (fun hc => ?_))
      | (with_reducible refine condBN (by simp only [go_sem]; rfl) (by simp only [go_sem]; rfl) (fun hc => ?_) (fun hc => ?_) <;> (try simp only [Bool.not_eq_eq_eq_not, Bool.not_true, Bool.not_false, Bool.and_eq_true, Bool.and_eq_false_imp, Bool.or_eq_true, Bool.or_eq_false_iff, decide_eq_true_eq, decide_eq_false_iff_not] at hc))
      | (with_reducible refine aft_intro ?_ (fun hc => ?_))
      | (with_reducible refine imp_intro' (fun hc => ?_))
      | (with_reducible refine And.intro ?_ ?_)
      | (with_reducible intro hc)
      | (with_reducible assumption)
      | omega
      | (with_reducible refine Int.emod_nonneg _ ?_)
      | (with_reducible refine Int.emod_lt_of_pos _ ?_))
    · focus (refine body_ret [] [] rfl rfl ?_ ?_; all_goals (first | (with_reducible rfl) | (simp (implicitDefEqProofs := false) (dsimp := false) (disch := first | assumption | omega) only [go_sem, Int.reduceAdd, Int.reduceSub, Int.reduceMul, Int.reduceNeg, Int.reduceLT, Int.reduceLE, Int.reduceEq, Int.reduceNe, Int.reduceToNat, Int.reduceMod, Int.reduceDiv, Int.reducePow, Nat.reduceAdd, Nat.reduceSub, Nat.reduceMul, Nat.reduceLT, Nat.reduceLeDiff, Nat.reduceEqDiff, Nat.reduceMod, Nat.reduceDiv, Nat.reducePow, reduceCtorEq, ↓reduceIte, wrap_i64, wrap_u8, wrap_u32, wrap_u64, Int.tmod_eq_emod_of_nonneg, Int.tdiv_eq_ediv_of_nonneg]) | skip))
      rw [decide_eq_false]
      intro h
      subst h
      exact hc rfl
    · focus (refine loop_next (j + 1) [] [] [true, true, false, false, false, true, false, false, false, false, false, false, false, false, false, false, false, false, false, false, false, false, false, false, false, false] rfl ?_ ?_ ?_; (try (first | rfl | (simp (implicitDefEqProofs := false) (dsimp := false) only [go_sem, Int.reduceAdd, Int.reduceSub, Int.reduceMul, Int.reduceNeg, Int.reduceLT, Int.reduceLE, Int.reduceEq, Int.reduceNe, Int.reduceToNat, Int.reduceMod, Int.reduceDiv, Int.reducePow, Nat.reduceAdd, Nat.reduceSub, Nat.reduceMul, Nat.reduceLT, Nat.reduceLeDiff, Nat.reduceEqDiff, Nat.reduceMod, Nat.reduceDiv, Nat.reducePow, reduceCtorEq, ↓reduceIte, St.mk.injEq, List.cons.injEq, AV.v.injEq, Value.int.injEq, AV.sl.injEq, Option.some.injEq, Ob.mk.injEq, true_and, and_true, Int.natCast_add, Int.cast_ofNat_Int]; omega) | (simp (implicitDefEqProofs := false) (dsimp := false) only [go_sem, Int.reduceAdd, Int.reduceSub, Int.reduceMul, Int.reduceNeg, Int.reduceLT, Int.reduceLE, Int.reduceEq, Int.reduceNe, Int.reduceToNat, Int.reduceMod, Int.reduceDiv, Int.reducePow, Nat.reduceAdd, Nat.reduceSub, Nat.reduceMul, Nat.reduceLT, Nat.reduceLeDiff, Nat.reduceEqDiff, Nat.reduceMod, Nat.reduceDiv, Nat.reducePow, reduceCtorEq, ↓reduceIte, St.mk.injEq, List.cons.injEq, AV.v.injEq, Value.int.injEq, AV.sl.injEq, Option.some.injEq, Ob.mk.injEq, true_and, and_true, Int.natCast_add, Int.cast_ofNat_Int]; done) | (simp (implicitDefEqProofs := false) (dsimp := false) only [go_sem, Int.reduceAdd, Int.reduceSub, Int.reduceMul, Int.reduceNeg, Int.reduceLT, Int.reduceLE, Int.reduceEq, Int.reduceNe, Int.reduceToNat, Int.reduceMod, Int.reduceDiv, Int.reducePow, Nat.reduceAdd, Nat.reduceSub, Nat.reduceMul, Nat.reduceLT, Nat.reduceLeDiff, Nat.reduceEqDiff, Nat.reduceMod, Nat.reduceDiv, Nat.reducePow, reduceCtorEq, ↓reduceIte, St.mk.injEq, List.cons.injEq, AV.v.injEq, Value.int.injEq, AV.sl.injEq, Option.some.injEq, Ob.mk.injEq, true_and, and_true, Int.natCast_add, Int.cast_ofNat_Int]))); all_goals try (first | omega | (simp only; omega)); all_goals (try dsimp only))
      exact ⟨by omega, take_succ_eq ht (by omega) (by omega) hc⟩
    · focus (refine body_ret [] [] rfl rfl ?_ ?_; all_goals (first | (with_reducible rfl) | (simp (implicitDefEqProofs := false) (dsimp := false) (disch := first | assumption | omega) only [go_sem, Int.reduceAdd, Int.reduceSub, Int.reduceMul, Int.reduceNeg, Int.reduceLT, Int.reduceLE, Int.reduceEq, Int.reduceNe, Int.reduceToNat, Int.reduceMod, Int.reduceDiv, Int.reducePow, Nat.reduceAdd, Nat.reduceSub, Nat.reduceMul, Nat.reduceLT, Nat.reduceLeDiff, Nat.reduceEqDiff, Nat.reduceMod, Nat.reduceDiv, Nat.reducePow, reduceCtorEq, ↓reduceIte, wrap_i64, wrap_u8, wrap_u32, wrap_u64, Int.tmod_eq_emod_of_nonneg, Int.tdiv_eq_ediv_of_nonneg]) | skip))
      rw [decide_eq_true]
      rwa [List.take_of_length_le (by omega), List.take_of_length_le (by omega)] at ht


end SA
