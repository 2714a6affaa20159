import Derived.Test.YtokpejlicanbmaaSTy
import Derived.Test.YtokpejlicanbmaaSBasic
set_option linter.all false
set_option linter.unusedSimpArgs false
set_option linter.unusedVariables false
set_option maxRecDepth 100000
set_option maxHeartbeats 1000000
open Go Am TyA Go.Proofs
attribute [local irreducible] Beh Con
namespace SA

-- needs basic
def cSl (s : Int × Int) : List AV := [(.v (.int .i64 (s.1))), (.v (.int .i64 (s.2)))]
theorem set_cSl (xs : List (Int × Int)) (j : Nat) (a b : Int) : (xs.map cSl).set j [(.v (.int .i64 (a))), (.v (.int .i64 (b)))] = (xs.set j (a, b)).map cSl := set_map _ _ _ _ _ rfl
theorem app_cSl (xs : List (Int × Int)) (a b : Int) : xs.map cSl ++ [[(.v (.int .i64 (a))), (.v (.int .i64 (b)))]] = (xs ++ [(a, b)]).map cSl := app_map _ _ _ _ rfl
theorem rep_cSl (n : Nat) (a b : Int) : List.replicate n [(.v (.int .i64 (a))), (.v (.int .i64 (b)))] = (List.replicate n (a, b)).map cSl := rep_map _ _ _ _ rfl
attribute [go_sem] cSl set_cSl app_cSl rep_cSl

theorem c_cloneSl (b : Bool) (xs : List (Int × Int)) (hl : xs.length ≤ 1000000) : Con Try.prog 67 [.bor b (xs.map cSl)] [] (.sl 0 0 xs.length) [some { es := xs.map cSl, sz := 2, flat := true }] := by
  refine con_of_body (C := cxOf Try.prog) cxOk [(2, none)] Try.func67 rfl rfl rfl ?_
  simp only [Try.ntmps67, List.length_cons, List.length_nil, Nat.reduceAdd, Nat.reduceSub, List.replicate, List.cons_append, List.nil_append, List.append_nil]
  repeat' (first
    | ((with_reducible refine nrm ?_); try simp (implicitDefEqProofs := false) (dsimp := false) (disch := first | assumption | omega) only [go_sem, Int.reduceAdd, Int.reduceSub, Int.reduceMul, Int.reduceNeg, Int.reduceLT, Int.reduceLE, Int.reduceEq, Int.reduceNe, Int.reduceToNat, Int.reduceMod, Int.reduceDiv, Int.reducePow, Nat.reduceAdd, Nat.reduceSub, Nat.reduceMul, Nat.reduceLT, Nat.reduceLeDiff, Nat.reduceEqDiff, Nat.reduceMod, Nat.reduceDiv, Nat.reducePow, reduceCtorEq, ↓reduceIte, wrap_i64, wrap_u8, wrap_u32, wrap_u64, Int.tmod_eq_emod_of_nonneg, Int.tdiv_eq_ediv_of_nonneg])
    | (with_reducible refine sem_seqK fun K => ?_)
    | (with_reducible refine kt_f _ ?_)
    | (with_reducible refine regionN cxOk ?_)
    | (with_reducible refine drawN cxOk 4 ?_)
    | ((with_reducible refine chk_by ?_); decide +kernel)
    | (with_reducible refine retN ?_)
    | (with_reducible refine skipN ?_)
    | (with_reducible refine exitN ?_)
    | (with_reducible refine sem_block ?_)
    | (with_reducible refine condN ?_)
    | (with_reducible refine condD_true ?_)
    | (with_reducible refine condD_false ?_)
    | (with_reducible refine condNq (fun hc => ?_) ?_)
    | (with_reducible refine condPN (by simp only [go_sem]; rfl) (by simp only [go_sem]; rfl) (fun hc => ?_) (fun hc => ?_))
    | (with_reducible refine condNN (by simp only [go_sem]; rfl) (by simp only [go_sem]; rfl) (fun hc => ?_) (fun hc => ?_))
    | (with_reducible refine condBN (by simp only [go_sem]; rfl) (by simp only [go_sem]; rfl) (fun hc => ?_) (fun hc => ?_) <;> (try simp only [Bool.not_eq_eq_eq_not, Bool.not_true, Bool.not_false, Bool.and_eq_true, Bool.and_eq_false_imp, Bool.or_eq_true, Bool.or_eq_false_iff, decide_eq_true_eq, decide_eq_false_iff_not] at hc))
    | (with_reducible refine aft_intro ?_ (fun hc => ?_))
    | (with_reducible refine imp_intro' (fun hc => ?_))
    | (with_reducible refine And.intro ?_ ?_)
    | (with_reducible intro hc)
    | (with_reducible assumption)
    | omega
    | (with_reducible refine Int.emod_nonneg _ ?_)
    | (with_reducible refine Int.emod_lt_of_pos _ ?_))
  · obtain rfl := List.length_eq_zero_iff.1 hc
    focus (refine body_ret [(.slot 2, .virt 2 true)] [0] rfl rfl ?_ ?_; all_goals (first | (with_reducible rfl) | (simp (implicitDefEqProofs := false) (dsimp := false) (disch := first | assumption | omega) only [go_sem, Int.reduceAdd, Int.reduceSub, Int.reduceMul, Int.reduceNeg, Int.reduceLT, Int.reduceLE, Int.reduceEq, Int.reduceNe, Int.reduceToNat, Int.reduceMod, Int.reduceDiv, Int.reducePow, Nat.reduceAdd, Nat.reduceSub, Nat.reduceMul, Nat.reduceLT, Nat.reduceLeDiff, Nat.reduceEqDiff, Nat.reduceMod, Nat.reduceDiv, Nat.reducePow, reduceCtorEq, ↓reduceIte, wrap_i64, wrap_u8, wrap_u32, wrap_u64, Int.tmod_eq_emod_of_nonneg, Int.tdiv_eq_ediv_of_nonneg]) | skip))
  · focus (refine body_ret [] [0] rfl rfl ?_ ?_; all_goals (first | (with_reducible rfl) | (simp (implicitDefEqProofs := false) (dsimp := false) (disch := first | assumption | omega) only [go_sem, Int.reduceAdd, Int.reduceSub, Int.reduceMul, Int.reduceNeg, Int.reduceLT, Int.reduceLE, Int.reduceEq, Int.reduceNe, Int.reduceToNat, Int.reduceMod, Int.reduceDiv, Int.reducePow, Nat.reduceAdd, Nat.reduceSub, Nat.reduceMul, Nat.reduceLT, Nat.reduceLeDiff, Nat.reduceEqDiff, Nat.reduceMod, Nat.reduceDiv, Nat.reducePow, reduceCtorEq, ↓reduceIte, wrap_i64, wrap_u8, wrap_u32, wrap_u64, Int.tmod_eq_emod_of_nonneg, Int.tdiv_eq_ediv_of_nonneg]) | skip))

def slotOk (tl k : Int) (s : Int × Int) : Prop := 0 ≤ s.2 ∧ s.2 ≤ 255 ∧ (k < tl → s.1 = k + 1) ∧ (¬ k < tl → s.1 = k ∧ s.2 = 0)
def slotAt (xs : List (Int × Int)) (k : Int) : Int × Int := xs.getD (k % (xs.length : Int)).toNat default
def ringP (hd tl : Int) (xs : List (Int × Int)) : Prop := 1 ≤ xs.length ∧ xs.length ≤ 32 ∧ 0 ≤ hd ∧ hd ≤ tl ∧ tl ≤ 1000000 ∧ tl ≤ hd + xs.length ∧ ∀ j : Nat, j < xs.length → slotOk tl (hd + j) (slotAt xs (hd + j))
noncomputable def ringB (hd tl : Int) (xs : List (Int × Int)) : Bool := @decide (ringP hd tl xs) (Classical.propDecidable _)
theorem ringB_true {hd tl : Int} {xs : List (Int × Int)} (h : ringP hd tl xs) : ringB hd tl xs = true := by unfold ringB; simpa using h
theorem ringB_false {hd tl : Int} {xs : List (Int × Int)} (h : ¬ ringP hd tl xs) : ringB hd tl xs = false := by unfold ringB; simpa using h
theorem ringP_of {hd tl : Int} {xs : List (Int × Int)} (h : ringB hd tl xs = true) : ringP hd tl xs := by unfold ringB at h; simpa using h

theorem c_isRing (b : Bool) (hd tl : Int) (xs : List (Int × Int)) (hl : xs.length ≤ 1000000) :
    Con Try.prog 66 [.agg [(.v (.int .i64 (hd))), (.v (.int .i64 (tl))), .bor b (xs.map cSl)]] [] ((.v (.bool (ringB hd tl xs)))) [] := by
  refine con_of_body (C := cxOf Try.prog) cxOk [(2, none)] Try.func66 rfl rfl rfl ?_
  simp only [Try.ntmps66, List.length_cons, List.length_nil, Nat.reduceAdd, Nat.reduceSub, List.replicate, List.cons_append, List.nil_append, List.append_nil]
  repeat' (first
    | ((with_reducible refine nrm ?_); try simp (implicitDefEqProofs := false) (dsimp := false) (disch := first | assumption | omega) only [go_sem, Int.reduceAdd, Int.reduceSub, Int.reduceMul, Int.reduceNeg, Int.reduceLT, Int.reduceLE, Int.reduceEq, Int.reduceNe, Int.reduceToNat, Int.reduceMod, Int.reduceDiv, Int.reducePow, Nat.reduceAdd, Nat.reduceSub, Nat.reduceMul, Nat.reduceLT, Nat.reduceLeDiff, Nat.reduceEqDiff, Nat.reduceMod, Nat.reduceDiv, Nat.reducePow, reduceCtorEq, ↓reduceIte, wrap_i64, wrap_u8, wrap_u32, wrap_u64, Int.tmod_eq_emod_of_nonneg, Int.tdiv_eq_ediv_of_nonneg])
    | (with_reducible refine sem_seqK fun K => ?_)
    | (with_reducible refine kt_f _ ?_)
    | (with_reducible refine regionN cxOk ?_)
    | (with_reducible refine drawN cxOk 4 ?_)
    | ((with_reducible refine chk_by ?_); decide +kernel)
    | (with_reducible refine retN ?_)
    | (with_reducible refine skipN ?_)
    | (with_reducible refine exitN ?_)
    | (with_reducible refine sem_block ?_)
    | (with_reducible refine condN ?_)
    | (with_reducible refine condD_true ?_)
    | (with_reducible refine condD_false ?_)
    | (with_reducible refine condNq (fun hc => ?_) ?_)
    | (with_reducible refine condPN (by simp only [go_sem]; rfl) (by simp only [go_sem]; rfl) (fun hc => ?_) (fun hc => ?_))
    | (with_reducible refine condNN (by simp only [go_sem]; rfl) (by simp only [go_sem]; rfl) (fun hc => ?_) (fun hc => ?_))
    | (with_reducible refine condBN (by simp only [go_sem]; rfl) (by simp only [go_sem]; rfl) (fun hc => ?_) (fun hc => ?_) <;> (try simp only [Bool.not_eq_eq_eq_not, Bool.not_true, Bool.not_false, Bool.and_eq_true, Bool.and_eq_false_imp, Bool.or_eq_true, Bool.or_eq_false_iff, decide_eq_true_eq, decide_eq_false_iff_not] at hc))
    | (with_reducible apply callN)
    | (with_reducible apply callRN [])
    | ((with_reducible refine nrmE ?_); (simp (implicitDefEqProofs := false) (dsimp := false) (disch := first | assumption | omega) only [go_sem, Int.reduceAdd, Int.reduceSub, Int.reduceMul, Int.reduceNeg, Int.reduceLT, Int.reduceLE, Int.reduceEq, Int.reduceNe, Int.reduceToNat, Int.reduceMod, Int.reduceDiv, Int.reducePow, Nat.reduceAdd, Nat.reduceSub, Nat.reduceMul, Nat.reduceLT, Nat.reduceLeDiff, Nat.reduceEqDiff, Nat.reduceMod, Nat.reduceDiv, Nat.reducePow, reduceCtorEq, ↓reduceIte, wrap_i64, wrap_u8, wrap_u32, wrap_u64, Int.tmod_eq_emod_of_nonneg, Int.tdiv_eq_ediv_of_nonneg]) <;> rfl)
    | apply c_within
    | (with_reducible refine aft_intro ?_ (fun hc => ?_))
    | (with_reducible refine imp_intro' (fun hc => ?_))
    | (with_reducible refine And.intro ?_ ?_)
    | (with_reducible intro hc)
    | (with_reducible assumption)
    | omega
    | (with_reducible refine Int.emod_nonneg _ ?_)
    | (with_reducible refine Int.emod_lt_of_pos _ ?_))
  · focus (refine body_ret [] [] rfl rfl ?_ ?_; all_goals (first | (with_reducible rfl) | (simp (implicitDefEqProofs := false) (dsimp := false) (disch := first | assumption | omega) only [go_sem, Int.reduceAdd, Int.reduceSub, Int.reduceMul, Int.reduceNeg, Int.reduceLT, Int.reduceLE, Int.reduceEq, Int.reduceNe, Int.reduceToNat, Int.reduceMod, Int.reduceDiv, Int.reducePow, Nat.reduceAdd, Nat.reduceSub, Nat.reduceMul, Nat.reduceLT, Nat.reduceLeDiff, Nat.reduceEqDiff, Nat.reduceMod, Nat.reduceDiv, Nat.reducePow, reduceCtorEq, ↓reduceIte, wrap_i64, wrap_u8, wrap_u32, wrap_u64, Int.tmod_eq_emod_of_nonneg, Int.tdiv_eq_ediv_of_nonneg]) | skip))
    rw [ringB_false]; unfold ringP; omega
  · refine sem_loopF (α := Nat) [] [0] [false, true, false, true, true, false, false, false, false, false, false, false, false, false, false, false, false, false, false, false, false, false, false, false, false, false, false, false, false, false, false, false, false, false, false, false, false, false, false, false, false, false, false, false, false, false, false, false, false, false, false, false, false, false, false, false, false, false, false, false, false, false, false, false, false, false, false, false, false, false, false, false, false, false, false, false, false] (fun j => j ≤ xs.length ∧ ∀ i : Nat, i < j → slotOk tl (hd + i) (slotAt xs (hd + i))) (fun j S => ⟨(S.t).set 4 ((.v (.int .i64 (hd + j)))), S.h⟩) (fun j => xs.length - j) (0) rfl (by simp only [go_sem, Int.reduceAdd, Int.reduceSub, Int.reduceMul, Int.reduceNeg, Int.reduceLT, Int.reduceLE, Int.reduceEq, Int.reduceNe, Int.reduceToNat, Int.reduceMod, Int.reduceDiv, Int.reducePow, Nat.reduceAdd, Nat.reduceSub, Nat.reduceMul, Nat.reduceLT, Nat.reduceLeDiff, Nat.reduceEqDiff, Nat.reduceMod, Nat.reduceDiv, Nat.reducePow, reduceCtorEq, ↓reduceIte]; rfl) ?_ ?_ ?_
    · simp [go_sem]
    · simp
    rintro j hI
    try simp only at hI
    simp only [go_sem, Int.reduceAdd, Int.reduceSub, Int.reduceMul, Int.reduceNeg, Int.reduceLT, Int.reduceLE, Int.reduceEq, Int.reduceNe, Int.reduceToNat, Int.reduceMod, Int.reduceDiv, Int.reducePow, Nat.reduceAdd, Nat.reduceSub, Nat.reduceMul, Nat.reduceLT, Nat.reduceLeDiff, Nat.reduceEqDiff, Nat.reduceMod, Nat.reduceDiv, Nat.reducePow, reduceCtorEq, ↓reduceIte]
    obtain ⟨hj, hs⟩ := hI
    have hm := emod_len (hd + j) xs.length (by omega)
    have hsl : (xs.getD ((hd + (j : Int)) % (xs.length : Int)).toNat default) = slotAt xs (hd + j) := rfl
    repeat' (first
      | ((with_reducible refine nrm ?_); try simp (implicitDefEqProofs := false) (dsimp := false) (disch := first | assumption | omega) only [go_sem, Int.reduceAdd, Int.reduceSub, Int.reduceMul, Int.reduceNeg, Int.reduceLT, Int.reduceLE, Int.reduceEq, Int.reduceNe, Int.reduceToNat, Int.reduceMod, Int.reduceDiv, Int.reducePow, Nat.reduceAdd, Nat.reduceSub, Nat.reduceMul, Nat.reduceLT, Nat.reduceLeDiff, Nat.reduceEqDiff, Nat.reduceMod, Nat.reduceDiv, Nat.reducePow, reduceCtorEq, ↓reduceIte, wrap_i64, wrap_u8, wrap_u32, wrap_u64, Int.tmod_eq_emod_of_nonneg, Int.tdiv_eq_ediv_of_nonneg])
      | (with_reducible refine sem_seqK fun K => ?_)
      | (with_reducible refine kt_f _ ?_)
      | (with_reducible refine regionN cxOk ?_)
      | (with_reducible refine drawN cxOk 4 ?_)
      | ((with_reducible refine chk_by ?_); decide +kernel)
      | (with_reducible refine retN ?_)
      | (with_reducible refine skipN ?_)
      | (with_reducible refine exitN ?_)
      | (with_reducible refine sem_block ?_)
      | (with_reducible refine condN ?_)
      | (with_reducible refine condD_true ?_)
      | (with_reducible refine condD_false ?_)
      | (with_reducible refine condNq (fun hc => ?_) ?_)
      | (with_reducible refine condPN (by simp only [go_sem]; rfl) (by simp only [go_sem]; rfl) (fun hc => ?_) (fun hc => ?_))
      | (with_reducible refine condNN (by simp only [go_sem]; rfl) (by simp only [go_sem]; rfl) (fun hc => ?_) (fun hc => ?_))
      | (with_reducible refine condBN (by simp only [go_sem]; rfl) (by simp only [go_sem]; rfl) (fun hc => ?_) (fun hc => ?_) <;> (try simp only [Bool.not_eq_eq_eq_not, Bool.not_true, Bool.not_false, Bool.and_eq_true, Bool.and_eq_false_imp, Bool.or_eq_true, Bool.or_eq_false_iff, decide_eq_true_eq, decide_eq_false_iff_not] at hc))
      | (with_reducible apply callN)
      | (with_reducible apply callRN [])
      | ((with_reducible refine nrmE ?_); (simp (implicitDefEqProofs := false) (dsimp := false) (disch := first | assumption | omega) only [go_sem, Int.reduceAdd, Int.reduceSub, Int.reduceMul, Int.reduceNeg, Int.reduceLT, Int.reduceLE, Int.reduceEq, Int.reduceNe, Int.reduceToNat, Int.reduceMod, Int.reduceDiv, Int.reducePow, Nat.reduceAdd, Nat.reduceSub, Nat.reduceMul, Nat.reduceLT, Nat.reduceLeDiff, Nat.reduceEqDiff, Nat.reduceMod, Nat.reduceDiv, Nat.reducePow, reduceCtorEq, ↓reduceIte, wrap_i64, wrap_u8, wrap_u32, wrap_u64, Int.tmod_eq_emod_of_nonneg, Int.tdiv_eq_ediv_of_nonneg]) <;> rfl)
      | apply c_within
      | (with_reducible refine aft_intro ?_ (fun hc => ?_))
      | (with_reducible refine imp_intro' (fun hc => ?_))
      | (with_reducible refine And.intro ?_ ?_)
      | (with_reducible intro hc)
      | (with_reducible assumption)
      | omega
      | (with_reducible refine Int.emod_nonneg _ ?_)
      | (with_reducible refine Int.emod_lt_of_pos _ ?_))
    all_goals first
      | (focus (refine loop_next (j + 1) [] [0] [false, true, false, true, true, false, false, false, false, false, false, false, false, false, false, false, false, false, false, false, false, false, false, false, false, false, false, false, false, false, false, false, false, false, false, false, false, false, false, false, false, false, false, false, false, false, false, false, false, false, false, false, false, false, false, false, false, false, false, false, false, false, false, false, false, false, false, false, false, false, false, false, false, false, false, false, false] rfl ?_ ?_ ?_; (try (first | rfl | (simp (implicitDefEqProofs := false) (dsimp := false) only [go_sem, Int.reduceAdd, Int.reduceSub, Int.reduceMul, Int.reduceNeg, Int.reduceLT, Int.reduceLE, Int.reduceEq, Int.reduceNe, Int.reduceToNat, Int.reduceMod, Int.reduceDiv, Int.reducePow, Nat.reduceAdd, Nat.reduceSub, Nat.reduceMul, Nat.reduceLT, Nat.reduceLeDiff, Nat.reduceEqDiff, Nat.reduceMod, Nat.reduceDiv, Nat.reducePow, reduceCtorEq, ↓reduceIte, St.mk.injEq, List.cons.injEq, AV.v.injEq, Value.int.injEq, AV.sl.injEq, Option.some.injEq, Ob.mk.injEq, true_and, and_true, Int.natCast_add, Int.cast_ofNat_Int]; omega) | (simp (implicitDefEqProofs := false) (dsimp := false) only [go_sem, Int.reduceAdd, Int.reduceSub, Int.reduceMul, Int.reduceNeg, Int.reduceLT, Int.reduceLE, Int.reduceEq, Int.reduceNe, Int.reduceToNat, Int.reduceMod, Int.reduceDiv, Int.reducePow, Nat.reduceAdd, Nat.reduceSub, Nat.reduceMul, Nat.reduceLT, Nat.reduceLeDiff, Nat.reduceEqDiff, Nat.reduceMod, Nat.reduceDiv, Nat.reducePow, reduceCtorEq, ↓reduceIte, St.mk.injEq, List.cons.injEq, AV.v.injEq, Value.int.injEq, AV.sl.injEq, Option.some.injEq, Ob.mk.injEq, true_and, and_true, Int.natCast_add, Int.cast_ofNat_Int]; done) | (simp (implicitDefEqProofs := false) (dsimp := false) only [go_sem, Int.reduceAdd, Int.reduceSub, Int.reduceMul, Int.reduceNeg, Int.reduceLT, Int.reduceLE, Int.reduceEq, Int.reduceNe, Int.reduceToNat, Int.reduceMod, Int.reduceDiv, Int.reducePow, Nat.reduceAdd, Nat.reduceSub, Nat.reduceMul, Nat.reduceLT, Nat.reduceLeDiff, Nat.reduceEqDiff, Nat.reduceMod, Nat.reduceDiv, Nat.reducePow, reduceCtorEq, ↓reduceIte, St.mk.injEq, List.cons.injEq, AV.v.injEq, Value.int.injEq, AV.sl.injEq, Option.some.injEq, Ob.mk.injEq, true_and, and_true, Int.natCast_add, Int.cast_ofNat_Int]))); all_goals try (first | omega | (simp only; omega)); all_goals (try dsimp only)); refine ⟨by omega, fun i hi => ?_⟩; by_cases he : i = j; (· subst he; rw [← hsl]; unfold slotOk; omega); exact hs i (by omega))
      | (focus (refine body_ret [] [] rfl rfl ?_ ?_; all_goals (first | (with_reducible rfl) | (simp (implicitDefEqProofs := false) (dsimp := false) (disch := first | assumption | omega) only [go_sem, Int.reduceAdd, Int.reduceSub, Int.reduceMul, Int.reduceNeg, Int.reduceLT, Int.reduceLE, Int.reduceEq, Int.reduceNe, Int.reduceToNat, Int.reduceMod, Int.reduceDiv, Int.reducePow, Nat.reduceAdd, Nat.reduceSub, Nat.reduceMul, Nat.reduceLT, Nat.reduceLeDiff, Nat.reduceEqDiff, Nat.reduceMod, Nat.reduceDiv, Nat.reducePow, reduceCtorEq, ↓reduceIte, wrap_i64, wrap_u8, wrap_u32, wrap_u64, Int.tmod_eq_emod_of_nonneg, Int.tdiv_eq_ediv_of_nonneg]) | skip)); rw [ringB_false]; intro h; have h1 := h.2.2.2.2.2.2 j (by omega); rw [← hsl] at h1; unfold slotOk at h1; omega)
      | (focus (refine body_ret [] [] rfl rfl ?_ ?_; all_goals (first | (with_reducible rfl) | (simp (implicitDefEqProofs := false) (dsimp := false) (disch := first | assumption | omega) only [go_sem, Int.reduceAdd, Int.reduceSub, Int.reduceMul, Int.reduceNeg, Int.reduceLT, Int.reduceLE, Int.reduceEq, Int.reduceNe, Int.reduceToNat, Int.reduceMod, Int.reduceDiv, Int.reducePow, Nat.reduceAdd, Nat.reduceSub, Nat.reduceMul, Nat.reduceLT, Nat.reduceLeDiff, Nat.reduceEqDiff, Nat.reduceMod, Nat.reduceDiv, Nat.reducePow, reduceCtorEq, ↓reduceIte, wrap_i64, wrap_u8, wrap_u32, wrap_u64, Int.tmod_eq_emod_of_nonneg, Int.tdiv_eq_ediv_of_nonneg]) | skip)); rw [ringB_true]; obtain rfl : j = xs.length := (by omega); exact ⟨by omega, by omega, by omega, by omega, by omega, by omega, hs⟩)
  all_goals focus (refine body_ret [] [] rfl rfl ?_ ?_; all_goals (first | (with_reducible rfl) | (simp (implicitDefEqProofs := false) (dsimp := false) (disch := first | assumption | omega) only [go_sem, Int.reduceAdd, Int.reduceSub, Int.reduceMul, Int.reduceNeg, Int.reduceLT, Int.reduceLE, Int.reduceEq, Int.reduceNe, Int.reduceToNat, Int.reduceMod, Int.reduceDiv, Int.reducePow, Nat.reduceAdd, Nat.reduceSub, Nat.reduceMul, Nat.reduceLT, Nat.reduceLeDiff, Nat.reduceEqDiff, Nat.reduceMod, Nat.reduceDiv, Nat.reducePow, reduceCtorEq, ↓reduceIte, wrap_i64, wrap_u8, wrap_u32, wrap_u64, Int.tmod_eq_emod_of_nonneg, Int.tdiv_eq_ediv_of_nonneg]) | skip))
  all_goals (rw [ringB_false]; unfold ringP; omega)


end SA
