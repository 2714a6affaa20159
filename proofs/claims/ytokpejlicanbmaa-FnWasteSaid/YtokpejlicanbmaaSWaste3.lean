import Derived.Test.YtokpejlicanbmaaSTy
import Derived.Test.YtokpejlicanbmaaSBasic
import Derived.Test.YtokpejlicanbmaaSCursor
import Derived.Test.YtokpejlicanbmaaSWaste
import Derived.Test.YtokpejlicanbmaaSWaste2
set_option linter.all false
set_option linter.unusedSimpArgs false
set_option linter.unusedVariables false
set_option maxRecDepth 100000
set_option maxHeartbeats 1000000
open Go Am TyA Go.Proofs
attribute [local irreducible] Beh Con
namespace SA

-- needs basic cursor waste waste2
theorem c_FnWaste (_b : Bool) (code : List Int) (hB : Bytes code) (hl : code.length ≤ 9223372036854775807) : Con Try.prog 4 [.bor true (code.map (cI .u8))] [] ((.v (.bool (true)))) [] := by
  refine con_of_body (C := cxOf Try.prog) cxOk [(2, none)] Try.func4 rfl rfl rfl ?_
  simp only [Try.ntmps4, List.length_cons, List.length_nil, Nat.reduceAdd, Nat.reduceSub, List.replicate, List.cons_append, List.nil_append, List.append_nil]
  repeat' (first
    | ((with_reducible refine nrm ?_); try simp (implicitDefEqProofs := false) (dsimp := false) (disch := first | assumption | omega) only [go_sem, Int.reduceAdd, Int.reduceSub, Int.reduceMul, Int.reduceNeg, Int.reduceLT, Int.reduceLE, Int.reduceEq, Int.reduceNe, Int.reduceToNat, Int.reduceMod, Int.reduceDiv, Int.reducePow, Nat.reduceAdd, Nat.reduceSub, Nat.reduceMul, Nat.reduceLT, Nat.reduceLeDiff, Nat.reduceEqDiff, Nat.reduceMod, Nat.reduceDiv, Nat.reducePow, reduceCtorEq, ↓reduceIte, wrap_i64, wrap_u8, wrap_u32, wrap_u64, Int.tmod_eq_emod_of_nonneg, Int.tdiv_eq_ediv_of_nonneg])
    | (with_reducible refine sem_seqK fun K => ?_)
    | (with_reducible refine kt_f _ ?_)
    | (with_reducible refine regionN cxOk ?_)
    | (with_reducible refine drawN cxOk 4 ?_)
    | (with_reducible refine retN ?_)
    | (with_reducible refine skipN ?_)
    | (with_reducible refine exitN ?_)
    | (with_reducible refine sem_block ?_)
    | (with_reducible refine condN ?_)
    | (with_reducible refine condD_true ?_)
    | (with_reducible refine condD_false ?_)
    | (with_reducible refine condNq (fun hc => ?_) ?_)
    | (with_reducible refine condPN (by simp only [go_sem]; rfl) (by simp only [go_sem]; rfl) (fun hc => ?_) (fun hc => ?_))
    | (with_reducible refine condNN (by simp only [go_sem]; rfl) (by simp only [go_sem]; rfl) (fun hc => ?_) (fun hc => ?_))
    | (with_reducible refine condBN (by simp only [go_sem]; rfl) (by simp only [go_sem]; rfl) (fun hc => ?_) (fun hc => ?_) <;> (try simp only [Bool.not_eq_eq_eq_not, Bool.not_true, Bool.not_false, Bool.and_eq_true, Bool.and_eq_false_imp, Bool.or_eq_true, Bool.or_eq_false_iff, decide_eq_true_eq, decide_eq_false_iff_not] at hc))
    | ((with_reducible refine chk_by ?_); decide +kernel)
    | (with_reducible apply callX (f := 22) [])
    | (with_reducible apply callRX (f := 22) [] [])
    | (with_reducible apply callN)
    | (with_reducible apply callRN [])
    | ((with_reducible refine nrmE ?_); (simp (implicitDefEqProofs := false) (dsimp := false) (disch := first | assumption | omega) only [go_sem, Int.reduceAdd, Int.reduceSub, Int.reduceMul, Int.reduceNeg, Int.reduceLT, Int.reduceLE, Int.reduceEq, Int.reduceNe, Int.reduceToNat, Int.reduceMod, Int.reduceDiv, Int.reducePow, Nat.reduceAdd, Nat.reduceSub, Nat.reduceMul, Nat.reduceLT, Nat.reduceLeDiff, Nat.reduceEqDiff, Nat.reduceMod, Nat.reduceDiv, Nat.reducePow, reduceCtorEq, ↓reduceIte, wrap_i64, wrap_u8, wrap_u32, wrap_u64, Int.tmod_eq_emod_of_nonneg, Int.tdiv_eq_ediv_of_nonneg]) <;> rfl)
    | apply c_big
    | apply x_DrawWaste
    | apply c_Waste
    | apply c_specWaste
    | apply c_pick
    | (with_reducible refine aft_intro ?_ (fun hc => ?_))
    | (with_reducible refine imp_intro' (fun hc => ?_))
    | (with_reducible refine And.intro ?_ ?_)
    | (with_reducible refine fun d ⟨ha, hc⟩ => ?_)
    | (with_reducible intro hc)
    | (with_reducible assumption)
    | omega
    | (with_reducible refine Int.emod_nonneg _ ?_)
    | (with_reducible refine Int.emod_lt_of_pos _ ?_))
  · focus (refine body_ret [] [] rfl rfl ?_ ?_; all_goals (first | (with_reducible rfl) | (simp (implicitDefEqProofs := false) (dsimp := false) (disch := first | assumption | omega) only [go_sem, Int.reduceAdd, Int.reduceSub, Int.reduceMul, Int.reduceNeg, Int.reduceLT, Int.reduceLE, Int.reduceEq, Int.reduceNe, Int.reduceToNat, Int.reduceMod, Int.reduceDiv, Int.reducePow, Nat.reduceAdd, Nat.reduceSub, Nat.reduceMul, Nat.reduceLT, Nat.reduceLeDiff, Nat.reduceEqDiff, Nat.reduceMod, Nat.reduceDiv, Nat.reducePow, reduceCtorEq, ↓reduceIte, wrap_i64, wrap_u8, wrap_u32, wrap_u64, Int.tmod_eq_emod_of_nonneg, Int.tdiv_eq_ediv_of_nonneg]) | skip))
  · focus (refine body_ret [] [] rfl rfl ?_ ?_; all_goals (first | (with_reducible rfl) | (simp (implicitDefEqProofs := false) (dsimp := false) (disch := first | assumption | omega) only [go_sem, Int.reduceAdd, Int.reduceSub, Int.reduceMul, Int.reduceNeg, Int.reduceLT, Int.reduceLE, Int.reduceEq, Int.reduceNe, Int.reduceToNat, Int.reduceMod, Int.reduceDiv, Int.reducePow, Nat.reduceAdd, Nat.reduceSub, Nat.reduceMul, Nat.reduceLT, Nat.reduceLeDiff, Nat.reduceEqDiff, Nat.reduceMod, Nat.reduceDiv, Nat.reducePow, reduceCtorEq, ↓reduceIte, wrap_i64, wrap_u8, wrap_u32, wrap_u64, Int.tmod_eq_emod_of_nonneg, Int.tdiv_eq_ediv_of_nonneg]) | skip))
  · rename_i xs hx _ _ _ _ _ _
    have hp3 := pickF_bd (code := code) (a := 3) (n := xs.length + 1) (by omega)
    obtain ⟨k, hk⟩ : ∃ k : Nat, (k : Int) = pickF code 3 (xs.length + 1) := ⟨(pickF code 3 (xs.length + 1)).toNat, by omega⟩
    simp only [← hk]
    have hl1 : xs.length ≤ 1000 := by
      by_cases h : 1000 < xs.length
      · exact absurd (by rw [waste, if_pos h]; omega) hc
      · omega
    have hg : ∀ a ∈ xs, wholeOf a ≠ 0 := wasteL_good xs 0 (by rw [waste, if_neg (by omega)] at hc; omega)
    have hw : waste xs = tot xs := waste_tot hl1 hg
    have hwb := tot_bd xs hg
    simp only [hw]
    refine sem_loopF (α := Nat) [] [0] [false, false, false, true, true, true, true, true, false, false, false, false, false, false, false, false, false, false, false, false, false, false, false, false, false, false, false, false, false, false, false, false, false, false, false, false, false, false, false, false, false, false, false, false, false, false, false, false, false, false, false, false, false, false, false, false, false, false, false, false, false, false, false, false, false, false, false, false, false, false, false, false, false, false] (fun i => i ≤ xs.length) (fun i S => ⟨(((((S.t).set 3 (.sl 0 0 xs.length)).set 4 ((.v (.int .i64 (tot xs))))).set 5 ((.v (.int .i64 (k))))).set 6 ((.v (.int .i64 (tot (xs.take i)))))).set 7 ((.v (.int .i64 (i)))), [some { es := xs.map (cI .i64), sz := 1, flat := true }]⟩) (fun i => xs.length - i) (0) rfl (by simp only [go_sem, Int.reduceAdd, Int.reduceSub, Int.reduceMul, Int.reduceNeg, Int.reduceLT, Int.reduceLE, Int.reduceEq, Int.reduceNe, Int.reduceToNat, Int.reduceMod, Int.reduceDiv, Int.reducePow, Nat.reduceAdd, Nat.reduceSub, Nat.reduceMul, Nat.reduceLT, Nat.reduceLeDiff, Nat.reduceEqDiff, Nat.reduceMod, Nat.reduceDiv, Nat.reducePow, reduceCtorEq, ↓reduceIte]; rfl) ?_ ?_ ?_
    · rfl
    · simp
    rintro i hI
    try simp only at hI
    simp only [go_sem, Int.reduceAdd, Int.reduceSub, Int.reduceMul, Int.reduceNeg, Int.reduceLT, Int.reduceLE, Int.reduceEq, Int.reduceNe, Int.reduceToNat, Int.reduceMod, Int.reduceDiv, Int.reducePow, Nat.reduceAdd, Nat.reduceSub, Nat.reduceMul, Nat.reduceLT, Nat.reduceLeDiff, Nat.reduceEqDiff, Nat.reduceMod, Nat.reduceDiv, Nat.reducePow, reduceCtorEq, ↓reduceIte]
    have hi := hI
    have hgt : ∀ j, ∀ a ∈ xs.take j, wholeOf a ≠ 0 := fun j a ha => hg a (List.mem_of_mem_take ha)
    have hgd : ∀ j, ∀ a ∈ xs.drop j, wholeOf a ≠ 0 := fun j a ha => hg a (List.mem_of_mem_drop ha)
    have hb1 := tot_bd _ (hgt i)
    have hl2 : (xs.take i).length ≤ i := by simp; omega
    have h1 : waste (xs.take k) = tot (xs.take k) := waste_tot (by simp; omega) (hgt k)
    have h2 : waste (xs.drop k) = tot (xs.drop k) := waste_tot (by simp; omega) (hgd k)
    have h3 : tot (xs.take k) + tot (xs.drop k) = tot xs := by rw [← tot_app, List.take_append_drop]
    have hb3 := tot_bd _ (hgt k)
    have hb4 := tot_bd _ (hgd k)
    have h5 : (xs.drop k).take (xs.length - k) = xs.drop k := List.take_of_length_le (by simp)
    have h6 : i < xs.length → waste ((xs.drop i).take (((i : Int) + 1).toNat - i)) = wholeOf (xs.getD i 0) - xs.getD i 0 := fun h => by
      rw [show (((i : Int) + 1).toNat - i) = 1 by omega, take_one xs i h, waste_tot (by simp) (by rw [← take_one xs i h]; exact fun a ha => hgd i a (List.mem_of_mem_take ha))]
      simp [tot]
    have h8 := whole_bound (xs.getD i 0)
    have h9 : i < xs.length → wholeOf (xs.getD i 0) ≠ 0 := fun h => hgd i _ (List.mem_of_mem_take (i := 1) (by rw [take_one xs i h]; simp))
    have h10 := take_add xs i
    by_cases hlt : i < xs.length
    · have h6 := h6 hlt
      have h9 := h9 hlt
      have h10 := h10 hlt
      repeat' (first
        | ((with_reducible refine nrm ?_); try simp (implicitDefEqProofs := false) (dsimp := false) (disch := first | assumption | omega) only [go_sem, Int.reduceAdd, Int.reduceSub, Int.reduceMul, Int.reduceNeg, Int.reduceLT, Int.reduceLE, Int.reduceEq, Int.reduceNe, Int.reduceToNat, Int.reduceMod, Int.reduceDiv, Int.reducePow, Nat.reduceAdd, Nat.reduceSub, Nat.reduceMul, Nat.reduceLT, Nat.reduceLeDiff, Nat.reduceEqDiff, Nat.reduceMod, Nat.reduceDiv, Nat.reducePow, reduceCtorEq, ↓reduceIte, wrap_i64, wrap_u8, wrap_u32, wrap_u64, Int.tmod_eq_emod_of_nonneg, Int.tdiv_eq_ediv_of_nonneg, h6])
        | (with_reducible refine sem_seqK fun K => ?_)
        | (with_reducible refine kt_f _ ?_)
        | (with_reducible refine regionN cxOk ?_)
        | (with_reducible refine drawN cxOk 4 ?_)
        | (with_reducible refine retN ?_)
        | (with_reducible refine skipN ?_)
        | (with_reducible refine exitN ?_)
        | (with_reducible refine sem_block ?_)
        | (with_reducible refine condN ?_)
        | (with_reducible refine condD_true ?_)
        | (with_reducible refine condD_false ?_)
        | (with_reducible refine condNq (fun hc => ?_) ?_)
        | (with_reducible refine condPN (by simp only [go_sem]; rfl) (by simp only [go_sem]; rfl) (fun hc => ?_) (fun hc => ?_))
        | (with_reducible refine condNN (by simp only [go_sem]; rfl) (by simp only [go_sem]; rfl) (fun hc => ?_) (fun hc => ?_))
        | (with_reducible refine condBN (by simp only [go_sem]; rfl) (by simp only [go_sem]; rfl) (fun hc => ?_) (fun hc => ?_) <;> (try simp only [Bool.not_eq_eq_eq_not, Bool.not_true, Bool.not_false, Bool.and_eq_true, Bool.and_eq_false_imp, Bool.or_eq_true, Bool.or_eq_false_iff, decide_eq_true_eq, decide_eq_false_iff_not] at hc))
        | ((with_reducible refine chk_by ?_); decide +kernel)
        | (with_reducible apply callN)
        | (with_reducible apply callRN [])
        | ((with_reducible refine nrmE ?_); (simp (implicitDefEqProofs := false) (dsimp := false) (disch := first | assumption | omega) only [go_sem, Int.reduceAdd, Int.reduceSub, Int.reduceMul, Int.reduceNeg, Int.reduceLT, Int.reduceLE, Int.reduceEq, Int.reduceNe, Int.reduceToNat, Int.reduceMod, Int.reduceDiv, Int.reducePow, Nat.reduceAdd, Nat.reduceSub, Nat.reduceMul, Nat.reduceLT, Nat.reduceLeDiff, Nat.reduceEqDiff, Nat.reduceMod, Nat.reduceDiv, Nat.reducePow, reduceCtorEq, ↓reduceIte, wrap_i64, wrap_u8, wrap_u32, wrap_u64, Int.tmod_eq_emod_of_nonneg, Int.tdiv_eq_ediv_of_nonneg, h6]) <;> rfl)
        | apply c_Waste
        | (with_reducible refine aft_intro ?_ (fun hc => ?_))
        | (with_reducible refine imp_intro' (fun hc => ?_))
        | (with_reducible refine And.intro ?_ ?_)
        | (with_reducible refine fun d ⟨ha, hc⟩ => ?_)
        | (with_reducible intro hc)
        | (with_reducible assumption)
        | omega
        | (with_reducible refine Int.emod_nonneg _ ?_)
        | (with_reducible refine Int.emod_lt_of_pos _ ?_))
      · simp; omega
      all_goals first | (exfalso; omega) | skip
      focus (refine loop_next (i + 1) [] [0] [false, false, false, true, true, true, true, true, false, false, false, false, false, false, false, false, false, false, false, false, false, false, false, false, false, false, false, false, false, false, false, false, false, false, false, false, false, false, false, false, false, false, false, false, false, false, false, false, false, false, false, false, false, false, false, false, false, false, false, false, false, false, false, false, false, false, false, false, false, false, false, false, false, false] rfl ?_ ?_ ?_; (try (first | rfl | (simp (implicitDefEqProofs := false) (dsimp := false) only [go_sem, Int.reduceAdd, Int.reduceSub, Int.reduceMul, Int.reduceNeg, Int.reduceLT, Int.reduceLE, Int.reduceEq, Int.reduceNe, Int.reduceToNat, Int.reduceMod, Int.reduceDiv, Int.reducePow, Nat.reduceAdd, Nat.reduceSub, Nat.reduceMul, Nat.reduceLT, Nat.reduceLeDiff, Nat.reduceEqDiff, Nat.reduceMod, Nat.reduceDiv, Nat.reducePow, reduceCtorEq, ↓reduceIte, St.mk.injEq, List.cons.injEq, AV.v.injEq, Value.int.injEq, AV.sl.injEq, Option.some.injEq, Ob.mk.injEq, true_and, and_true, Int.natCast_add, Int.cast_ofNat_Int, h10]; omega) | (simp (implicitDefEqProofs := false) (dsimp := false) only [go_sem, Int.reduceAdd, Int.reduceSub, Int.reduceMul, Int.reduceNeg, Int.reduceLT, Int.reduceLE, Int.reduceEq, Int.reduceNe, Int.reduceToNat, Int.reduceMod, Int.reduceDiv, Int.reducePow, Nat.reduceAdd, Nat.reduceSub, Nat.reduceMul, Nat.reduceLT, Nat.reduceLeDiff, Nat.reduceEqDiff, Nat.reduceMod, Nat.reduceDiv, Nat.reducePow, reduceCtorEq, ↓reduceIte, St.mk.injEq, List.cons.injEq, AV.v.injEq, Value.int.injEq, AV.sl.injEq, Option.some.injEq, Ob.mk.injEq, true_and, and_true, Int.natCast_add, Int.cast_ofNat_Int, h10]; done) | (simp (implicitDefEqProofs := false) (dsimp := false) only [go_sem, Int.reduceAdd, Int.reduceSub, Int.reduceMul, Int.reduceNeg, Int.reduceLT, Int.reduceLE, Int.reduceEq, Int.reduceNe, Int.reduceToNat, Int.reduceMod, Int.reduceDiv, Int.reducePow, Nat.reduceAdd, Nat.reduceSub, Nat.reduceMul, Nat.reduceLT, Nat.reduceLeDiff, Nat.reduceEqDiff, Nat.reduceMod, Nat.reduceDiv, Nat.reducePow, reduceCtorEq, ↓reduceIte, St.mk.injEq, List.cons.injEq, AV.v.injEq, Value.int.injEq, AV.sl.injEq, Option.some.injEq, Ob.mk.injEq, true_and, and_true, Int.natCast_add, Int.cast_ofNat_Int, h10]))); all_goals try (first | omega | (simp only; omega)); all_goals (try dsimp only))
    · obtain rfl : i = xs.length := by omega
      simp only [List.take_length]
      have h1 : waste (xs.take (k - 0)) = tot (xs.take k) := h1
      have hd : decide (tot (xs.take k) + tot (xs.drop k) = tot xs) = true := by simp [h3]
      repeat' (first
        | ((with_reducible refine nrm ?_); try simp (implicitDefEqProofs := false) (dsimp := false) (disch := first | assumption | omega) only [go_sem, Int.reduceAdd, Int.reduceSub, Int.reduceMul, Int.reduceNeg, Int.reduceLT, Int.reduceLE, Int.reduceEq, Int.reduceNe, Int.reduceToNat, Int.reduceMod, Int.reduceDiv, Int.reducePow, Nat.reduceAdd, Nat.reduceSub, Nat.reduceMul, Nat.reduceLT, Nat.reduceLeDiff, Nat.reduceEqDiff, Nat.reduceMod, Nat.reduceDiv, Nat.reducePow, reduceCtorEq, ↓reduceIte, wrap_i64, wrap_u8, wrap_u32, wrap_u64, Int.tmod_eq_emod_of_nonneg, Int.tdiv_eq_ediv_of_nonneg, h1, h2, h3, h5, hd])
        | (with_reducible refine sem_seqK fun K => ?_)
        | (with_reducible refine kt_f _ ?_)
        | (with_reducible refine regionN cxOk ?_)
        | (with_reducible refine drawN cxOk 4 ?_)
        | (with_reducible refine retN ?_)
        | (with_reducible refine skipN ?_)
        | (with_reducible refine exitN ?_)
        | (with_reducible refine sem_block ?_)
        | (with_reducible refine condN ?_)
        | (with_reducible refine condD_true ?_)
        | (with_reducible refine condD_false ?_)
        | (with_reducible refine condNq (fun hc => ?_) ?_)
        | (with_reducible refine condPN (by simp only [go_sem]; rfl) (by simp only [go_sem]; rfl) (fun hc => ?_) (fun hc => ?_))
        | (with_reducible refine condNN (by simp only [go_sem]; rfl) (by simp only [go_sem]; rfl) (fun hc => ?_) (fun hc => ?_))
        | (with_reducible refine condBN (by simp only [go_sem]; rfl) (by simp only [go_sem]; rfl) (fun hc => ?_) (fun hc => ?_) <;> (try simp only [Bool.not_eq_eq_eq_not, Bool.not_true, Bool.not_false, Bool.and_eq_true, Bool.and_eq_false_imp, Bool.or_eq_true, Bool.or_eq_false_iff, decide_eq_true_eq, decide_eq_false_iff_not] at hc))
        | ((with_reducible refine chk_by ?_); decide +kernel)
        | (with_reducible apply callRN (f := 23) [0])
        | (with_reducible apply callN)
        | (with_reducible apply callRN [])
        | ((with_reducible refine nrmE ?_); (simp (implicitDefEqProofs := false) (dsimp := false) (disch := first | assumption | omega) only [go_sem, Int.reduceAdd, Int.reduceSub, Int.reduceMul, Int.reduceNeg, Int.reduceLT, Int.reduceLE, Int.reduceEq, Int.reduceNe, Int.reduceToNat, Int.reduceMod, Int.reduceDiv, Int.reducePow, Nat.reduceAdd, Nat.reduceSub, Nat.reduceMul, Nat.reduceLT, Nat.reduceLeDiff, Nat.reduceEqDiff, Nat.reduceMod, Nat.reduceDiv, Nat.reducePow, reduceCtorEq, ↓reduceIte, wrap_i64, wrap_u8, wrap_u32, wrap_u64, Int.tmod_eq_emod_of_nonneg, Int.tdiv_eq_ediv_of_nonneg, h1, h2, h3, h5, hd]) <;> rfl)
        | apply c_Waste
        | (with_reducible refine aft_intro ?_ (fun hc => ?_))
        | (with_reducible refine imp_intro' (fun hc => ?_))
        | (with_reducible refine And.intro ?_ ?_)
        | (with_reducible refine fun d ⟨ha, hc⟩ => ?_)
        | (with_reducible intro hc)
        | (with_reducible assumption)
        | omega
        | (with_reducible refine Int.emod_nonneg _ ?_)
        | (with_reducible refine Int.emod_lt_of_pos _ ?_))
      · simp; omega
      · simp; omega
      focus (refine body_ret [] [] rfl rfl ?_ ?_; all_goals (first | (with_reducible rfl) | (simp (implicitDefEqProofs := false) (dsimp := false) (disch := first | assumption | omega) only [go_sem, Int.reduceAdd, Int.reduceSub, Int.reduceMul, Int.reduceNeg, Int.reduceLT, Int.reduceLE, Int.reduceEq, Int.reduceNe, Int.reduceToNat, Int.reduceMod, Int.reduceDiv, Int.reducePow, Nat.reduceAdd, Nat.reduceSub, Nat.reduceMul, Nat.reduceLT, Nat.reduceLeDiff, Nat.reduceEqDiff, Nat.reduceMod, Nat.reduceDiv, Nat.reducePow, reduceCtorEq, ↓reduceIte, wrap_i64, wrap_u8, wrap_u32, wrap_u64, Int.tmod_eq_emod_of_nonneg, Int.tdiv_eq_ediv_of_nonneg]) | skip))


end SA
