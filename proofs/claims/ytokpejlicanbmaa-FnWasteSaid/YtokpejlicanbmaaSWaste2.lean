import Derived.Test.YtokpejlicanbmaaSTy
import Derived.Test.YtokpejlicanbmaaSBasic
import Derived.Test.YtokpejlicanbmaaSCursor
import Derived.Test.YtokpejlicanbmaaSWaste
set_option linter.all false
set_option linter.unusedSimpArgs false
set_option linter.unusedVariables false
set_option maxRecDepth 100000
set_option maxHeartbeats 1000000
open Go Am TyA Go.Proofs
attribute [local irreducible] Beh Con
namespace SA

-- needs basic cursor waste
theorem lit3 {x : Int} {j : Nat} (h : j < 3) : ∃ y : Int, (([[.v (.int .i64 x)], [.v (.int .i64 0)], [.v (.int .i64 257)]] : List (List AV)).getD j []).getD 0 AV.u = .v (.int .i64 y) := by
  obtain rfl | rfl | rfl : j = 0 ∨ j = 1 ∨ j = 2 := by omega
  · exact ⟨x, rfl⟩
  · exact ⟨0, rfl⟩
  · exact ⟨257, rfl⟩

theorem x_DrawWaste (code : List Int) (hB : Bytes code) (hl : code.length ≤ 1048576) :
    ∃ a : List Int, a.length ≤ 1001 ∧ Con Try.prog 22 [.bor true (code.map (cI .u8))] [] (.sl 0 0 a.length) [some { es := a.map (cI .i64), sz := 1, flat := true }] := by
  refine ex_of_body (C := cxOf Try.prog) cxOk [(2, none)] Try.func22 rfl rfl rfl ?_
  simp only [Try.ntmps22, List.length_cons, List.length_nil, Nat.reduceAdd, Nat.reduceSub, List.replicate, List.cons_append, List.nil_append, List.append_nil]
  have hk := copen_ok hB hl
  repeat' (first
    | ((with_reducible refine nrm ?_); try simp (implicitDefEqProofs := false) (dsimp := false) (disch := first | assumption | omega) only [go_sem, Int.reduceAdd, Int.reduceSub, Int.reduceMul, Int.reduceNeg, Int.reduceLT, Int.reduceLE, Int.reduceEq, Int.reduceNe, Int.reduceToNat, Int.reduceMod, Int.reduceDiv, Int.reducePow, Nat.reduceAdd, Nat.reduceSub, Nat.reduceMul, Nat.reduceLT, Nat.reduceLeDiff, Nat.reduceEqDiff, Nat.reduceMod, Nat.reduceDiv, Nat.reducePow, reduceCtorEq, ↓reduceIte, wrap_i64, wrap_u8, wrap_u32, wrap_u64, Int.tmod_eq_emod_of_nonneg, Int.tdiv_eq_ediv_of_nonneg])
    | (with_reducible refine seqE fun K => ?_)
    | (with_reducible refine kt_e _ ?_)
    | (with_reducible refine regionE cxOk ?_)
    | (with_reducible refine drawE cxOk 4 ?_)
    | (with_reducible refine retE ?_)
    | (with_reducible refine skipE ?_)
    | (with_reducible refine exitE ?_)
    | (with_reducible refine blockE ?_)
    | (with_reducible refine condE ?_)
    | (with_reducible refine condE_true (by simp only [go_sem]; rfl) ?_)
    | (with_reducible refine condE_false (by simp only [go_sem]; rfl) ?_)
    | (with_reducible refine condE_p (by simp only [go_sem]; rfl) (by simp only [go_sem]; rfl) (fun hc => ?_) (fun hc => ?_))
    | (with_reducible refine condE_n (by simp only [go_sem]; rfl) (by simp only [go_sem]; rfl) (fun hc => ?_) (fun hc => ?_))
    | (with_reducible refine condE_b (by simp only [go_sem]; rfl) (by simp only [go_sem]; rfl) (fun hc => ?_) (fun hc => ?_) <;> (try simp only [Bool.not_eq_eq_eq_not, Bool.not_true, Bool.not_false, Bool.and_eq_true, Bool.and_eq_false_imp, Bool.or_eq_true, Bool.or_eq_false_iff, decide_eq_true_eq, decide_eq_false_iff_not] at hc))
    | ((with_reducible refine chk_by ?_); decide +kernel)
    | (with_reducible apply callX (f := 69) [0])
    | (with_reducible apply callRX (f := 69) [0] [0])
    | (with_reducible apply callN)
    | (with_reducible apply callRN [])
    | ((with_reducible refine nrmE ?_); (simp (implicitDefEqProofs := false) (dsimp := false) (disch := first | assumption | omega) only [go_sem, Int.reduceAdd, Int.reduceSub, Int.reduceMul, Int.reduceNeg, Int.reduceLT, Int.reduceLE, Int.reduceEq, Int.reduceNe, Int.reduceToNat, Int.reduceMod, Int.reduceDiv, Int.reducePow, Nat.reduceAdd, Nat.reduceSub, Nat.reduceMul, Nat.reduceLT, Nat.reduceLeDiff, Nat.reduceEqDiff, Nat.reduceMod, Nat.reduceDiv, Nat.reducePow, reduceCtorEq, ↓reduceIte, wrap_i64, wrap_u8, wrap_u32, wrap_u64, Int.tmod_eq_emod_of_nonneg, Int.tdiv_eq_ediv_of_nonneg]) <;> rfl)
    | apply c_copen
    | apply x_csize
    | (with_reducible refine aft_intro ?_ (fun hc => ?_))
    | (with_reducible refine imp_intro' (fun hc => ?_))
    | (with_reducible refine And.intro ?_ ?_)
    | (with_reducible refine fun d ⟨ha, hc⟩ => ?_)
    | (with_reducible intro hc)
    | (with_reducible assumption)
    | omega
    | (with_reducible refine Int.emod_nonneg _ ?_)
    | (with_reducible refine Int.emod_lt_of_pos _ ?_))
  obtain ⟨k0, pos, seed⟩ := d
  simp only at ha hc
  obtain ⟨k, rfl⟩ : ∃ k : Nat, k0 = k := ⟨k0.toNat, by omega⟩
  refine loopE (α := Nat × Int × Int × List Int) [(.slot 4, .virt 1 true)] [0, 1] [false, false, false, true, true, true, false, false, false, false, false, false, false, false, false, false, false, false, false, false, false, false, false, false, false, false, false, false, false, false, false, false, false, false, false, false, false, false, false, false, false, false, false, false, false, false, false, false, false, false, false, false, false, false, false] (fun (j, p, sd, out) => CuOk code p sd ∧ p + j ≤ 20 ∧ out.length + j ≤ 12) (fun (j, p, sd, out) S => ⟨((S.t).set 4 (.sl 1 0 out.length)).set 5 ((.v (.int .i64 (j)))), [some { es := [[.bor true (code.map (cI .u8)), (.v (.int .i64 (p))), (.v (.int .i64 (sd)))]], sz := 3, flat := false }, some { es := out.map (cI .i64), sz := 1, flat := true }]⟩) (fun (j, p, sd, out) => j) (k, pos, seed, []) rfl (by simp only [go_sem, Int.reduceAdd, Int.reduceSub, Int.reduceMul, Int.reduceNeg, Int.reduceLT, Int.reduceLE, Int.reduceEq, Int.reduceNe, Int.reduceToNat, Int.reduceMod, Int.reduceDiv, Int.reducePow, Nat.reduceAdd, Nat.reduceSub, Nat.reduceMul, Nat.reduceLT, Nat.reduceLeDiff, Nat.reduceEqDiff, Nat.reduceMod, Nat.reduceDiv, Nat.reducePow, reduceCtorEq, ↓reduceIte]; rfl) ?_ ?_ ?_
  · rfl
  · exact ⟨ha, by omega, by simp; omega⟩
  rintro ⟨j, p, sd, out⟩ hI
  try simp only at hI
  simp only [go_sem, Int.reduceAdd, Int.reduceSub, Int.reduceMul, Int.reduceNeg, Int.reduceLT, Int.reduceLE, Int.reduceEq, Int.reduceNe, Int.reduceToNat, Int.reduceMod, Int.reduceDiv, Int.reducePow, Nat.reduceAdd, Nat.reduceSub, Nat.reduceMul, Nat.reduceLT, Nat.reduceLeDiff, Nat.reduceEqDiff, Nat.reduceMod, Nat.reduceDiv, Nat.reducePow, reduceCtorEq, ↓reduceIte]
  obtain ⟨hk', hp, ho⟩ := hI
  repeat' (first
    | ((with_reducible refine nrm ?_); try simp (implicitDefEqProofs := false) (dsimp := false) (disch := first | assumption | omega) only [go_sem, Int.reduceAdd, Int.reduceSub, Int.reduceMul, Int.reduceNeg, Int.reduceLT, Int.reduceLE, Int.reduceEq, Int.reduceNe, Int.reduceToNat, Int.reduceMod, Int.reduceDiv, Int.reducePow, Nat.reduceAdd, Nat.reduceSub, Nat.reduceMul, Nat.reduceLT, Nat.reduceLeDiff, Nat.reduceEqDiff, Nat.reduceMod, Nat.reduceDiv, Nat.reducePow, reduceCtorEq, ↓reduceIte, wrap_i64, wrap_u8, wrap_u32, wrap_u64, Int.tmod_eq_emod_of_nonneg, Int.tdiv_eq_ediv_of_nonneg])
    | (with_reducible refine seqE fun K => ?_)
    | (with_reducible refine kt_e _ ?_)
    | (with_reducible refine regionE cxOk ?_)
    | (with_reducible refine drawE cxOk 4 ?_)
    | (with_reducible refine retE ?_)
    | (with_reducible refine skipE ?_)
    | (with_reducible refine exitE ?_)
    | (with_reducible refine blockE ?_)
    | (with_reducible refine condE ?_)
    | (with_reducible refine condE_true (by simp only [go_sem]; rfl) ?_)
    | (with_reducible refine condE_false (by simp only [go_sem]; rfl) ?_)
    | (with_reducible refine condE_p (by simp only [go_sem]; rfl) (by simp only [go_sem]; rfl) (fun hc => ?_) (fun hc => ?_))
    | (with_reducible refine condE_n (by simp only [go_sem]; rfl) (by simp only [go_sem]; rfl) (fun hc => ?_) (fun hc => ?_))
    | (with_reducible refine condE_b (by simp only [go_sem]; rfl) (by simp only [go_sem]; rfl) (fun hc => ?_) (fun hc => ?_) <;> (try simp only [Bool.not_eq_eq_eq_not, Bool.not_true, Bool.not_false, Bool.and_eq_true, Bool.and_eq_false_imp, Bool.or_eq_true, Bool.or_eq_false_iff, decide_eq_true_eq, decide_eq_false_iff_not] at hc))
    | ((with_reducible refine chk_by ?_); decide +kernel)
    | (with_reducible apply callX (f := 70) [0])
    | (with_reducible apply callRX (f := 70) [0] [0])
    | (with_reducible apply callX (f := 71) [0])
    | (with_reducible apply callRX (f := 71) [0] [0])
    | (with_reducible apply callN)
    | (with_reducible apply callRN [])
    | ((with_reducible refine nrmE ?_); (simp (implicitDefEqProofs := false) (dsimp := false) (disch := first | assumption | omega) only [go_sem, Int.reduceAdd, Int.reduceSub, Int.reduceMul, Int.reduceNeg, Int.reduceLT, Int.reduceLE, Int.reduceEq, Int.reduceNe, Int.reduceToNat, Int.reduceMod, Int.reduceDiv, Int.reducePow, Nat.reduceAdd, Nat.reduceSub, Nat.reduceMul, Nat.reduceLT, Nat.reduceLeDiff, Nat.reduceEqDiff, Nat.reduceMod, Nat.reduceDiv, Nat.reducePow, reduceCtorEq, ↓reduceIte, wrap_i64, wrap_u8, wrap_u32, wrap_u64, Int.tmod_eq_emod_of_nonneg, Int.tdiv_eq_ediv_of_nonneg]) <;> rfl)
    | apply x_cpick
    | apply x_craw
    | (with_reducible refine aft_intro ?_ (fun hc => ?_))
    | (with_reducible refine imp_intro' (fun hc => ?_))
    | (with_reducible refine And.intro ?_ ?_)
    | (with_reducible refine fun d ⟨ha, hc⟩ => ?_)
    | (with_reducible intro hc)
    | (with_reducible assumption)
    | omega
    | (with_reducible refine Int.emod_nonneg _ ?_)
    | (with_reducible refine Int.emod_lt_of_pos _ ?_))
  · focus (refine loop_next ((j - 1 : Nat), d.2.1, d.2.2, out ++ [1 + d.1]) [] [0, 3] [false, false, false, true, true, true, false, false, false, false, false, false, false, false, false, false, false, false, false, false, false, false, false, false, false, false, false, false, false, false, false, false, false, false, false, false, false, false, false, false, false, false, false, false, false, false, false, false, false, false, false, false, false, false, false] rfl ?_ ?_ ?_; (try (first | rfl | (simp (implicitDefEqProofs := false) (dsimp := false) only [go_sem, Int.reduceAdd, Int.reduceSub, Int.reduceMul, Int.reduceNeg, Int.reduceLT, Int.reduceLE, Int.reduceEq, Int.reduceNe, Int.reduceToNat, Int.reduceMod, Int.reduceDiv, Int.reducePow, Nat.reduceAdd, Nat.reduceSub, Nat.reduceMul, Nat.reduceLT, Nat.reduceLeDiff, Nat.reduceEqDiff, Nat.reduceMod, Nat.reduceDiv, Nat.reducePow, reduceCtorEq, ↓reduceIte, St.mk.injEq, List.cons.injEq, AV.v.injEq, Value.int.injEq, AV.sl.injEq, Option.some.injEq, Ob.mk.injEq, true_and, and_true, Int.natCast_add, Int.cast_ofNat_Int]; omega) | (simp (implicitDefEqProofs := false) (dsimp := false) only [go_sem, Int.reduceAdd, Int.reduceSub, Int.reduceMul, Int.reduceNeg, Int.reduceLT, Int.reduceLE, Int.reduceEq, Int.reduceNe, Int.reduceToNat, Int.reduceMod, Int.reduceDiv, Int.reducePow, Nat.reduceAdd, Nat.reduceSub, Nat.reduceMul, Nat.reduceLT, Nat.reduceLeDiff, Nat.reduceEqDiff, Nat.reduceMod, Nat.reduceDiv, Nat.reducePow, reduceCtorEq, ↓reduceIte, St.mk.injEq, List.cons.injEq, AV.v.injEq, Value.int.injEq, AV.sl.injEq, Option.some.injEq, Ob.mk.injEq, true_and, and_true, Int.natCast_add, Int.cast_ofNat_Int]; done) | (simp (implicitDefEqProofs := false) (dsimp := false) only [go_sem, Int.reduceAdd, Int.reduceSub, Int.reduceMul, Int.reduceNeg, Int.reduceLT, Int.reduceLE, Int.reduceEq, Int.reduceNe, Int.reduceToNat, Int.reduceMod, Int.reduceDiv, Int.reducePow, Nat.reduceAdd, Nat.reduceSub, Nat.reduceMul, Nat.reduceLT, Nat.reduceLeDiff, Nat.reduceEqDiff, Nat.reduceMod, Nat.reduceDiv, Nat.reducePow, reduceCtorEq, ↓reduceIte, St.mk.injEq, List.cons.injEq, AV.v.injEq, Value.int.injEq, AV.sl.injEq, Option.some.injEq, Ob.mk.injEq, true_and, and_true, Int.natCast_add, Int.cast_ofNat_Int]))); all_goals try (first | omega | (simp only; omega)); all_goals (try dsimp only))
    dsimp only
    exact ⟨ha, by omega, by simp; omega⟩
  · rename_i d1 _ _ _ _ _ _ _
    obtain ⟨y, hy⟩ := lit3 (x := d1.1) (j := d.1.toNat) (by omega)
    rw [hy]
    dsimp only
    change Nrm _
    repeat' (first
      | ((with_reducible refine nrm ?_); try simp (implicitDefEqProofs := false) (dsimp := false) (disch := first | assumption | omega) only [go_sem, Int.reduceAdd, Int.reduceSub, Int.reduceMul, Int.reduceNeg, Int.reduceLT, Int.reduceLE, Int.reduceEq, Int.reduceNe, Int.reduceToNat, Int.reduceMod, Int.reduceDiv, Int.reducePow, Nat.reduceAdd, Nat.reduceSub, Nat.reduceMul, Nat.reduceLT, Nat.reduceLeDiff, Nat.reduceEqDiff, Nat.reduceMod, Nat.reduceDiv, Nat.reducePow, reduceCtorEq, ↓reduceIte, wrap_i64, wrap_u8, wrap_u32, wrap_u64, Int.tmod_eq_emod_of_nonneg, Int.tdiv_eq_ediv_of_nonneg])
      | (with_reducible refine seqE fun K => ?_)
      | (with_reducible refine kt_e _ ?_)
      | (with_reducible refine regionE cxOk ?_)
      | (with_reducible refine drawE cxOk 4 ?_)
      | (with_reducible refine retE ?_)
      | (with_reducible refine skipE ?_)
      | (with_reducible refine exitE ?_)
      | (with_reducible refine blockE ?_)
      | (with_reducible refine condE ?_)
      | (with_reducible refine condE_true (by simp only [go_sem]; rfl) ?_)
      | (with_reducible refine condE_false (by simp only [go_sem]; rfl) ?_)
      | (with_reducible refine condE_p (by simp only [go_sem]; rfl) (by simp only [go_sem]; rfl) (fun hc => ?_) (fun hc => ?_))
      | (with_reducible refine condE_n (by simp only [go_sem]; rfl) (by simp only [go_sem]; rfl) (fun hc => ?_) (fun hc => ?_))
      | (with_reducible refine condE_b (by simp only [go_sem]; rfl) (by simp only [go_sem]; rfl) (fun hc => ?_) (fun hc => ?_) <;> (try simp only [Bool.not_eq_eq_eq_not, Bool.not_true, Bool.not_false, Bool.and_eq_true, Bool.and_eq_false_imp, Bool.or_eq_true, Bool.or_eq_false_iff, decide_eq_true_eq, decide_eq_false_iff_not] at hc))
      | ((with_reducible refine chk_by ?_); decide +kernel)
      | (with_reducible refine aft_intro ?_ (fun hc => ?_))
      | (with_reducible refine imp_intro' (fun hc => ?_))
      | (with_reducible refine And.intro ?_ ?_)
      | (with_reducible refine fun d ⟨ha, hc⟩ => ?_)
      | (with_reducible intro hc)
      | (with_reducible assumption)
      | omega
      | (with_reducible refine Int.emod_nonneg _ ?_)
      | (with_reducible refine Int.emod_lt_of_pos _ ?_))
    focus (refine bodyE_ret (out ++ [y]) [] [4] rfl rfl ?_ ?_ ?_; all_goals (first | (with_reducible rfl) | (simp (implicitDefEqProofs := false) (dsimp := false) (disch := first | assumption | omega) only [go_sem, Int.reduceAdd, Int.reduceSub, Int.reduceMul, Int.reduceNeg, Int.reduceLT, Int.reduceLE, Int.reduceEq, Int.reduceNe, Int.reduceToNat, Int.reduceMod, Int.reduceDiv, Int.reducePow, Nat.reduceAdd, Nat.reduceSub, Nat.reduceMul, Nat.reduceLT, Nat.reduceLeDiff, Nat.reduceEqDiff, Nat.reduceMod, Nat.reduceDiv, Nat.reducePow, reduceCtorEq, ↓reduceIte, wrap_i64, wrap_u8, wrap_u32, wrap_u64, Int.tmod_eq_emod_of_nonneg, Int.tdiv_eq_ediv_of_nonneg]) | skip))
    omega
  · obtain ⟨n, hn⟩ : ∃ n : Nat, 1000 + d.1 = n := ⟨(1000 + d.1).toNat, by omega⟩
    simp only [hn, Int.toNat_natCast]
    refine loopE (α := Nat × List Int) [] [2] [false, false, false, false, true, false, false, false, false, false, false, false, false, false, false, false, false, false, false, false, false, false, false, false, false, false, false, false, false, false, false, false, false, false, false, false, false, false, false, false, false, false, false, true, true, false, false, false, false, false, false, false, false, false, false] (fun (i, xs) => xs.length = n ∧ i ≤ n) (fun (i, xs) S => ⟨(((S.t).set 4 (.sl 0 0 n)).set 43 ((.v (.int .i64 (n))))).set 44 ((.v (.int .i64 (i)))), [some { es := xs.map (cI .i64), sz := 1, flat := true }]⟩) (fun (i, xs) => n - i) (0, List.replicate n 0) rfl (by simp only [go_sem, Int.reduceAdd, Int.reduceSub, Int.reduceMul, Int.reduceNeg, Int.reduceLT, Int.reduceLE, Int.reduceEq, Int.reduceNe, Int.reduceToNat, Int.reduceMod, Int.reduceDiv, Int.reducePow, Nat.reduceAdd, Nat.reduceSub, Nat.reduceMul, Nat.reduceLT, Nat.reduceLeDiff, Nat.reduceEqDiff, Nat.reduceMod, Nat.reduceDiv, Nat.reducePow, reduceCtorEq, ↓reduceIte]; rfl) ?_ ?_ ?_
    · rfl
    · simp
    rintro ⟨i, xs⟩ hI
    try simp only at hI
    simp only [go_sem, Int.reduceAdd, Int.reduceSub, Int.reduceMul, Int.reduceNeg, Int.reduceLT, Int.reduceLE, Int.reduceEq, Int.reduceNe, Int.reduceToNat, Int.reduceMod, Int.reduceDiv, Int.reducePow, Nat.reduceAdd, Nat.reduceSub, Nat.reduceMul, Nat.reduceLT, Nat.reduceLeDiff, Nat.reduceEqDiff, Nat.reduceMod, Nat.reduceDiv, Nat.reducePow, reduceCtorEq, ↓reduceIte]
    obtain ⟨hx, hi⟩ := hI
    repeat' (first
      | ((with_reducible refine nrm ?_); try simp (implicitDefEqProofs := false) (dsimp := false) (disch := first | assumption | omega) only [go_sem, Int.reduceAdd, Int.reduceSub, Int.reduceMul, Int.reduceNeg, Int.reduceLT, Int.reduceLE, Int.reduceEq, Int.reduceNe, Int.reduceToNat, Int.reduceMod, Int.reduceDiv, Int.reducePow, Nat.reduceAdd, Nat.reduceSub, Nat.reduceMul, Nat.reduceLT, Nat.reduceLeDiff, Nat.reduceEqDiff, Nat.reduceMod, Nat.reduceDiv, Nat.reducePow, reduceCtorEq, ↓reduceIte, wrap_i64, wrap_u8, wrap_u32, wrap_u64, Int.tmod_eq_emod_of_nonneg, Int.tdiv_eq_ediv_of_nonneg])
      | (with_reducible refine seqE fun K => ?_)
      | (with_reducible refine kt_e _ ?_)
      | (with_reducible refine regionE cxOk ?_)
      | (with_reducible refine drawE cxOk 4 ?_)
      | (with_reducible refine retE ?_)
      | (with_reducible refine skipE ?_)
      | (with_reducible refine exitE ?_)
      | (with_reducible refine blockE ?_)
      | (with_reducible refine condE ?_)
      | (with_reducible refine condE_true (by simp only [go_sem]; rfl) ?_)
      | (with_reducible refine condE_false (by simp only [go_sem]; rfl) ?_)
      | (with_reducible refine condE_p (by simp only [go_sem]; rfl) (by simp only [go_sem]; rfl) (fun hc => ?_) (fun hc => ?_))
      | (with_reducible refine condE_n (by simp only [go_sem]; rfl) (by simp only [go_sem]; rfl) (fun hc => ?_) (fun hc => ?_))
      | (with_reducible refine condE_b (by simp only [go_sem]; rfl) (by simp only [go_sem]; rfl) (fun hc => ?_) (fun hc => ?_) <;> (try simp only [Bool.not_eq_eq_eq_not, Bool.not_true, Bool.not_false, Bool.and_eq_true, Bool.and_eq_false_imp, Bool.or_eq_true, Bool.or_eq_false_iff, decide_eq_true_eq, decide_eq_false_iff_not] at hc))
      | ((with_reducible refine chk_by ?_); decide +kernel)
      | (with_reducible refine aft_intro ?_ (fun hc => ?_))
      | (with_reducible refine imp_intro' (fun hc => ?_))
      | (with_reducible refine And.intro ?_ ?_)
      | (with_reducible refine fun d ⟨ha, hc⟩ => ?_)
      | (with_reducible intro hc)
      | (with_reducible assumption)
      | omega
      | (with_reducible refine Int.emod_nonneg _ ?_)
      | (with_reducible refine Int.emod_lt_of_pos _ ?_))
    · focus (refine loop_next (i + 1, xs.set i (1 + (i : Int) % 256)) [] [0] [false, false, false, false, true, false, false, false, false, false, false, false, false, false, false, false, false, false, false, false, false, false, false, false, false, false, false, false, false, false, false, false, false, false, false, false, false, false, false, false, false, false, false, true, true, false, false, false, false, false, false, false, false, false, false] rfl ?_ ?_ ?_; (try (first | rfl | (simp (implicitDefEqProofs := false) (dsimp := false) only [go_sem, Int.reduceAdd, Int.reduceSub, Int.reduceMul, Int.reduceNeg, Int.reduceLT, Int.reduceLE, Int.reduceEq, Int.reduceNe, Int.reduceToNat, Int.reduceMod, Int.reduceDiv, Int.reducePow, Nat.reduceAdd, Nat.reduceSub, Nat.reduceMul, Nat.reduceLT, Nat.reduceLeDiff, Nat.reduceEqDiff, Nat.reduceMod, Nat.reduceDiv, Nat.reducePow, reduceCtorEq, ↓reduceIte, St.mk.injEq, List.cons.injEq, AV.v.injEq, Value.int.injEq, AV.sl.injEq, Option.some.injEq, Ob.mk.injEq, true_and, and_true, Int.natCast_add, Int.cast_ofNat_Int]; omega) | (simp (implicitDefEqProofs := false) (dsimp := false) only [go_sem, Int.reduceAdd, Int.reduceSub, Int.reduceMul, Int.reduceNeg, Int.reduceLT, Int.reduceLE, Int.reduceEq, Int.reduceNe, Int.reduceToNat, Int.reduceMod, Int.reduceDiv, Int.reducePow, Nat.reduceAdd, Nat.reduceSub, Nat.reduceMul, Nat.reduceLT, Nat.reduceLeDiff, Nat.reduceEqDiff, Nat.reduceMod, Nat.reduceDiv, Nat.reducePow, reduceCtorEq, ↓reduceIte, St.mk.injEq, List.cons.injEq, AV.v.injEq, Value.int.injEq, AV.sl.injEq, Option.some.injEq, Ob.mk.injEq, true_and, and_true, Int.natCast_add, Int.cast_ofNat_Int]; done) | (simp (implicitDefEqProofs := false) (dsimp := false) only [go_sem, Int.reduceAdd, Int.reduceSub, Int.reduceMul, Int.reduceNeg, Int.reduceLT, Int.reduceLE, Int.reduceEq, Int.reduceNe, Int.reduceToNat, Int.reduceMod, Int.reduceDiv, Int.reducePow, Nat.reduceAdd, Nat.reduceSub, Nat.reduceMul, Nat.reduceLT, Nat.reduceLeDiff, Nat.reduceEqDiff, Nat.reduceMod, Nat.reduceDiv, Nat.reducePow, reduceCtorEq, ↓reduceIte, St.mk.injEq, List.cons.injEq, AV.v.injEq, Value.int.injEq, AV.sl.injEq, Option.some.injEq, Ob.mk.injEq, true_and, and_true, Int.natCast_add, Int.cast_ofNat_Int]))); all_goals try (first | omega | (simp only; omega)); all_goals (try dsimp only))
      exact ⟨by simpa using hx, by omega⟩
    · subst hx
      focus (refine bodyE_ret (xs) [] [0] rfl rfl ?_ ?_ ?_; all_goals (first | (with_reducible rfl) | (simp (implicitDefEqProofs := false) (dsimp := false) (disch := first | assumption | omega) only [go_sem, Int.reduceAdd, Int.reduceSub, Int.reduceMul, Int.reduceNeg, Int.reduceLT, Int.reduceLE, Int.reduceEq, Int.reduceNe, Int.reduceToNat, Int.reduceMod, Int.reduceDiv, Int.reducePow, Nat.reduceAdd, Nat.reduceSub, Nat.reduceMul, Nat.reduceLT, Nat.reduceLeDiff, Nat.reduceEqDiff, Nat.reduceMod, Nat.reduceDiv, Nat.reducePow, reduceCtorEq, ↓reduceIte, wrap_i64, wrap_u8, wrap_u32, wrap_u64, Int.tmod_eq_emod_of_nonneg, Int.tdiv_eq_ediv_of_nonneg]) | skip))
      omega
  · focus (refine bodyE_ret (out) [] [1] rfl rfl ?_ ?_ ?_; all_goals (first | (with_reducible rfl) | (simp (implicitDefEqProofs := false) (dsimp := false) (disch := first | assumption | omega) only [go_sem, Int.reduceAdd, Int.reduceSub, Int.reduceMul, Int.reduceNeg, Int.reduceLT, Int.reduceLE, Int.reduceEq, Int.reduceNe, Int.reduceToNat, Int.reduceMod, Int.reduceDiv, Int.reducePow, Nat.reduceAdd, Nat.reduceSub, Nat.reduceMul, Nat.reduceLT, Nat.reduceLeDiff, Nat.reduceEqDiff, Nat.reduceMod, Nat.reduceDiv, Nat.reducePow, reduceCtorEq, ↓reduceIte, wrap_i64, wrap_u8, wrap_u32, wrap_u64, Int.tmod_eq_emod_of_nonneg, Int.tdiv_eq_ediv_of_nonneg]) | skip))
    omega

def tot : List Int → Int
  | [] => 0
  | a :: r => (wholeOf a - a) + tot r
theorem wasteL_tot : ∀ (xs : List Int) (s : Int), (∀ a ∈ xs, wholeOf a ≠ 0) → wasteL xs s = s + tot xs
  | [], s, _ => by simp [wasteL, tot]
  | a :: r, s, h => by
    rw [wasteL, if_neg (h a (by simp)), wasteL_tot r _ (fun b hb => h b (by simp [hb])), tot]
    omega
theorem wasteL_good : ∀ (xs : List Int) (s : Int), 0 ≤ wasteL xs s → ∀ a ∈ xs, wholeOf a ≠ 0
  | [], _, _ => by simp
  | a :: r, s, h => by
    rw [wasteL] at h
    split at h
    · omega
    · rename_i h1
      intro b hb
      rcases List.mem_cons.1 hb with rfl | hb
      · exact h1
      · exact wasteL_good r _ h b hb
theorem tot_app (a b : List Int) : tot (a ++ b) = tot a + tot b := by
  induction a with
  | nil => simp [tot]
  | cons x r ih => simp only [List.cons_append, tot, ih]; omega
theorem tot_bd (xs : List Int) (h : ∀ a ∈ xs, wholeOf a ≠ 0) : 0 ≤ tot xs ∧ tot xs ≤ 16 * xs.length := by
  induction xs with
  | nil => simp [tot]
  | cons x r ih =>
    have h1 := ih (fun b hb => h b (by simp [hb]))
    have h2 := (whole_bound x).2.2 (h x (by simp))
    simp only [tot, List.length_cons]
    omega
theorem waste_tot {xs : List Int} (hl : xs.length ≤ 1000) (h : ∀ a ∈ xs, wholeOf a ≠ 0) : waste xs = tot xs := by
  rw [waste, if_neg (by omega), wasteL_tot xs 0 h, Int.zero_add]
theorem take_one (xs : List Int) (i : Nat) (h : i < xs.length) : (xs.drop i).take 1 = [xs.getD i 0] := by
  rw [List.drop_eq_getElem_cons h, List.take_succ_cons, List.take_zero, List.getD_eq_getElem?_getD, List.getElem?_eq_getElem h]
  rfl
theorem take_add (xs : List Int) (i : Nat) (h : i < xs.length) : tot (xs.take (i + 1)) = tot (xs.take i) + (wholeOf (xs.getD i 0) - xs.getD i 0) := by
  have : xs.take (i + 1) = xs.take i ++ (xs.drop i).take 1 := by rw [List.take_add]
  rw [this, tot_app, take_one xs i h]
  simp [tot]


end SA
