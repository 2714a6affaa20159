import Derived.Test.YtokpejlicanbmaaAmC
set_option linter.all false
/- The equations that carry out a region's operations, gathered. -/
namespace Am
open Go

section
variable {C : Cx} {gr : Nat → Bool} {ops : Array Oper} {S : St} {K : St → Prop} {t : List AV} {h : List (Option Ob)}

/-- A state that is worked out before it is used. -/
def Let2 (t : List AV) (h : List (Option Ob)) {k : List AV → List (Option Ob) → Prop} (_ : Tok k) : Prop := k t h

theorem let2_eq (k : List AV → List (Option Ob) → Prop) : Let2 t h (.mk k) = k t h := rfl

/-- The call of a function with a contract. -/
def CallD (P : Program) (f : Nat) (args : List AV) (h : List (Option Ob)) {K : AV → List (Option Ob) → Prop} (_ : Tok K) : Prop :=
  ∃ (mv : List Nat) (v : AV) (h' : List (Option Ob)), mv.Nodup ∧ (∀ id, id ∈ mv → ∃ ob, hp h id = some ob) ∧ mv.length ≤ h'.length ∧
        Con P f (expL mv (hp h) args) (objsOf (hp h) mv) v h' ∧ K (imp mv h.length v) (backH h mv h.length h')

theorem does_call' {d : Option Nat} {ty : Nat} {pos : String} {af : Array Edge} {g : Option (Nat × Bool)} {K : AV → List (Option Ob) → Prop} (f : Nat) (args : Array Operand) (tys : Array Nat) :
    Does C gr ⟨t, h⟩ ⟨d, .call ⟨.value (.func f), args, tys⟩, ty, pos, af, g⟩ K = CallD C.P f (args.toList.map (opd t)) h (.mk K) := by
  rw [does_call]; unfold CallD; rw [List.append_nil]

/-- The call of a function value. -/
def CallV (C : Cx) (x : AV) (args : List AV) (h : List (Option Ob)) {K : AV → List (Option Ob) → Prop} (_ : Tok K) : Prop := match x with
  | .fn f caps => CallD C.P f (args ++ caps) h (.mk K)
  | _ => False
theorem callV_fn (f : Nat) (caps args : List AV) {K : AV → List (Option Ob) → Prop} : CallV C (.fn f caps) args h (.mk K) = CallD C.P f (args ++ caps) h (.mk K) := rfl
theorem does_callt {d : Option Nat} {ty : Nat} {pos : String} {af : Array Edge} {g : Option (Nat × Bool)} {K : AV → List (Option Ob) → Prop} (n : Nat) (args : Array Operand) (tys : Array Nat) :
    Does C gr ⟨t, h⟩ ⟨d, .call ⟨.value (.tmp n), args, tys⟩, ty, pos, af, g⟩ K = CallV C (opd t (.tmp n)) (args.toList.map (opd t)) h (.mk K) := by
  unfold CallV
  cases hx : opd t (.tmp n) with
  | fn f caps => exact does_callv (.tmp n) args tys hx
  | _ => simp only [Does, callee, hx]

theorem aops_nil : aops C gr ops [] S K = K S := rfl
theorem aops_cons (d : Option Nat) (op : Op) (ty : Nat) (pos : String) (af : Array Edge) (rest : List Oper) :
    aops C gr ops (⟨d, op, ty, pos, af, none⟩ :: rest) ⟨t, h⟩ K = Does C gr ⟨t, h⟩ ⟨d, op, ty, pos, af, none⟩ fun v h' => Let2 (putT t d v) h' (.mk fun t' h'' => aops C gr ops rest ⟨t', h''⟩ K) := rfl
theorem aops_guard (d : Option Nat) (op : Op) (ty : Nat) (pos : String) (af : Array Edge) (rest : List Oper) (j : Nat) (want : Bool) :
    aops C gr ops (⟨d, op, ty, pos, af, some (j, want)⟩ :: rest) ⟨t, h⟩ K = (match (ops[j]?).bind (·.dst) with
      | some e => match t.getD e .u with
        | .v (.bool b) => Imp (b = want) (.mk (Let2 (t.set e (.v (.bool want))) h (.mk fun t' h' => Does C gr ⟨t', h'⟩ ⟨d, op, ty, pos, af, some (j, want)⟩ fun v h' => Let2 (putT t' d v) h' (.mk fun t'' h'' => aops C gr ops rest ⟨t'', h''⟩ K)))) ∧
            Imp (b = !want) (.mk (Let2 (putT (t.set e (.v (.bool !want))) d (.v undef)) h (.mk fun t' h' => aops C gr ops rest ⟨t', h'⟩ K)))
        | .v (.tuple _) => Let2 (putT t d (.v undef)) h (.mk fun t' h' => aops C gr ops rest ⟨t', h'⟩ K)
        | _ => False
      | none => False) := rfl
theorem thenQ_normal (K : St → Prop) (Q : AE → St → Prop) : thenQ K Q .normal S = K S := rfl
theorem thenQ_ret (K : St → Prop) (Q : AE → St → Prop) : thenQ K Q .ret S = Q .ret S := rfl
theorem thenQ_exit (K : St → Prop) (Q : AE → St → Prop) (id : Nat) : thenQ K Q (.exit id) S = Q (.exit id) S := rfl
theorem blockQ_normal (id : Nat) (Q : AE → St → Prop) : blockQ id Q .normal S = Q .normal S := rfl
theorem blockQ_ret (id : Nat) (Q : AE → St → Prop) : blockQ id Q .ret S = Q .ret S := rfl
theorem blockQ_exit (id id' : Nat) (Q : AE → St → Prop) : blockQ id Q (.exit id') S = if id' = id then Q .normal S else Q (.exit id') S := rfl
theorem putT_some (d : Nat) (x : AV) : putT t (some d) x = t.set d x := rfl
theorem putT_none (x : AV) : putT t none x = t := rfl
theorem setB_tmp (n : Nat) (b : Bool) : setB t (.tmp n) b = t.set n (.v (.bool b)) := rfl
theorem avif_bool (c x y : Bool) : avif c (.v (.bool x)) (.v (.bool y)) = .v (.bool (cond c x y)) := rfl
theorem avif_true (a b : AV) : avif true a b = a := by
  unfold avif; split <;> rfl
theorem avif_false (a b : AV) : avif false a b = b := by
  unfold avif; split <;> rfl

theorem sem_cond_true {m : Nat} {Q : AE → St → Prop} {c : Operand} {x y : Code} (hc : opd t c = .v (.bool true)) (hx : Beh C m x Q ⟨t, h⟩) : Beh C m (.cond c x y) Q ⟨t, h⟩ :=
  sem_cond (b := true) hc (fun _ => by
    cases c with
    | tmp n => simp only [setB]; rw [set_same (t := t) (d := n) (x := .v (.bool true)) hc (by simp)]; exact hx
    | _ => exact hx) (fun h => by cases h)

theorem sem_cond_false {m : Nat} {Q : AE → St → Prop} {c : Operand} {x y : Code} (hc : opd t c = .v (.bool false)) (hy : Beh C m y Q ⟨t, h⟩) : Beh C m (.cond c x y) Q ⟨t, h⟩ :=
  sem_cond (b := false) hc (fun h => by cases h) (fun _ => by
    cases c with
    | tmp n => simp only [setB]; rw [set_same (t := t) (d := n) (x := .v (.bool false)) hc (by simp)]; exact hy
    | _ => exact hy)

theorem sem_cond_p {m : Nat} {Q : AE → St → Prop} {n : Nat} {x y : Code} {p : Prop} [Decidable p] (hc : t.getD n .u = .v (.bool (decide p))) (hx : p → Beh C m x Q ⟨t.set n (.v (.bool true)), h⟩)
    (hy : ¬ p → Beh C m y Q ⟨t.set n (.v (.bool false)), h⟩) : Beh C m (.cond (.tmp n) x y) Q ⟨t, h⟩ :=
  sem_cond (b := decide p) hc (fun h => hx (of_decide_eq_true h)) (fun h => hy (of_decide_eq_false h))

theorem sem_cond_n {m : Nat} {Q : AE → St → Prop} {n : Nat} {x y : Code} {p : Prop} [Decidable p] (hc : t.getD n .u = .v (.bool (!decide p))) (hx : ¬ p → Beh C m x Q ⟨t.set n (.v (.bool true)), h⟩)
    (hy : p → Beh C m y Q ⟨t.set n (.v (.bool false)), h⟩) : Beh C m (.cond (.tmp n) x y) Q ⟨t, h⟩ :=
  sem_cond (b := !decide p) hc (fun h => hx (by simpa using h)) (fun h => hy (by simpa using h))

theorem sem_cond_b {m : Nat} {Q : AE → St → Prop} {n : Nat} {x y : Code} {b : Bool} (hc : t.getD n .u = .v (.bool b)) (hx : b = true → Beh C m x Q ⟨t.set n (.v (.bool true)), h⟩)
    (hy : b = false → Beh C m y Q ⟨t.set n (.v (.bool false)), h⟩) : Beh C m (.cond (.tmp n) x y) Q ⟨t, h⟩ := sem_cond (b := b) hc hx hy

theorem bodyQ_ret {m : Nat} {rs : List (Nat × Option Nat)} {v : AV} {h' : List (Option Ob)} (ids : List Nat) (x : AV) (h1 : idsB m ids = true) (h2 : resv C S rs = some x) (h3 : v = wkV ids x) (h4 : h' = wkH ids S.h) :
    bodyQ C m rs v h' .ret S := ⟨ids, x, h1, h2, h3, h4⟩
end



section
variable {C : Cx} {S : St} {t : List AV} {h : List (Option Ob)}
/-- The end of a function that leaves no object. -/
theorem bodyQ_ret0 {rs : List (Nat × Option Nat)} {v x : AV} (h2 : resv C S rs = some x) (h3 : v = wkV [] x) (h4 : [] = wkH [] S.h) : bodyQ C 0 rs v [] .ret S := ⟨[], x, rfl, h2, h3, h4⟩
theorem bodyQ_end0 {rs : List (Nat × Option Nat)} {v x : AV} (h2 : resv C S rs = some x) (h3 : v = wkV [] x) (h4 : [] = wkH [] S.h) : bodyQ C 0 rs v [] .normal S := ⟨[], x, rfl, h2, h3, h4⟩
theorem resv_tmp (n : Nat) : resv C ⟨t, h⟩ [(n, none)] = some (t.getD n .u) := rfl
theorem wkV_v (ids : List Nat) (x : Value) : wkV ids (.v x) = .v x := rfl
theorem wkH_nil : wkH [] h = [] := rfl
end

attribute [go_sem ↓] aft_and aops_nil aops_cons aops_guard does_move does_assign does_pick does_alloc does_box does_load does_store does_nilCheck does_bin does_un does_convert
attribute [go_sem ↓] does_build does_buildSlice does_makeSlice does_slice does_fieldAddr does_field does_indexAddr does_index does_extract does_makeFunc does_builtin does_call' does_callt
attribute [go_sem] let2_eq callV_fn thenQ_normal thenQ_ret thenQ_exit blockQ_normal blockQ_ret blockQ_exit putT_some putT_none setB_tmp avif_bool avif_true avif_false
attribute [go_sem] aft_true imp_true' imp_false' then_ret then_retp then_some then_none applyH_pure applyH_new applyH_upd applyH_both
attribute [go_sem] ofV_int ofV_bool ofV_str ofV_nil opd_tmp opd_const opd_func bin_add bin_sub bin_mul bin_quo bin_rem bin_and bin_or bin_xor bin_andNot bin_eql bin_neq bin_lss bin_leq bin_gtr bin_geq bin_shl bin_shr un_not un_neg hp_zero hp_succ
attribute [go_sem] List.set_cons_zero List.set_cons_succ List.getD_cons_zero List.getD_cons_succ List.getElem?_toArray List.getElem?_cons_succ List.getElem?_cons_zero Option.bind_some
attribute [go_sem] Bool.not_true Bool.not_false reduceCtorEq true_implies false_implies and_true true_and decide_eq_true_eq decide_eq_false_iff_not cond_true cond_false
attribute [go_sem] evBuiltin lenOf List.map_cons List.map_nil List.length_cons List.length_nil Option.map_some Option.map_none evLoad evSlice ldv partsOk place repl cells elsOk placeEl boxable isCell


theorem and_intro' {p q : Prop} (h : p) (k : p → q) : p ∧ q := ⟨h, k h⟩

/-- A slice's elements, each one number. -/
def encI (k : IntKind) (xs : List Int) : List (List AV) := xs.map fun n => [.v (.int k n)]
theorem encI_length (k : IntKind) (xs : List Int) : (encI k xs).length = xs.length := by simp [encI]
theorem encI_getD (k : IntKind) (xs : List Int) (i : Nat) (h : i < xs.length) : (encI k xs).getD i [] = [.v (.int k (xs.getD i 0))] := by
  simp [encI, List.getD_eq_getElem?_getD, h]
theorem encI_el {k : IntKind} {xs : List Int} {e : List AV} (h : e ∈ encI k xs) : ∃ n, e = [.v (.int k n)] := by
  obtain ⟨n, _, rfl⟩ := List.mem_map.1 h; exact ⟨n, rfl⟩
theorem sum_take_succ (xs : List Int) (i : Nat) (h : i < xs.length) : (xs.take (i + 1)).sum = (xs.take i).sum + xs.getD i 0 := by
  rw [List.take_add_one, List.sum_append, List.getD_eq_getElem?_getD, List.getElem?_eq_getElem h]
  simp
theorem getD_mem (xs : List Int) (i : Nat) (h : i < xs.length) : xs.getD i 0 ∈ xs := by
  rw [List.getD_eq_getElem?_getD, List.getElem?_eq_getElem h]
  exact List.getElem_mem h
theorem sum_take_bound (xs : List Int) (m : Int) (hb : ∀ b ∈ xs, 0 ≤ b ∧ b ≤ m) (i : Nat) (hi : i ≤ xs.length) : 0 ≤ (xs.take i).sum ∧ (xs.take i).sum ≤ m * i := by
  induction i with
  | zero => simp
  | succ i ih =>
    have h1 := ih (by omega)
    rw [sum_take_succ xs i (by omega)]
    have h2 := hb _ (getD_mem xs i (by omega))
    have : m * ((i + 1 : Nat) : Int) = m * (i : Int) + m := by rw [Int.natCast_add, Int.mul_add]; simp
    omega

end Am

/- The equations for drawn regions. -/
namespace Am
open Go

section
variable {C : Cx} {gr : Nat → Bool} {ops : Array Oper} {t : List AV} {h : List (Option Ob)} {s rm : Nat} {K : Dr → St → Prop} {d : Option Nat} {ty : Nat} {pos : String} {af : Array Edge} {g : Option (Nat × Bool)}

def ThenD (d : Option Nat) (t : List AV) (h : List (Option Ob)) (s rm : Nat) {K : Dr → St → Prop} (_ : Tok K) : Option (Prop × Eff) → Prop
  | some (p, e) => p ∧ e.new.length ≤ rm ∧ K ⟨s, rm, e.rd, e.upd.map (·.1)⟩ ⟨putT t d e.val, applyH h s e⟩
  | none => False

theorem thenD_ret (v : AV) : ThenD d t h s rm (.mk K) (ret v) = K ⟨s, rm, [], []⟩ ⟨putT t d v, h⟩ := by simp [ThenD, ret, applyH, putAll]
theorem thenD_retp (p : Prop) (v : AV) : ThenD d t h s rm (.mk K) (retp p v) = Aft p (.mk (K ⟨s, rm, [], []⟩ ⟨putT t d v, h⟩)) := by simp [Aft, and_assoc, ThenD, retp, applyH, putAll]
theorem thenD_pure (p : Prop) (v : AV) (rd : List Nat) : ThenD d t h s rm (.mk K) (some (p, { val := v, upd := [], new := [], rd := rd })) = Aft p (.mk (K ⟨s, rm, rd, []⟩ ⟨putT t d v, h⟩)) := by simp [Aft, and_assoc, ThenD, applyH, putAll]
theorem thenD_new (p : Prop) (v : AV) (x : Option Ob) (rd : List Nat) : ThenD d t h s rm (.mk K) (some (p, { val := v, upd := [], new := [x], rd := rd })) = Aft (p ∧ 1 ≤ rm) (.mk (K ⟨s, rm, rd, []⟩ ⟨putT t d v, putAt h s x⟩)) := by simp [Aft, and_assoc, ThenD, applyH, putAll]
theorem thenD_upd (p : Prop) (v : AV) (i : Nat) (x : Option Ob) (rd : List Nat) : ThenD d t h s rm (.mk K) (some (p, { val := v, upd := [(i, x)], new := [], rd := rd })) = Aft p (.mk (K ⟨s, rm, rd, [i]⟩ ⟨putT t d v, h.set i x⟩)) := by simp [Aft, and_assoc, ThenD, applyH, putAll]
theorem thenD_both (p : Prop) (v : AV) (i : Nat) (x y : Option Ob) (rd : List Nat) : ThenD d t h s rm (.mk K) (some (p, { val := v, upd := [(i, x)], new := [y], rd := rd })) = Aft (p ∧ 1 ≤ rm) (.mk (K ⟨s, rm, rd, [i]⟩ ⟨putT t d v, putAt (h.set i x) s y⟩)) := by
  simp [Aft, and_assoc, ThenD, applyH, putAll]
theorem thenD_none : ThenD d t h s rm (.mk K) none = False := rfl

/-- A call in a drawn region. -/
def CallR (P : Program) (f : Nat) (args : List AV) (d : Option Nat) (t : List AV) (h : List (Option Ob)) (s rm : Nat) {K : Dr → St → Prop} (_ : Tok K) : Prop :=
  ∃ (rd mv : List Nat) (v : AV) (h' : List (Option Ob)), mv.Nodup ∧ (∀ id, id ∈ mv → ∃ ob, hpr rd h id = some ob) ∧ mv.length ≤ h'.length ∧ h'.length ≤ mv.length + rm ∧
        Con P f (expL mv (hpr rd h) args) (objsOf (hpr rd h) mv) v h' ∧ K ⟨s, rm, rd, mv⟩ ⟨putT t d (imp mv s v), backH h mv s h'⟩
theorem ddo_call (f : Nat) (args : Array Operand) (tys : Array Nat) :
    DDo C gr ⟨t, h⟩ ⟨d, .call ⟨.value (.func f), args, tys⟩, ty, pos, af, g⟩ s rm K = CallR C.P f (args.toList.map (opd t)) d t h s rm (.mk K) := by
  have : DDo C gr ⟨t, h⟩ ⟨d, .call ⟨.value (.func f), args, tys⟩, ty, pos, af, g⟩ s rm K = CallR C.P f (args.toList.map (opd t) ++ []) d t h s rm (.mk K) := rfl
  rw [this, List.append_nil]
theorem callR_pure {P : Program} {f : Nat} {args : List AV} {v v' : AV} (rd : List Nat) (hc : Con P f (expL [] (hpr rd h) args) [] v []) (hv : imp [] s v = v') (hK : K ⟨s, rm, rd, []⟩ ⟨putT t d v', h⟩) : CallR P f args d t h s rm (.mk K) :=
  ⟨rd, [], v, [], by simp, by simp, by simp, by simp, hc, by rw [hv]; simpa [backH, putAll] using hK⟩

theorem ddo_move (x : Operand) : DDo C gr ⟨t, h⟩ ⟨d, .move x, ty, pos, af, g⟩ s rm K = ThenD d t h s rm (.mk K) (ret (opd t x)) := rfl
theorem ddo_assign (x : Operand) : DDo C gr ⟨t, h⟩ ⟨d, .assign x, ty, pos, af, g⟩ s rm K = ThenD d t h s rm (.mk K) (ret (opd t x)) := rfl
theorem ddo_pick (c x y : Operand) : DDo C gr ⟨t, h⟩ ⟨d, .pick c x y, ty, pos, af, g⟩ s rm K = ThenD d t h s rm (.mk K) (match opd t c with
    | .v (.bool b) => ret (avif b (opd t x) (opd t y))
    | _ => none) := rfl
theorem ddo_alloc (T : Nat) : DDo C gr ⟨t, h⟩ ⟨d, .alloc T, ty, pos, af, g⟩ s rm K = ThenD d t h s rm (.mk K) (if (C.ti T).ok = false then none else some (True, { val := .p s 0 0, upd := [], new := [some { es := [(C.ti T).zero], sz := (C.ti T).size, flat := false }], rd := [] })) := rfl
theorem ddo_box (T : Nat) (x : Operand) : DDo C gr ⟨t, h⟩ ⟨d, .box T x, ty, pos, af, g⟩ s rm K = ThenD d t h s rm (.mk K) (match opd t x with
    | .agg cs => some (True, { val := .p s 0 0, upd := [], new := [some { es := [cs], sz := cs.length, flat := false }], rd := [] })
    | a => if isCell a then some (True, { val := .p s 0 0, upd := [], new := [some { es := [[a]], sz := 1, flat := false }], rd := [] }) else none) := rfl
theorem ddo_load (T : Nat) (a : Operand) : DDo C gr ⟨t, h⟩ ⟨d, .load T a, ty, pos, af, g⟩ s rm K = ThenD d t h s rm (.mk K) (if (C.ti T).ok = false then none else evLoad C (hp h) T (opd t a)) := rfl
theorem ddo_store (T : Nat) (a x : Operand) : DDo C gr ⟨t, h⟩ ⟨d, .store T a x, ty, pos, af, g⟩ s rm K = ThenD d t h s rm (.mk K) (if (C.ti T).ok = false then none else match opd t a with
    | .p id i f => match hp h id with
      | some ob =>
        let ys := cells (opd t x)
        if ys.length = (C.ti T).size ∧ ys.all isCell = true ∧ (ob.flat = true → ys.all immc = true) then
          some (i < ob.es.length ∧ f + ys.length ≤ ob.sz, { val := .u, upd := [(id, some { ob with es := ob.es.set i (repl (ob.es.getD i []) f ys) })], new := [], rd := [id] })
        else none
      | none => none
    | _ => none) := rfl
theorem ddo_nilCheck (x : Operand) : DDo C gr ⟨t, h⟩ ⟨d, .nilCheck x, ty, pos, af, g⟩ s rm K = ThenD d t h s rm (.mk K) (match opd t x with
    | .p id i f => match hp h id with
      | some _ => some (True, { val := .p id i f, upd := [], new := [], rd := [id] })
      | none => none
    | .pb cs f => ret (.pb cs f)
    | .fn f caps => ret (.fn f caps)
    | _ => none) := rfl
theorem ddo_bin (op : BinOp) (T : Nat) (x y : Operand) (z) : DDo C gr ⟨t, h⟩ ⟨d, .binOp op T x y z, ty, pos, af, g⟩ s rm K = ThenD d t h s rm (.mk K) (if isNilS y then nilCmp C op T (opd t x) else bin C op T (opd t x) (opd t y)) := rfl
theorem ddo_un (op : UnOp) (T : Nat) (x : Operand) : DDo C gr ⟨t, h⟩ ⟨d, .unOp op T x, ty, pos, af, g⟩ s rm K = ThenD d t h s rm (.mk K) (un op (opd t x)) := rfl
theorem ddo_convert (a b : Nat) (x : Operand) : DDo C gr ⟨t, h⟩ ⟨d, .convert a b x, ty, pos, af, g⟩ s rm K = ThenD d t h s rm (.mk K) (match (C.ti a).k, (C.ti b).k, opd t x with
    | .int _, .int k, .v (.int _ n) => ret (.v (.int k (k.wrap n)))
    | .str, .str, .v (.string s) => ret (.v (.string s))
    | .sl el, .str, a => match (C.ti el).k, rdSlice (hp h) a with
      | .int .u8, some (es, ids) => some (∀ e ∈ es, isByte e = true, { val := .v (.string (strOf es)), upd := [], new := [], rd := ids })
      | _, _ => none
    | _, _, _ => none) := rfl
theorem ddo_build (T : Nat) (ps : Array (Nat × Operand)) : DDo C gr ⟨t, h⟩ ⟨d, .build T ps, ty, pos, af, g⟩ s rm K = ThenD d t h s rm (.mk K) (match (C.ti T).k with
    | .st fs => match partsOk fs (ps.toList.map fun ix => (ix.1, opd t ix.2)) with
      | some l => retp (∀ p ∈ l, p.1 + p.2.length ≤ (C.ti T).size) (.agg (place (C.ti T).zero l))
      | none => none
    | .arr n el => match arrOk n (C.ti el).size (ps.toList.map fun ix => (ix.1, opd t ix.2)) with
      | some l => retp (∀ p ∈ l, p.1 + p.2.length ≤ (C.ti T).size) (.agg (place (C.ti T).zero l))
      | none => none
    | _ => none) := rfl
theorem ddo_buildSlice (T len : Nat) (ps : Array (Nat × Operand)) : DDo C gr ⟨t, h⟩ ⟨d, .buildSlice T len ps, ty, pos, af, g⟩ s rm K = ThenD d t h s rm (.mk K) (match (C.ti T).k with
    | .sl el => if len = 0 then (if ps.toList.isEmpty then ret .nl else none) else
        let l := ps.toList.map fun ix => (ix.1, opd t ix.2)
        if elsOk len (C.ti el).size l && decide (len * (C.ti el).size ≤ 16777216) && decide (0 < (C.ti el).size) then
          let es := placeEl (List.replicate len (C.ti el).zero) l
          some (True, { val := .sl s 0 len, upd := [], new := [some { es := es, sz := (C.ti el).size, flat := (es.all fun e => e.all immc) && !gr el }], rd := [] })
        else none
    | _ => none) := rfl
theorem ddo_makeSlice (T : Nat) (n m : Operand) : DDo C gr ⟨t, h⟩ ⟨d, .makeSlice T n m, ty, pos, af, g⟩ s rm K = ThenD d t h s rm (.mk K) (match (C.ti T).k, opd t n, opd t m with
    | .sl el, .v (.int _ a), .v (.int _ b) => if (C.ti el).bytes ≤ 128 ∧ 0 < (C.ti el).size then
        some (0 ≤ a ∧ a ≤ 549755813888 ∧ a = b, { val := .sl s 0 a.toNat, upd := [], new := [some { es := List.replicate a.toNat (C.ti el).zero, sz := (C.ti el).size, flat := (C.ti el).zero.all immc && !gr el }], rd := [] })
      else none
    | _, _, _ => none) := rfl
theorem ddo_slice (T : Nat) (x : Operand) (lo hi : Option Operand) : DDo C gr ⟨t, h⟩ ⟨d, .slice T x lo hi none, ty, pos, af, g⟩ s rm K = ThenD d t h s rm (.mk K) (evSlice C (hp h) T (opd t x) (lo.map (opd t)) (hi.map (opd t))) := rfl
theorem ddo_fieldAddr (T : Nat) (x : Operand) (f : Nat) : DDo C gr ⟨t, h⟩ ⟨d, .fieldAddr T x f, ty, pos, af, g⟩ s rm K = ThenD d t h s rm (.mk K) (match (C.ti T).k, opd t x with
    | .st fs, .p id i g => match fs[f]?, hp h id with
      | some (off, sz, _), some _ => if sz = 0 then none else some (True, { val := .p id i (g + off), upd := [], new := [], rd := [id] })
      | _, _ => none
    | .st fs, .pb cs g => match fs[f]? with
      | some (off, sz, _) => if sz = 0 then none else ret (.pb cs (g + off))
      | none => none
    | _, _ => none) := rfl
theorem ddo_field (T : Nat) (x : Operand) (f : Nat) : DDo C gr ⟨t, h⟩ ⟨d, .field T x f, ty, pos, af, g⟩ s rm K = ThenD d t h s rm (.mk K) (match (C.ti T).k, opd t x with
    | .st fs, .agg cs => match fs[f]? with
      | some (off, sz, ag) => retp (off + (if ag then sz else 1) ≤ cs.length) (if ag then .agg ((cs.drop off).take sz) else cs.getD off .u)
      | none => none
    | _, _ => none) := rfl
theorem ddo_indexAddr (T : Nat) (x ix : Operand) : DDo C gr ⟨t, h⟩ ⟨d, .indexAddr T x ix, ty, pos, af, g⟩ s rm K = ThenD d t h s rm (.mk K) (match (C.ti T).k, opd t x, opd t ix with
    | .sl el, .sl id off len, .v (.int _ i) => match hp h id with
      | some ob => if ob.sz = (C.ti el).size then some (0 ≤ i ∧ i < len, { val := .p id (off + i.toNat) 0, upd := [], new := [], rd := [id] }) else none
      | none => none
    | .sl el, .bor _ es, .v (.int _ i) => retp ((0 ≤ i ∧ i < es.length) ∧ (es.getD i.toNat []).length = (C.ti el).size) (.pb (es.getD i.toNat []) 0)
    | _, _, _ => none) := rfl
theorem ddo_index (T : Nat) (x ix : Operand) : DDo C gr ⟨t, h⟩ ⟨d, .index T x ix, ty, pos, af, g⟩ s rm K = ThenD d t h s rm (.mk K) (match (C.ti T).k, opd t x, opd t ix with
    | .str, .v (.string s), .v (.int _ i) => retp (0 ≤ i ∧ i < s.size) (strIndex s i.toNat)
    | .arr n el, .agg cs, .v (.int _ i) => retp (0 ≤ i ∧ i < n ∧ cs.length = n * (C.ti el).size) (ldv (C.ti el) cs (i.toNat * (C.ti el).size))
    | _, _, _ => none) := rfl
theorem ddo_extract (x : Operand) (ix : Nat) : DDo C gr ⟨t, h⟩ ⟨d, .extract x ix, ty, pos, af, g⟩ s rm K = ThenD d t h s rm (.mk K) (match opd t x with
    | .tup cs => retp (ix < cs.length) (cs.getD ix .u)
    | _ => none) := rfl
theorem ddo_makeFunc (f : Nat) (caps : Array Operand) : DDo C gr ⟨t, h⟩ ⟨d, .makeFunc (.func f) #[] caps, ty, pos, af, g⟩ s rm K = ThenD d t h s rm (.mk K) (ret (.fn f (caps.toList.map (opd t)))) := rfl
theorem ddo_builtin (b : Builtin) (args : Array Operand) (tys : Array Nat) : DDo C gr ⟨t, h⟩ ⟨d, .call ⟨.builtin b, args, tys⟩, ty, pos, af, g⟩ s rm K = ThenD d t h s rm (.mk K) (evBuiltin C gr (opd t) (hp h) s ⟨.builtin b, args, tys⟩ b) := rfl

/-- A state that is worked out before it is used. -/
def Let3 (D : Dr) (S : St) {k : Dr → St → Prop} (_ : Tok k) : Prop := k D S
theorem let3_eq (D : Dr) (S : St) (k : Dr → St → Prop) : Let3 D S (.mk k) = k D S := rfl

theorem dRun_nil {kc lo n cur : Nat} {acc : List Dr} {S : St} {K : St → Prop} : dRun C gr ops kc lo n [] cur acc S K = (chk lo n ops acc.reverse = true ∧ K S) := rfl
theorem dRun_cons {kc lo n cur : Nat} {acc : List Dr} {K : St → Prop} (op : Op) (rest : List Oper) :
    dRun C gr ops kc lo n (⟨d, op, ty, pos, af, none⟩ :: rest) cur acc ⟨t, h⟩ K = DDo C gr ⟨t, h⟩ ⟨d, op, ty, pos, af, none⟩ (slotOf kc n cur ⟨d, op, ty, pos, af, none⟩) (roomOf kc ⟨d, op, ty, pos, af, none⟩) fun D S' =>
      Let3 D S' (.mk fun D S' => dRun C gr ops kc lo n rest (cur + roomOf kc ⟨d, op, ty, pos, af, none⟩) (D :: acc) S' K) := rfl
theorem dRun_guard {kc lo n cur : Nat} {acc : List Dr} {K : St → Prop} (op : Op) (rest : List Oper) (j : Nat) (want : Bool) :
    dRun C gr ops kc lo n (⟨d, op, ty, pos, af, some (j, want)⟩ :: rest) cur acc ⟨t, h⟩ K = (match (ops[j]?).bind (·.dst) with
      | some e => match t.getD e .u with
        | .v (.bool b) => Imp (b = want) (.mk (Let2 (t.set e (.v (.bool want))) h (.mk fun t' h' => DDo C gr ⟨t', h'⟩ ⟨d, op, ty, pos, af, some (j, want)⟩ (slotOf kc n cur ⟨d, op, ty, pos, af, some (j, want)⟩) (roomOf kc ⟨d, op, ty, pos, af, some (j, want)⟩) fun D S' =>
              Let3 D S' (.mk fun D S' => dRun C gr ops kc lo n rest (cur + roomOf kc ⟨d, op, ty, pos, af, some (j, want)⟩) (D :: acc) S' K)))) ∧
            Imp (b = !want) (.mk (Let2 (putT (t.set e (.v (.bool !want))) d (.v undef)) h (.mk fun t' h' => dRun C gr ops kc lo n rest (cur + roomOf kc ⟨d, op, ty, pos, af, some (j, want)⟩) (⟨slotOf kc n cur ⟨d, op, ty, pos, af, some (j, want)⟩, roomOf kc ⟨d, op, ty, pos, af, some (j, want)⟩, [], []⟩ :: acc) ⟨t', h'⟩ K)))
        | .v (.tuple _) => Let2 (putT t d (.v undef)) h (.mk fun t' h' => dRun C gr ops kc lo n rest (cur + roomOf kc ⟨d, op, ty, pos, af, some (j, want)⟩) (⟨slotOf kc n cur ⟨d, op, ty, pos, af, some (j, want)⟩, roomOf kc ⟨d, op, ty, pos, af, some (j, want)⟩, [], []⟩ :: acc) ⟨t', h'⟩ K)
        | _ => False
      | none => False) := rfl
theorem sem_draw' {m : Nat} {h : List (Option Ob)} {Q : AE → St → Prop} (ok : CxOk C) (gr : Nat → Bool) (kc : Nat) {id : Nat}
    (hr : dRun C gr ops kc h.length (h.length + rooms kc ops.toList) ops.toList h.length [] ⟨t, h ++ List.replicate (rooms kc ops.toList) none⟩ (Q .normal)) : Beh C m (.region id ops true) Q ⟨t, h⟩ :=
  sem_draw ok gr kc hr
/-- A branch whose condition is to be worked out. -/
def CondD (C : Cx) (m : Nat) (v : AV) {q : Operand × Code × Code × (AE → St → Prop) × St} (_ : Tok q) : Prop := opd q.2.2.2.2.t q.1 = v → Beh C m (.cond q.1 q.2.1 q.2.2.1) q.2.2.2.1 q.2.2.2.2
theorem condD {m : Nat} {c : Operand} {x y : Code} {Q : AE → St → Prop} {S : St} (hc : CondD C m (opd S.t c) (.mk (c, x, y, Q, S))) : Beh C m (.cond c x y) Q S := hc rfl
theorem condD_true {m : Nat} {c : Operand} {x y : Code} {Q : AE → St → Prop} {t : List AV} {h : List (Option Ob)} (hx : Beh C m x Q ⟨t, h⟩) : CondD C m (.v (.bool true)) (.mk (c, x, y, Q, ⟨t, h⟩)) := fun e => sem_cond_true e hx
theorem condD_false {m : Nat} {c : Operand} {x y : Code} {Q : AE → St → Prop} {t : List AV} {h : List (Option Ob)} (hy : Beh C m y Q ⟨t, h⟩) : CondD C m (.v (.bool false)) (.mk (c, x, y, Q, ⟨t, h⟩)) := fun e => sem_cond_false e hy
theorem condD_p {m n : Nat} {x y : Code} {Q : AE → St → Prop} {t : List AV} {h : List (Option Ob)} {p : Prop} [Decidable p] (hx : p → Beh C m x Q ⟨t.set n (.v (.bool true)), h⟩)
    (hy : ¬ p → Beh C m y Q ⟨t.set n (.v (.bool false)), h⟩) : CondD C m (.v (.bool (decide p))) (.mk ((.tmp n), x, y, Q, ⟨t, h⟩)) := fun e => sem_cond_p e hx hy
theorem condD_n {m n : Nat} {x y : Code} {Q : AE → St → Prop} {t : List AV} {h : List (Option Ob)} {p : Prop} [Decidable p] (hx : ¬ p → Beh C m x Q ⟨t.set n (.v (.bool true)), h⟩)
    (hy : p → Beh C m y Q ⟨t.set n (.v (.bool false)), h⟩) : CondD C m (.v (.bool (!decide p))) (.mk ((.tmp n), x, y, Q, ⟨t, h⟩)) := fun e => sem_cond_n e hx hy
theorem condD_b {m n : Nat} {x y : Code} {Q : AE → St → Prop} {t : List AV} {h : List (Option Ob)} {b : Bool} (hx : b = true → Beh C m x Q ⟨t.set n (.v (.bool true)), h⟩)
    (hy : b = false → Beh C m y Q ⟨t.set n (.v (.bool false)), h⟩) : CondD C m (.v (.bool b)) (.mk ((.tmp n), x, y, Q, ⟨t, h⟩)) := fun e => sem_cond_b e hx hy
theorem beh_set {m : Nat} {c : Code} {Q : AE → St → Prop} {S S' : St} (e : S = S') (hb : Beh C m c Q S') : Beh C m c Q S := e ▸ hb
theorem byte_getD {xs : List Int} (hb : ∀ b ∈ xs, 0 ≤ b ∧ b < 256) (i : Nat) : 0 ≤ xs.getD i 0 ∧ xs.getD i 0 < 256 := by
  rcases Nat.lt_or_ge i xs.length with h1 | h1
  · exact hb _ (getD_mem xs i h1)
  · rw [List.getD_eq_getElem?_getD, List.getElem?_eq_none h1]; simp
theorem emod_len (p : Int) (n : Nat) : 0 < n → 0 ≤ p % (n : Int) ∧ p % (n : Int) < n := fun h => ⟨Int.emod_nonneg _ (by omega), Int.emod_lt_of_pos _ (by omega)⟩
theorem bodyQ_ret1 {rs : List (Nat × Option Nat)} {v x : AV} {S : St} {h' : List (Option Ob)} (h2 : resv C S rs = some x) (h3 : wkV [0] x = v) (h4 : wkH [0] S.h = h') : bodyQ C 1 rs v h' .ret S := ⟨[0], x, by decide, h2, h3.symm, h4.symm⟩
/-- A call that may change one object. -/
theorem callD_one {P : Program} {f : Nat} {args args' : List AV} {v v' : AV} {ob ob' ob2 ob3 : Ob} {K : AV → List (Option Ob) → Prop} (id : Nat) (h1 : hp h id = some ob) (e1 : expL [id] (hp h) args = args')
    (e2 : expOb [id] (hp h) ob = ob') (hc : Con P f args' [some ob'] v [some ob2]) (e3 : imp [id] h.length v = v') (e4 : impOb [id] h.length ob2 = ob3) (hK : K v' (h.set id (some ob3))) : CallD P f args h (.mk K) := by
  refine ⟨[id], v, [some ob2], by simp, fun i hi => ⟨ob, by simp at hi; rw [hi]; exact h1⟩, by simp, ?_, ?_⟩
  · rw [e1]
    have : objsOf (hp h) [id] = [some ob'] := by simp [objsOf, h1, e2]
    rw [this]
    exact hc
  · rw [e3]
    simpa [backH, putAll, e4] using hK

/-- A call that makes new objects and changes none. -/
theorem callD_new {P : Program} {f : Nat} {args args' : List AV} {v v' : AV} {h' h2 : List (Option Ob)} {K : AV → List (Option Ob) → Prop} (e1 : expL [] (hp h) args = args') (hc : Con P f args' [] v h')
    (e3 : imp [] h.length v = v') (e4 : h'.map (Option.map (impOb [] h.length)) = h2) (hK : K v' (h ++ h2)) : CallD P f args h (.mk K) := by
  refine ⟨[], v, h', by simp, by simp, by simp, by rw [e1]; exact hc, ?_⟩
  rw [e3]
  have : backH h [] h.length h' = h ++ h2 := by
    unfold backH
    have key : ∀ (xs : List (Option Ob)) (l : List (Option Ob)), putAll l l.length xs = l ++ xs := by
      intro xs
      induction xs with
      | nil => intro l; simp [putAll]
      | cons x xs ih =>
        intro l
        have h1 : putAt l l.length x = l ++ [x] := by simp [putAt]
        simp only [putAll, h1]
        have := ih (l ++ [x])
        simp only [List.length_append, List.length_cons, List.length_nil, Nat.zero_add] at this
        rw [this]; simp
    simp [key, e4]
  rw [this]
  exact hK

theorem applyH_at (v : AV) (x : Option Ob) (rd : List Nat) : applyH h s { val := v, upd := [], new := [x], rd := rd } = putAt h s x := by simp [applyH, putAll]
theorem applyH_atb (v : AV) (id : Nat) (x y : Option Ob) (rd : List Nat) : applyH h s { val := v, upd := [(id, x)], new := [y], rd := rd } = putAt (h.set id x) s y := by simp [applyH, putAll]
theorem imp_v (ids : List Nat) (n : Nat) (x : Value) : imp ids n (.v x) = .v x := rfl
theorem putAt_nil (s : Nat) (x : Option Ob) : putAt [] s x = [x] := by simp [putAt]
theorem putAt_zero (y x : Option Ob) (l : List (Option Ob)) : putAt (y :: l) 0 x = x :: l := by simp [putAt]
theorem putAt_succ (y x : Option Ob) (l : List (Option Ob)) (s : Nat) : putAt (y :: l) (s + 1) x = y :: putAt l s x := by
  unfold putAt
  simp only [List.length_cons, Nat.add_lt_add_iff_right, List.set_cons_succ, List.cons_append]
  split <;> rfl
theorem all_cons_and {α : Type} (p : α → Prop) (a : α) (l : List α) : (∀ x, x ∈ a :: l → p x) = (p a ∧ ∀ x, x ∈ l → p x) := by simp
theorem all_nil_true {α : Type} (p : α → Prop) : (∀ x, x ∈ ([] : List α) → p x) = True := by simp
theorem chk_by {lo n : Nat} {l : List Dr} (hc : chk lo n ops l = true) : chk lo n ops l = true := hc
theorem rev_nil : ([] : List Dr).reverse = [] := rfl
theorem putAt_in (x : Option Ob) (hs : s < h.length) : putAt h s x = h.set s x := by unfold putAt; rw [if_pos hs]
end

attribute [go_sem ↓] dRun_nil dRun_cons dRun_guard ddo_call ddo_move ddo_assign ddo_pick ddo_alloc ddo_box ddo_load ddo_store ddo_nilCheck ddo_bin ddo_un ddo_convert ddo_build ddo_buildSlice ddo_makeSlice ddo_slice ddo_fieldAddr ddo_field ddo_indexAddr ddo_index ddo_extract ddo_makeFunc ddo_builtin
attribute [local irreducible] Beh

attribute [go_sem] applyH_at applyH_atb imp_v putAt_nil putAt_zero putAt_succ all_cons_and all_nil_true
attribute [go_sem] List.all_cons List.all_nil Bool.and_true Bool.true_and List.take_succ_cons List.take_zero List.drop_succ_cons List.drop_zero List.cons_append List.nil_append immc
attribute [go_sem] let3_eq thenD_ret thenD_retp thenD_pure thenD_new thenD_upd thenD_both thenD_none

end Am

/- From a contract to a row: arguments that are there before the call. -/
namespace Am
open Go

def noZ : Nat → Prop := fun _ => False

theorem rel_nil (W : World) : Rel W [] noZ [] :=
  ⟨rfl, fun id ob h => by simp at h, fun id h => by simp at h, fun i j L M h => by simp at h, fun b h => h.elim⟩

theorem Mono.below {W W' : World} {ρ' : List LS} (m : Mono W [] W' ρ') : Go.RowKit.Below W.heap.size W W' :=
  ⟨m.os, m.tape, m.out, m.hs, fun k hk => m.hb k hk (by rintro ⟨id, L, h, _⟩; simp at h)⟩

theorem con_row {P : Program} {f : Nat} {args : List AV} {x : Value} (hc : Con P f args [] (.v x) []) {W : World} {cargs : Array Value} (hl : args.length = cargs.size)
    (hv : ∀ (k : Nat) (y : AV), args[k]? = some y → V W [] noZ y (cargs.getD k undef)) : Calls P f cargs W fun e W' => e = .returned x ∧ Go.RowKit.Below W.heap.size W W' :=
  (hc.2 W [] noZ cargs (rel_nil W) hl hv).mono fun e W' ⟨cv, ρ', he, _, hx, m⟩ => ⟨by rw [he, hx.v_inv], m.below⟩

theorem V_ints {W : World} {k : IntKind} {x : Addr} {len cap : Nat} {zs : List Int} (i : Bool) (hl : len ≤ zs.length) (hcap : len ≤ cap)
    (hcell : ∀ i, i < zs.length → W.cell? (x.add i) = some (.int k (zs.getD i 0))) : V W [] noZ (.bor i (encI k (zs.take len))) (.slice (some x) len cap) := by
  have hlen : (encI k (zs.take len)).length = len := by rw [encI_length, List.length_take]; omega
  rcases Nat.eq_zero_or_pos len with h0 | h0
  · subst h0
    simp only [List.take_zero]
    exact .borE i _ _
  · have h1 := hcell 0 (by omega)
    have hx0 : x.add 0 = x := rfl
    rw [hx0] at h1
    obtain ⟨hb, hs⟩ : x.block < W.heap.size ∧ x.spot = none := by
      unfold World.cell? at h1
      split at h1
      · rename_i c e g hh
        refine ⟨(Array.getElem?_eq_some_iff.1 hh).1, ?_⟩
        cases hsp : x.spot with
        | none => rfl
        | some y => rw [hsp] at h1; simp at h1
      · cases h1
    obtain ⟨b, o, sp⟩ := x
    simp only at hs hb
    subst hs
    have hadd : ∀ i : Nat, (⟨b, o, none⟩ : Addr).add i = ⟨b, o + i, none⟩ := fun i => by unfold Addr.add; split <;> simp_all
    have hel : ∀ (j : Nat) (e : List AV), (encI k (zs.take len))[j]? = some e → j < len ∧ e = [.v (.int k (zs.getD j 0))] := by
      intro j e he
      have hj : j < len := by rw [← hlen]; exact (List.getElem?_eq_some_iff.1 he).1
      refine ⟨hj, ?_⟩
      simp only [encI, List.getElem?_map, List.getElem?_take, hj, if_true] at he
      rw [List.getElem?_eq_getElem (by omega : j < zs.length)] at he
      simp only [Option.map_some, Option.some.injEq] at he
      rw [← he, List.getD_eq_getElem?_getD, List.getElem?_eq_getElem (by omega : j < zs.length)]
      rfl
    have hval : ∀ (j : Nat) (e : List AV) (l : Nat) (y : AV), (encI k (zs.take len))[j]? = some e → e[l]? = some y → l = 0 ∧ y = .v (.int k (zs.getD j 0)) ∧ j < len := by
      intro j e l y he hy
      obtain ⟨h2, rfl⟩ := hel j e he
      cases l with
      | zero => simp at hy; exact ⟨rfl, hy.symm, h2⟩
      | succ l => simp at hy
    have := V.bor (w := W) (ρ := []) (Z := noZ) i (encI k (zs.take len)) b o 1 cap (fun j _ => .int k (zs.getD j 0)) hb (by rintro ⟨id, L, h, _⟩; simp at h) (fun _ h => h) (by rw [hlen]; exact hcap)
      (fun e he => by obtain ⟨n, rfl⟩ := encI_el he; rfl)
      (fun j e l y he hy => by
        obtain ⟨rfl, _, h3⟩ := hval j e l y he hy
        have := hcell j (by omega)
        rw [hadd] at this
        simpa using this)
      (fun j e l y he hy => by obtain ⟨_, rfl, _⟩ := hval j e l y he hy; exact .v _)
      (fun j e l y he hy => by obtain ⟨_, rfl, _⟩ := hval j e l y he hy; rfl)
      (fun _ j e l y he hy => by obtain ⟨_, rfl, _⟩ := hval j e l y he hy; rfl)
    rw [hlen] at this
    exact this

end Am

/- Calls by contract, what is kept, ends: in a form that a driver can use. -/
namespace Am
open Go

section
variable {C : Cx} {gr : Nat → Bool} {S : St} {t : List AV} {h : List (Option Ob)} {m : Nat} {Q : AE → St → Prop}


/-- Types whose zero value holds a slice or a pointer: their rows may lead to objects. -/
def isRefZ : AV → Bool
  | .nl => true
  | .v (.pointer none) => true
  | _ => false
def grT (C : Cx) (el : Nat) : Bool := (C.ti el).zero.any isRefZ

theorem regionN (ok : CxOk C) {id : Nat} {ops : Array Oper} (h : Nrm (aops C (grT C) ops ops.toList S (Q .normal))) : Beh C m (.region id ops false) Q S := sem_region ok _ h
theorem drawN (ok : CxOk C) (kc : Nat) {id : Nat} {ops : Array Oper} (hr : Nrm (dRun C (grT C) ops kc h.length (h.length + rooms kc ops.toList) ops.toList h.length [] ⟨t, h ++ List.replicate (rooms kc ops.toList) none⟩ (Q .normal))) :
    Beh C m (.region id ops true) Q ⟨t, h⟩ := sem_draw ok _ kc hr
theorem retN (h : Nrm (Q .ret S)) : Beh C m .ret Q S := sem_ret h
theorem skipN (h : Nrm (Q .normal S)) : Beh C m .skip Q S := sem_skip h
theorem exitN {id : Nat} (h : Nrm (Q (.exit id) S)) : Beh C m (.exit id) Q S := sem_exit h
theorem condN {c : Operand} {x y : Code} (hc : Nrm (CondD C m (opd S.t c) (.mk (c, x, y, Q, S)))) : Beh C m (.cond c x y) Q S := hc rfl
theorem setN {c : Code} {S' : St} (e : S = S') (hb : Beh C m c Q S') : Beh C m c Q S := e ▸ hb
theorem condNq {n k : Nat} {x y : Code} (hx : n = 0 → Beh C m x Q S) (hy : Beh C m y Q S) : CondD C m (.nq n) (.mk (.tmp k, x, y, Q, S)) := fun e => sem_cond_nq e hx hy
theorem condPN {n : Nat} {x y : Code} {p : Prop} [Decidable p] {t' t'' : List AV} (e1 : t.set n (.v (.bool true)) = t') (e2 : t.set n (.v (.bool false)) = t'') (hx : p → Beh C m x Q ⟨t', h⟩) (hy : ¬ p → Beh C m y Q ⟨t'', h⟩) :
    CondD C m (.v (.bool (decide p))) (.mk (.tmp n, x, y, Q, ⟨t, h⟩)) := by subst e1; subst e2; exact condD_p hx hy
theorem condNN {n : Nat} {x y : Code} {p : Prop} [Decidable p] {t' t'' : List AV} (e1 : t.set n (.v (.bool true)) = t') (e2 : t.set n (.v (.bool false)) = t'') (hx : ¬ p → Beh C m x Q ⟨t', h⟩) (hy : p → Beh C m y Q ⟨t'', h⟩) :
    CondD C m (.v (.bool (!decide p))) (.mk (.tmp n, x, y, Q, ⟨t, h⟩)) := by subst e1; subst e2; exact condD_n hx hy
theorem condBN {n : Nat} {x y : Code} {b : Bool} {t' t'' : List AV} (e1 : t.set n (.v (.bool true)) = t') (e2 : t.set n (.v (.bool false)) = t'') (hx : b = true → Beh C m x Q ⟨t', h⟩) (hy : b = false → Beh C m y Q ⟨t'', h⟩) :
    CondD C m (.v (.bool b)) (.mk (.tmp n, x, y, Q, ⟨t, h⟩)) := by subst e1; subst e2; exact condD_b hx hy

/-- An object that an argument leads to. -/
def idOf : AV → Nat
  | .p id _ _ => id
  | .sl id _ _ => id
  | _ => 0

def someB : List (Option Ob) → Bool
  | [] => true
  | some _ :: l => someB l
  | none :: _ => false

theorem someB_map {g : Nat → Option Ob} : ∀ {mv : List Nat}, someB (mv.map g) = true → ∀ id, id ∈ mv → ∃ ob, g id = some ob
  | [], _, id, hi => by cases hi
  | i :: mv, h, id, hi => by
    rw [List.map_cons] at h
    cases hH : g i with
    | none => rw [hH] at h; cases h
    | some ob =>
      rw [hH] at h
      rcases List.mem_cons.1 hi with rfl | hi
      · exact ⟨ob, hH⟩
      · exact someB_map (mv := mv) h id hi
theorem someB_hid {H : Nat → Option Ob} {mv : List Nat} (h : someB (objsOf H mv) = true) : ∀ id, id ∈ mv → ∃ ob, H id = some ob := by
  intro id hi
  obtain ⟨ob, h1⟩ := someB_map (g := fun id => (H id).map (expOb mv H)) h id hi
  cases hH : H id with
  | none => simp only [hH] at h1; cases h1
  | some x => exact ⟨x, rfl⟩

def nodupB : List Nat → Bool
  | [] => true
  | x :: xs => !xs.elem x && nodupB xs
theorem nodupB_spec : ∀ {l : List Nat}, nodupB l = true → l.Nodup
  | [], _ => by simp
  | x :: xs, h => by
    simp only [nodupB, Bool.and_eq_true, Bool.not_eq_true', List.elem_eq_mem, decide_eq_false_iff_not] at h
    exact List.nodup_cons.2 ⟨h.1, nodupB_spec h.2⟩

/-- What comes back of a call's heap, in the order of the text. -/
def backN (h : List (Option Ob)) (mv : List Nat) (n : Nat) (h' : List (Option Ob)) : List (Option Ob) :=
  ((mv.zip ((h'.take mv.length).map (Option.map (impOb mv n)))).foldl (fun h p => h.set p.1 p.2) h) ++ (h'.drop mv.length).map (Option.map (impOb mv n))

theorem putAll_end {α : Type} : ∀ (xs l : List α), putAll l l.length xs = l ++ xs
  | [], l => by simp [putAll]
  | x :: xs, l => by
    have h1 : putAt l l.length x = l ++ [x] := by simp [putAt]
    simp only [putAll, h1]
    have := putAll_end xs (l ++ [x])
    simp only [List.length_append, List.length_cons, List.length_nil, Nat.zero_add] at this
    rw [this]; simp

theorem backN_eq (h : List (Option Ob)) (mv : List Nat) (h' : List (Option Ob)) : backH h mv h.length h' = backN h mv h.length h' := by
  unfold backH backN
  have e : ((mv.zip ((h'.take mv.length).map (Option.map (impOb mv h.length)))).foldl (fun h p => h.set p.1 p.2) h).length = h.length := setAll_length h _
  have := putAll_end ((h'.drop mv.length).map (Option.map (impOb mv h.length))) ((mv.zip ((h'.take mv.length).map (Option.map (impOb mv h.length)))).foldl (fun h p => h.set p.1 p.2) h)
  rw [e] at this
  exact this

theorem callM {P : Program} {f : Nat} {args args' : List AV} {v : AV} {hh h' : List (Option Ob)} {K : AV → List (Option Ob) → Prop} (mv : List Nat) (e1 : NrmE (expL mv (hp h) args = args')) (e2 : NrmE (objsOf (hp h) mv = hh))
    (hc : Con P f args' hh v h') (e3 : Nrm ((nodupB mv && someB hh) = true)) (hl : Nrm (mv.length ≤ h'.length)) (hK : Nrm (K (imp mv h.length v) (backN h mv h.length h'))) : CallD P f args h (.mk K) := by
  have e4 := Bool.and_eq_true _ _ ▸ e3
  subst e1
  subst e2
  exact ⟨mv, v, h', nodupB_spec e4.1, someB_hid e4.2, hl, hc, by rw [backN_eq]; exact hK⟩

theorem callN {P : Program} {f : Nat} {args args' : List AV} {v : AV} {h' : List (Option Ob)} {K : AV → List (Option Ob) → Prop} (e1 : NrmE (expL [] (hp h) args = args')) (hc : Con P f args' [] v h')
    (hK : Nrm (K (imp [] h.length v) (h ++ h'.map (Option.map (impOb [] h.length))))) : CallD P f args h (.mk K) :=
  callM [] e1 rfl hc rfl (Nat.zero_le _) hK

theorem callRM {P : Program} {f : Nat} {args args' : List AV} {v : AV} {hh h' : List (Option Ob)} {d : Option Nat} {s rm : Nat} {K : Dr → St → Prop} (rd mv : List Nat) (e1 : NrmE (expL mv (hpr rd h) args = args')) (e2 : NrmE (objsOf (hpr rd h) mv = hh))
    (hc : Con P f args' hh v h') (e3 : Nrm ((nodupB mv && someB hh) = true)) (hl : Nrm (mv.length ≤ h'.length ∧ h'.length ≤ mv.length + rm)) (hK : Nrm (K ⟨s, rm, rd, mv⟩ ⟨putT t d (imp mv s v), backH h mv s h'⟩)) : CallR P f args d t h s rm (.mk K) := by
  have e4 := Bool.and_eq_true _ _ ▸ e3
  subst e1
  subst e2
  exact ⟨rd, mv, v, h', nodupB_spec e4.1, someB_hid e4.2, hl.1, hl.2, hc, hK⟩

theorem callRN {P : Program} {f : Nat} {args args' : List AV} {v : AV} {h' : List (Option Ob)} {d : Option Nat} {s rm : Nat} {K : Dr → St → Prop} (rd : List Nat) (e1 : NrmE (expL [] (hpr rd h) args = args'))
    (hc : Con P f args' [] v h') (hl : Nrm (0 ≤ h'.length ∧ h'.length ≤ 0 + rm)) (hK : Nrm (K ⟨s, rm, rd, []⟩ ⟨putT t d (imp [] s v), backH h [] s h'⟩)) : CallR P f args d t h s rm (.mk K) :=
  callRM rd [] e1 rfl hc rfl hl hK

theorem callX {α : Type} {P : Program} {f : Nat} {args args' : List AV} {φ : α → Prop} {V : α → AV} {hh : List (Option Ob)} {H : α → List (Option Ob)} {K : AV → List (Option Ob) → Prop} (mv : List Nat) (e1 : NrmE (expL mv (hp h) args = args'))
    (e2 : NrmE (objsOf (hp h) mv = hh)) (hex : ∃ a : α, φ a ∧ Con P f args' hh (V a) (H a)) (e3 : Nrm ((nodupB mv && someB hh) = true)) (hl : ∀ a, Nrm (mv.length ≤ (H a).length))
    (hK : ∀ a, φ a → Nrm (K (imp mv h.length (V a)) (backN h mv h.length (H a)))) : CallD P f args h (.mk K) := by
  obtain ⟨a, h1, h2⟩ := hex
  exact callM mv e1 e2 h2 e3 (hl a) (hK a h1)

theorem callRX {α : Type} {P : Program} {f : Nat} {args args' : List AV} {φ : α → Prop} {V : α → AV} {hh : List (Option Ob)} {H : α → List (Option Ob)} {d : Option Nat} {s rm : Nat} {K : Dr → St → Prop} (rd mv : List Nat) (e1 : NrmE (expL mv (hpr rd h) args = args'))
    (e2 : NrmE (objsOf (hpr rd h) mv = hh)) (hex : ∃ a : α, φ a ∧ Con P f args' hh (V a) (H a)) (e3 : Nrm ((nodupB mv && someB hh) = true)) (hl : ∀ a, Nrm (mv.length ≤ (H a).length ∧ (H a).length ≤ mv.length + rm))
    (hK : ∀ a, φ a → Nrm (K ⟨s, rm, rd, mv⟩ ⟨putT t d (imp mv s (V a)), backH h mv s (H a)⟩)) : CallR P f args d t h s rm (.mk K) := by
  obtain ⟨a, h1, h2⟩ := hex
  exact callRM rd mv e1 e2 h2 e3 (hl a) (hK a h1)

theorem hpr_eq (rd : List Nat) (id : Nat) : hpr rd h id = if rd.elem id then hp h id else none := rfl
theorem wrap_u64 {x : Int} (h0 : 0 ≤ x) (h1 : x < 18446744073709551616) : IntKind.u64.wrap x = x := by
  simp [IntKind.wrap, IntKind.bits, IntKind.signed]
  omega
theorem isNilS_tmp (n : Nat) : isNilS (.tmp n) = false := rfl
theorem isNilS_int (k : IntKind) (n : Int) : isNilS (.const (.int k n)) = false := rfl
theorem isNilS_bool (b : Bool) : isNilS (.const (.bool b)) = false := rfl
theorem isNilS_str (s : ByteArray) : isNilS (.const (.string s)) = false := rfl
theorem isNilS_nil : isNilS (.const (.slice none 0 0)) = true := rfl

theorem exp_v (mv : List Nat) (H : Nat → Option Ob) (x : Value) : exp mv H (.v x) = .v x := rfl
theorem exp_u (mv : List Nat) (H : Nat → Option Ob) : exp mv H .u = .u := rfl
theorem exp_nl (mv : List Nat) (H : Nat → Option Ob) : exp mv H .nl = .nl := rfl
theorem exp_bor (mv : List Nat) (H : Nat → Option Ob) (i : Bool) (es : List (List AV)) : exp mv H (.bor i es) = .bor i es := rfl
theorem exp_pb (mv : List Nat) (H : Nat → Option Ob) (cs : List AV) (f : Nat) : exp mv H (.pb cs f) = .pb cs f := rfl
theorem exp_agg (mv : List Nat) (H : Nat → Option Ob) (cs : List AV) : exp mv H (.agg cs) = .agg (expL mv H cs) := by rw [exp]
theorem exp_fn (mv : List Nat) (H : Nat → Option Ob) (f : Nat) (cs : List AV) : exp mv H (.fn f cs) = .fn f (expL mv H cs) := by rw [exp]
theorem exp_sl (mv : List Nat) (H : Nat → Option Ob) (id off len : Nat) : exp mv H (.sl id off len) = (match pos mv id with
    | some j => .sl j off len
    | none => match H id with
      | some ob => if ob.flat then .bor false ((ob.es.drop off).take len) else .bor false (((ob.es.drop off).take len).map (·.map (expc mv H)))
      | none => .u) := by rw [exp]; rfl
theorem exp_p (mv : List Nat) (H : Nat → Option Ob) (id i f : Nat) : exp mv H (.p id i f) = (match pos mv id with
    | some j => .p j i f
    | none => match H id with
      | some ob => match ob.es[i]? with
        | some cs => .pb (cs.map (expc mv H)) f
        | none => .u
      | none => .u) := by rw [exp]; rfl
theorem expL_nil (mv : List Nat) (H : Nat → Option Ob) : expL mv H [] = [] := by rw [expL]
theorem expL_cons (mv : List Nat) (H : Nat → Option Ob) (x : AV) (xs : List AV) : expL mv H (x :: xs) = exp mv H x :: expL mv H xs := by rw [expL]
theorem expc_v (mv : List Nat) (H : Nat → Option Ob) (x : Value) : expc mv H (.v x) = .v x := rfl
theorem expc_u (mv : List Nat) (H : Nat → Option Ob) : expc mv H .u = .u := rfl
theorem expc_nl (mv : List Nat) (H : Nat → Option Ob) : expc mv H .nl = .nl := rfl
theorem expc_bor (mv : List Nat) (H : Nat → Option Ob) (i : Bool) (es : List (List AV)) : expc mv H (.bor i es) = .bor i es := rfl
theorem expc_sl (mv : List Nat) (H : Nat → Option Ob) (id off len : Nat) : expc mv H (.sl id off len) = (match pos mv id with
    | some _ => .u
    | none => match H id with
      | some ob => if ob.flat then .bor false ((ob.es.drop off).take len) else .bor false (((ob.es.drop off).take len).map (·.map (expf mv H)))
      | none => .u) := rfl
theorem expOb_eq (mv : List Nat) (H : Nat → Option Ob) (es : List (List AV)) (sz : Nat) (fl : Bool) : expOb mv H { es := es, sz := sz, flat := fl } = if fl then { es := es, sz := sz, flat := fl } else { es := es.map (expL mv H), sz := sz, flat := fl } := rfl
theorem objsOf_nil (H : Nat → Option Ob) : objsOf H [] = [] := rfl
theorem objsOf_cons (H : Nat → Option Ob) (i : Nat) (mv : List Nat) : objsOf H (i :: mv) = (H i).map (expOb (i :: mv) H) :: mv.map fun id => (H id).map (expOb (i :: mv) H) := rfl
theorem imp_nl (mv : List Nat) (s : Nat) : imp mv s .nl = .nl := rfl
theorem imp_u (mv : List Nat) (s : Nat) : imp mv s .u = .u := rfl
theorem imp_sl (mv : List Nat) (s j off len : Nat) : imp mv s (.sl j off len) = .sl (ren mv s j) off len := rfl
theorem imp_p (mv : List Nat) (s j i f : Nat) : imp mv s (.p j i f) = .p (ren mv s j) i f := rfl
theorem imp_borT (mv : List Nat) (s : Nat) (es : List (List AV)) : imp mv s (.bor true es) = .bor true es := rfl
theorem imp_borF (mv : List Nat) (s : Nat) (es : List (List AV)) : imp mv s (.bor false es) = .u := rfl
theorem imp_agg (mv : List Nat) (s : Nat) (cs : List AV) : imp mv s (.agg cs) = .agg (impL mv s cs) := by rw [imp]
theorem imp_tup (mv : List Nat) (s : Nat) (cs : List AV) : imp mv s (.tup cs) = .tup (impL mv s cs) := by rw [imp]
theorem impL_nil (mv : List Nat) (s : Nat) : impL mv s [] = [] := by rw [impL]
theorem impL_cons (mv : List Nat) (s : Nat) (x : AV) (xs : List AV) : impL mv s (x :: xs) = imp mv s x :: impL mv s xs := by rw [impL]
theorem impOb_eq (mv : List Nat) (s : Nat) (es : List (List AV)) (sz : Nat) (fl : Bool) : impOb mv s { es := es, sz := sz, flat := fl } = if fl then { es := es, sz := sz, flat := fl } else { es := es.map (impL mv s), sz := sz, flat := fl } := rfl
theorem wkV_nl (ids : List Nat) : wkV ids .nl = .nl := rfl
theorem wkV_u (ids : List Nat) : wkV ids .u = .u := rfl
theorem wkV_bor (ids : List Nat) (i : Bool) (es : List (List AV)) : wkV ids (.bor i es) = .bor i es := rfl
theorem wkV_pb (ids : List Nat) (cs : List AV) (f : Nat) : wkV ids (.pb cs f) = .pb cs f := rfl
theorem wkV_sl (ids : List Nat) (id off len : Nat) : wkV ids (.sl id off len) = (match pos ids id with
    | some j => .sl j off len
    | none => .u) := rfl
theorem wkV_p (ids : List Nat) (id i f : Nat) : wkV ids (.p id i f) = (match pos ids id with
    | some j => .p j i f
    | none => .u) := rfl
theorem wkV_agg (ids : List Nat) (cs : List AV) : wkV ids (.agg cs) = .agg (wkL ids cs) := by rw [wkV]
theorem wkV_tup (ids : List Nat) (cs : List AV) : wkV ids (.tup cs) = .tup (wkL ids cs) := by rw [wkV]
theorem wkV_fn (ids : List Nat) (f : Nat) (cs : List AV) : wkV ids (.fn f cs) = .fn f (wkL ids cs) := by rw [wkV]
theorem wkL_nil (ids : List Nat) : wkL ids [] = [] := by rw [wkL]
theorem wkL_cons (ids : List Nat) (x : AV) (xs : List AV) : wkL ids (x :: xs) = wkV ids x :: wkL ids xs := by rw [wkL]
theorem wkOb_eq (ids : List Nat) (es : List (List AV)) (sz : Nat) (fl : Bool) : wkOb ids { es := es, sz := sz, flat := fl } = if fl then { es := es, sz := sz, flat := fl } else { es := es.map (wkL ids), sz := sz, flat := fl } := rfl
theorem wkH_nil' : wkH [] h = [] := rfl
theorem wkH_cons (i : Nat) (ids : List Nat) : wkH (i :: ids) h = (hp h i).map (wkOb (i :: ids)) :: ids.map fun id => (hp h id).map (wkOb (i :: ids)) := rfl
theorem fgt_t (ks : List Bool) (x : AV) (xs : List AV) : fgt (true :: ks) (x :: xs) = x :: fgt ks xs := rfl
theorem fgt_f (ks : List Bool) (x : AV) (xs : List AV) : fgt (false :: ks) (x :: xs) = .u :: fgt ks xs := rfl
theorem fgt_nil (xs : List AV) : fgt [] xs = [] := by cases xs <;> rfl
theorem pos_nil (i : Nat) : pos [] i = none := rfl
theorem pos_cons (x : Nat) (xs : List Nat) (i : Nat) : pos (x :: xs) i = if x = i then some 0 else match pos xs i with
    | some j => some (j + 1)
    | none => none := rfl
theorem slotOf_eq (kc n cur : Nat) (o : Oper) : slotOf kc n cur o = if roomOf kc o = 0 then n else cur := rfl
theorem rooms_nil (kc : Nat) : rooms kc [] = 0 := rfl
theorem rooms_cons (kc : Nat) (o : Oper) (l : List Oper) : rooms kc (o :: l) = roomOf kc o + rooms kc l := rfl
theorem cvs_nil : cvs [] S = S := rfl
theorem cvs_cons (p : Pl × Cv) (ps : List (Pl × Cv)) : cvs (p :: ps) S = cvs ps (cv1 p S) := rfl
theorem mod_zero {α : Type} (f : α → α) (x : α) (xs : List α) : mod f (x :: xs) 0 = f x :: xs := rfl
theorem mod_succ {α : Type} (f : α → α) (x : α) (xs : List α) (k : Nat) : mod f (x :: xs) (k + 1) = x :: mod f xs k := rfl
theorem cv1_slot (k : Nat) (c : Cv) : cv1 (.slot k, c) ⟨t, h⟩ = ⟨mod (cvV c h.length) t k, cvH c h⟩ := rfl
theorem cv1_comp (k j : Nat) (c : Cv) : cv1 (.comp k j, c) ⟨t, h⟩ = ⟨mod (cvC c h.length j) t k, cvH c h⟩ := rfl
theorem cv1_cell (id i j : Nat) (c : Cv) : cv1 (.cell id i j, c) ⟨t, h⟩ = ⟨t, mod (Option.map (cvOb c h.length i j)) (cvH c h) id⟩ := rfl
theorem cvH_virt (sz : Nat) (fl : Bool) : cvH (.virt sz fl) h = h ++ [some { es := [], sz := sz, flat := fl }] := rfl
theorem cvH_bor (i : Bool) : cvH (.bor i) h = h := rfl
theorem cvH_bf : cvH .bf h = h := rfl
theorem cvV_virt (sz : Nat) (fl : Bool) (n : Nat) : cvV (.virt sz fl) n .nl = .sl n 0 0 := rfl
theorem cvV_virt' (sz : Nat) (fl : Bool) (n id off len : Nat) : cvV (.virt sz fl) n (.sl id off len) = .sl id off len := rfl
theorem cvV_bor (i : Bool) (n : Nat) : cvV (.bor i) n .nl = .bor i [] := rfl
theorem cvV_bf (n : Nat) (es : List (List AV)) : cvV .bf n (.bor true es) = .bor false es := rfl
theorem cvC_agg (c : Cv) (n j : Nat) (cs : List AV) : cvC c n j (.agg cs) = .agg (mod (cvV c n) cs j) := rfl
theorem cvC_tup (c : Cv) (n j : Nat) (cs : List AV) : cvC c n j (.tup cs) = .tup (mod (cvV c n) cs j) := rfl
theorem cvOb_eq (c : Cv) (n i j : Nat) (es : List (List AV)) (sz : Nat) (fl : Bool) : cvOb c n i j { es := es, sz := sz, flat := fl } = if fl then { es := es, sz := sz, flat := fl } else { es := mod (fun e => mod (cvV c n) e j) es i, sz := sz, flat := fl } := rfl
theorem weak_eq (ids : List Nat) (mask : List Bool) : weak ids mask ⟨t, h⟩ = ⟨wkL ids (fgt mask t), wkH ids h⟩ := rfl
theorem take_map {α β : Type} (f : α → β) (l : List α) (n : Nat) (hn : n = l.length) : (l.map f).take n = l.map f := by rw [List.take_of_length_le (by simp [hn])]
theorem encI_take (k : IntKind) (xs : List Int) : (encI k xs).take xs.length = encI k xs := by rw [List.take_of_length_le (by simp [encI])]
/-- A cell that is one number. -/
def cI (k : IntKind) (n : Int) : List AV := [.v (.int k n)]
theorem encI_map (k : IntKind) (xs : List Int) : encI k xs = xs.map (cI k) := rfl
theorem getD_map {α : Type} [Inhabited α] (f : α → List AV) (xs : List α) (j : Nat) (hj : j < xs.length) : (xs.map f).getD j [] = f (xs.getD j default) := by
  simp [List.getD_eq_getElem?_getD, hj]
theorem getElem?_map' {α : Type} [Inhabited α] (f : α → List AV) (xs : List α) (j : Nat) (hj : j < xs.length) : (xs.map f)[j]? = some (f (xs.getD j default)) := by
  simp [List.getD_eq_getElem?_getD, hj]
theorem take_map' {α : Type} (f : α → List AV) (xs : List α) (n : Nat) : (xs.map f).take n = (xs.take n).map f := by simp
theorem drop_map' {α : Type} (f : α → List AV) (xs : List α) (n : Nat) : (xs.map f).drop n = (xs.drop n).map f := by simp
theorem int_default : (default : Int) = 0 := rfl
theorem set_map {α : Type} (f : α → List AV) (xs : List α) (j : Nat) (y : List AV) (x : α) (h : f x = y) : (xs.map f).set j y = (xs.set j x).map f := by subst h; simp
theorem app_map {α : Type} (f : α → List AV) (xs : List α) (y : List AV) (x : α) (h : f x = y) : xs.map f ++ [y] = (xs ++ [x]).map f := by subst h; simp
theorem rep_map {α : Type} (f : α → List AV) (n : Nat) (y : List AV) (x : α) (h : f x = y) : List.replicate n y = (List.replicate n x).map f := by subst h; simp
/-- Every cell is one that may lie there. -/
theorem all_map {α : Type} (f : α → List AV) (xs : List α) (p : List AV → Prop) (h : ∀ x, p (f x)) : (∀ e, e ∈ xs.map f → p e) = True := by simp [h]
theorem all_true {α : Type} (xs : List α) : xs.all (fun _ => true) = true := by simp
theorem bin_agg_eql (T : Nat) (xs ys : List AV) : bin C .eql T (.agg xs) (.agg ys) = match (C.ti T).eqs, eqCells xs ys with
    | true, some r => retp (xs.length = (C.ti T).size) (.v (.bool r))
    | _, _ => none := by simp only [bin]; split <;> simp_all
theorem bin_agg_neq (T : Nat) (xs ys : List AV) : bin C .neq T (.agg xs) (.agg ys) = match (C.ti T).eqs, eqCells xs ys with
    | true, some r => retp (xs.length = (C.ti T).size) (.v (.bool (!r)))
    | _, _ => none := by simp only [bin]; split <;> simp_all
theorem bin_bool_eql (T : Nat) (a b : Bool) : bin C .eql T (.v (.bool a)) (.v (.bool b)) = match (C.ti T).k with
    | .bool => ret (.v (.bool (a == b)))
    | _ => none := by simp only [bin]; split <;> simp_all
theorem bin_bool_neq (T : Nat) (a b : Bool) : bin C .neq T (.v (.bool a)) (.v (.bool b)) = match (C.ti T).k with
    | .bool => ret (.v (.bool (!(a == b))))
    | _ => none := by simp only [bin]; split <;> simp_all
theorem bin_str (op : BinOp) (T : Nat) (a b : ByteArray) : bin C op T (.v (.string a)) (.v (.string b)) = strBin op a b := by
  cases op <;> rfl
theorem set_skip8 {α : Type} (a0 a1 a2 a3 a4 a5 a6 a7 x : α) (r : List α) (n : Nat) : (a0 :: a1 :: a2 :: a3 :: a4 :: a5 :: a6 :: a7 :: r).set (n + 8) x = a0 :: a1 :: a2 :: a3 :: a4 :: a5 :: a6 :: a7 :: r.set n x := rfl
theorem getD_skip8 {α : Type} (a0 a1 a2 a3 a4 a5 a6 a7 x : α) (r : List α) (n : Nat) : (a0 :: a1 :: a2 :: a3 :: a4 :: a5 :: a6 :: a7 :: r).getD (n + 8) x = r.getD n x := rfl
theorem set_skip24 {α : Type} (a0 a1 a2 a3 a4 a5 a6 a7 a8 a9 a10 a11 a12 a13 a14 a15 a16 a17 a18 a19 a20 a21 a22 a23 x : α) (r : List α) (n : Nat) : (a0 :: a1 :: a2 :: a3 :: a4 :: a5 :: a6 :: a7 :: a8 :: a9 :: a10 :: a11 :: a12 :: a13 :: a14 :: a15 :: a16 :: a17 :: a18 :: a19 :: a20 :: a21 :: a22 :: a23 :: r).set (n + 24) x = a0 :: a1 :: a2 :: a3 :: a4 :: a5 :: a6 :: a7 :: a8 :: a9 :: a10 :: a11 :: a12 :: a13 :: a14 :: a15 :: a16 :: a17 :: a18 :: a19 :: a20 :: a21 :: a22 :: a23 :: r.set n x := rfl
theorem getD_skip24 {α : Type} (a0 a1 a2 a3 a4 a5 a6 a7 a8 a9 a10 a11 a12 a13 a14 a15 a16 a17 a18 a19 a20 a21 a22 a23 x : α) (r : List α) (n : Nat) : (a0 :: a1 :: a2 :: a3 :: a4 :: a5 :: a6 :: a7 :: a8 :: a9 :: a10 :: a11 :: a12 :: a13 :: a14 :: a15 :: a16 :: a17 :: a18 :: a19 :: a20 :: a21 :: a22 :: a23 :: r).getD (n + 24) x = r.getD n x := rfl
theorem set_cI (k : IntKind) (xs : List Int) (j : Nat) (n : Int) : (xs.map (cI k)).set j [.v (.int k n)] = (xs.set j n).map (cI k) := set_map _ _ _ _ _ rfl
theorem app_cI (k : IntKind) (xs : List Int) (n : Int) : xs.map (cI k) ++ [[.v (.int k n)]] = (xs ++ [n]).map (cI k) := app_map _ _ _ _ rfl
theorem rep_cI (k : IntKind) (n : Nat) (x : Int) : List.replicate n [.v (.int k x)] = (List.replicate n x).map (cI k) := rep_map _ _ _ _ rfl
theorem appmap {α : Type} (f : α → List AV) (xs ys : List α) : xs.map f ++ ys.map f = (xs ++ ys).map f := by simp
theorem beq_true' (b : Bool) : (b == true) = b := by cases b <;> rfl
theorem beq_false' (b : Bool) : (b == false) = !b := by cases b <;> rfl
theorem true_beq' (b : Bool) : (true == b) = b := by cases b <;> rfl
theorem false_beq' (b : Bool) : (false == b) = !b := by cases b <;> rfl
theorem lit1 (k : IntKind) (a : Int) : [[.v (.int k a)]] = [a].map (cI k) := rfl
theorem litC (k : IntKind) (a : Int) (xs : List Int) : [.v (.int k a)] :: xs.map (cI k) = (a :: xs).map (cI k) := rfl
theorem undef_eq : undef = .tuple #[] := rfl
theorem nat_dec_true {p : Prop} [Decidable p] : (decide p = true) = p := by simp
theorem lenle {α β : Type} {a : List α} {b : List β} (h : a.length ≤ b.length) : a.length ≤ b.length := h

end

attribute [go_sem] hpr_eq isNilS_tmp isNilS_int isNilS_bool isNilS_str isNilS_nil nilCmp idOf grT isRefZ List.any_cons List.any_nil Bool.or_true Bool.or_false Bool.true_or Bool.false_or Bool.and_false Bool.false_and Bool.false_eq_true Bool.true_eq_false
attribute [go_sem] exp_v exp_u exp_nl exp_bor exp_pb exp_agg exp_fn exp_sl exp_p expL_nil expL_cons expc_v expc_u expc_nl expc_bor expc_sl expOb_eq objsOf_nil objsOf_cons
attribute [go_sem] imp_nl imp_u imp_sl imp_p imp_borT imp_borF imp_agg imp_tup impL_nil impL_cons impOb_eq ren
attribute [go_sem] wkV_v wkV_nl wkV_u wkV_bor wkV_pb wkV_sl wkV_p wkV_agg wkV_tup wkV_fn wkL_nil wkL_cons wkOb_eq wkH_nil' wkH_cons fgt_t fgt_f fgt_nil pos_nil pos_cons
attribute [go_sem] slotOf_eq roomOf rooms_nil rooms_cons cvs_nil cvs_cons mod_zero mod_succ cv1_slot cv1_comp cv1_cell cvH_virt cvH_bor cvH_bf cvV_virt cvV_virt' cvV_bor cvV_bf cvC_agg cvC_tup cvOb_eq weak_eq
attribute [go_sem] backN backH putAll List.zip_cons_cons List.zip_nil_left List.foldl_cons List.foldl_nil List.take_length List.append_nil List.drop_length List.drop_nil List.replicate Int.toNat_natCast if_true if_false ite_true ite_false
attribute [go_sem high] set_skip8 getD_skip8
attribute [go_sem 20000] set_skip24 getD_skip24
attribute [go_sem] Nat.add_zero bound opInt beq_true' beq_false' true_beq' false_beq' decide_true decide_false nodupB someB set_cI app_cI rep_cI appmap Nat.zero_add bin_agg_eql bin_agg_neq bin_bool_eql bin_bool_neq bin_str strBin eqCells undef_eq List.forall_mem_map implies_true List.all_map Function.comp_def all_true getD_map getElem?_map' take_map' drop_map' List.length_map int_default List.length_append List.length_set List.length_replicate cI List.isEmpty_nil List.isEmpty_cons evAppend rdSlice rdFlat Bool.not_eq_eq_eq_not Bool.and_eq_true Bool.or_eq_true Bool.or_eq_false_iff Bool.and_eq_false_iff not_true_eq_false not_false_eq_true
attribute [go_sem] List.getElem?_nil Option.map_some Option.map_none List.elem_cons List.elem_nil beq_self_eq_true


end Am

/- Runs whose results are not told beforehand: there is a way on which the code goes, whatever the world. -/
namespace Am
open Go

/-- From state S the code comes to an end e in state S'. -/
def Runs (C : Cx) (m : Nat) (c : Code) (S : St) (e : AE) (S' : St) : Prop := ∀ Q : AE → St → Prop, Q e S' → Beh C m c Q S

/-- There is an end of the code, and it meets the postcondition. -/
def Bex (C : Cx) (m : Nat) (c : Code) (Φ : AE → St → Prop) (S : St) : Prop := ∃ (e : AE) (S' : St), Φ e S' ∧ Runs C m c S e S'

structure KtE (C : Cx) (m : Nat) (y : Code) (Φ : AE → St → Prop) where
  f : St → Prop
  h : ∀ S, Bex C m y Φ S → f S
section
variable {C : Cx} {m : Nat} {Φ : AE → St → Prop} {S : St} {gr : Nat → Bool} {ops : Array Oper} {t : List AV} {h : List (Option Ob)}

theorem kt_e {y : Code} (K : KtE C m y Φ) (hy : Bex C m y Φ S) : K.f S := K.h S hy
theorem retE (h : Nrm (Φ .ret S)) : Bex C m .ret Φ S := ⟨.ret, S, h, fun _ hq => sem_ret hq⟩
theorem skipE (h : Nrm (Φ .normal S)) : Bex C m .skip Φ S := ⟨.normal, S, h, fun _ hq => sem_skip hq⟩
theorem exitE {id : Nat} (h : Nrm (Φ (.exit id) S)) : Bex C m (.exit id) Φ S := ⟨.exit id, S, h, fun _ hq => sem_exit hq⟩

theorem seqE {x y : Code} (h : ∀ K : KtE C m y Φ, Bex C m x (thenQ K.f Φ) S) : Bex C m (.seq x y) Φ S := by
  obtain ⟨e, S1, h1, h2⟩ := h ⟨fun S => Bex C m y Φ S, fun _ h => h⟩
  cases e with
  | normal =>
    obtain ⟨e2, S2, h3, h4⟩ : Bex C m y Φ S1 := h1
    exact ⟨e2, S2, h3, fun Q hQ => sem_seq fun K hK => h2 _ (by show K S1; exact hK S1 (h4 Q hQ))⟩
  | exit id => exact ⟨.exit id, S1, h1, fun Q hQ => sem_seq fun K hK => h2 _ hQ⟩
  | ret => exact ⟨.ret, S1, h1, fun Q hQ => sem_seq fun K hK => h2 _ hQ⟩

theorem blockE {id : Nat} {c : Code} (h : Bex C m c (blockQ id Φ) S) : Bex C m (.block id c) Φ S := by
  obtain ⟨e, S1, h1, h2⟩ := h
  cases e with
  | normal => exact ⟨.normal, S1, h1, fun Q hQ => sem_block (h2 _ hQ)⟩
  | ret => exact ⟨.ret, S1, h1, fun Q hQ => sem_block (h2 _ hQ)⟩
  | exit id' =>
    simp only [blockQ] at h1
    by_cases hid : id' = id
    · rw [if_pos hid] at h1
      exact ⟨.normal, S1, h1, fun Q hQ => sem_block (h2 _ (by simp only [blockQ]; rw [if_pos hid]; exact hQ))⟩
    · rw [if_neg hid] at h1
      exact ⟨.exit id', S1, h1, fun Q hQ => sem_block (h2 _ (by simp only [blockQ]; rw [if_neg hid]; exact hQ))⟩

theorem does_det {o : Oper} {K : AV → List (Option Ob) → Prop} (hd : Does C gr S o K) : ∃ v h', K v h' ∧ ∀ K' : AV → List (Option Ob) → Prop, K' v h' → Does C gr S o K' := by
  unfold Does at hd
  split at hd
  · rename_i c x hcal
    split at hd
    · rename_i f caps hx
      obtain ⟨mv, v, h', h1, h2, h3, h4, h5⟩ := hd
      refine ⟨_, _, h5, fun K' hK' => ?_⟩
      unfold Does
      rw [hcal]
      simp only [hx]
      exact ⟨mv, v, h', h1, h2, h3, h4, hK'⟩
    · exact hd.elim
  · rename_i hcal
    split at hd
    · rename_i p e he
      refine ⟨_, _, hd.2, fun K' hK' => ?_⟩
      unfold Does
      rw [hcal]
      simp only [he]
      exact ⟨hd.1, hK'⟩
    · exact hd.elim

theorem aops_det : ∀ (l : List Oper) (S : St) (K : St → Prop), aops C gr ops l S K → ∃ S', K S' ∧ ∀ K' : St → Prop, K' S' → aops C gr ops l S K'
  | [], S, K, h => ⟨S, h, fun _ h => h⟩
  | o :: rest, S, K, h => by
    unfold aops at h
    split at h
    · rename_i hg
      obtain ⟨v, h', h1, h2⟩ := does_det h
      obtain ⟨S', h3, h4⟩ := aops_det rest _ K h1
      refine ⟨S', h3, fun K' hK' => ?_⟩
      unfold aops
      rw [hg]
      exact h2 _ (h4 K' hK')
    · rename_i j want hg
      split at h
      case h_2 => exact h.elim
      rename_i d hd
      split at h
      case h_3 => exact h.elim
      case h_2 =>
        rename_i xs hb
        obtain ⟨S', h3, h4⟩ := aops_det rest _ K h
        refine ⟨S', h3, fun K' hK' => ?_⟩
        unfold aops
        rw [hg]
        simp only [hd, hb]
        exact h4 K' hK'
      rename_i b hb
      by_cases hbw : b = want
      · obtain ⟨v, h', h1, h2⟩ := does_det (h.1 hbw)
        obtain ⟨S', h3, h4⟩ := aops_det rest _ K h1
        refine ⟨S', h3, fun K' hK' => ?_⟩
        unfold aops
        rw [hg]
        simp only [hd, hb]
        exact ⟨fun _ => h2 _ (h4 K' hK'), fun hc => by rw [hbw] at hc; cases want <;> cases hc⟩
      · have hbn : b = !want := by cases b <;> cases want <;> simp_all
        obtain ⟨S', h3, h4⟩ := aops_det rest _ K (h.2 hbn)
        refine ⟨S', h3, fun K' hK' => ?_⟩
        unfold aops
        rw [hg]
        simp only [hd, hb]
        exact ⟨fun hc => absurd hc hbw, fun _ => h4 K' hK'⟩

theorem ddo_det {o : Oper} {s rm : Nat} {K : Dr → St → Prop} (hd : DDo C gr S o s rm K) : ∃ D S', K D S' ∧ ∀ K' : Dr → St → Prop, K' D S' → DDo C gr S o s rm K' := by
  unfold DDo at hd
  split at hd
  · rename_i c x hcal
    split at hd
    · rename_i f caps hx
      obtain ⟨rd, mv, v, h', h1, h2, h3, h3', h4, h5⟩ := hd
      refine ⟨_, _, h5, fun K' hK' => ?_⟩
      unfold DDo
      rw [hcal]
      simp only [hx]
      exact ⟨rd, mv, v, h', h1, h2, h3, h3', h4, hK'⟩
    · exact hd.elim
  · rename_i hcal
    split at hd
    · rename_i p e he
      refine ⟨_, _, hd.2.2, fun K' hK' => ?_⟩
      unfold DDo
      rw [hcal]
      simp only [he]
      exact ⟨hd.1, hd.2.1, hK'⟩
    · exact hd.elim

theorem dRun_det {kc lo n : Nat} : ∀ (l : List Oper) (cur : Nat) (acc : List Dr) (S : St) (K : St → Prop), dRun C gr ops kc lo n l cur acc S K → ∃ S', K S' ∧ ∀ K' : St → Prop, K' S' → dRun C gr ops kc lo n l cur acc S K'
  | [], cur, acc, S, K, h => ⟨S, h.2, fun _ h' => ⟨h.1, h'⟩⟩
  | o :: rest, cur, acc, S, K, h => by
    unfold dRun at h
    split at h
    · rename_i hg
      obtain ⟨D, S1, h1, h2⟩ := ddo_det h
      obtain ⟨S', h3, h4⟩ := dRun_det rest _ _ _ K h1
      refine ⟨S', h3, fun K' hK' => ?_⟩
      unfold dRun
      rw [hg]
      exact h2 _ (h4 K' hK')
    · rename_i j want hg
      split at h
      case h_2 => exact h.elim
      rename_i d hd
      split at h
      case h_3 => exact h.elim
      case h_2 =>
        rename_i xs hb
        obtain ⟨S', h3, h4⟩ := dRun_det rest _ _ _ K h
        refine ⟨S', h3, fun K' hK' => ?_⟩
        unfold dRun
        rw [hg]
        simp only [hd, hb]
        exact h4 K' hK'
      rename_i b hb
      by_cases hbw : b = want
      · obtain ⟨D, S1, h1, h2⟩ := ddo_det (h.1 hbw)
        obtain ⟨S', h3, h4⟩ := dRun_det rest _ _ _ K h1
        refine ⟨S', h3, fun K' hK' => ?_⟩
        unfold dRun
        rw [hg]
        simp only [hd, hb]
        exact ⟨fun _ => h2 _ (h4 K' hK'), fun hc => by rw [hbw] at hc; cases want <;> cases hc⟩
      · have hbn : b = !want := by cases b <;> cases want <;> simp_all
        obtain ⟨S', h3, h4⟩ := dRun_det rest _ _ _ K (h.2 hbn)
        refine ⟨S', h3, fun K' hK' => ?_⟩
        unfold dRun
        rw [hg]
        simp only [hd, hb]
        exact ⟨fun hc => absurd hc hbw, fun _ => h4 K' hK'⟩

theorem regionE (ok : CxOk C) {id : Nat} (h : Nrm (aops C (grT C) ops ops.toList S (Φ .normal))) : Bex C m (.region id ops false) Φ S := by
  obtain ⟨S', h1, h2⟩ := aops_det _ _ _ h
  exact ⟨.normal, S', h1, fun Q hQ => sem_region ok _ (h2 _ hQ)⟩

theorem drawE (ok : CxOk C) (kc : Nat) {id : Nat} (hr : Nrm (dRun C (grT C) ops kc h.length (h.length + rooms kc ops.toList) ops.toList h.length [] ⟨t, h ++ List.replicate (rooms kc ops.toList) none⟩ (Φ .normal))) :
    Bex C m (.region id ops true) Φ ⟨t, h⟩ := by
  obtain ⟨S', h1, h2⟩ := dRun_det _ _ _ _ _ hr
  exact ⟨.normal, S', h1, fun Q hQ => sem_draw ok _ kc (h2 _ hQ)⟩

/-- A branch whose condition is to be worked out. -/
def CondE (C : Cx) (m : Nat) (v : AV) {q : Operand × Code × Code × (AE → St → Prop) × St} (_ : Tok q) : Prop := opd q.2.2.2.2.t q.1 = v → Bex C m (.cond q.1 q.2.1 q.2.2.1) q.2.2.2.1 q.2.2.2.2
theorem condE {c : Operand} {x y : Code} (hc : Nrm (CondE C m (opd S.t c) (.mk (c, x, y, Φ, S)))) : Bex C m (.cond c x y) Φ S := hc rfl
theorem condE_b {n : Nat} {x y : Code} {b : Bool} {t' t'' : List AV} (e1 : t.set n (.v (.bool true)) = t') (e2 : t.set n (.v (.bool false)) = t'') (hx : b = true → Bex C m x Φ ⟨t', h⟩) (hy : b = false → Bex C m y Φ ⟨t'', h⟩) :
    CondE C m (.v (.bool b)) (.mk (.tmp n, x, y, Φ, ⟨t, h⟩)) := by
  subst e1
  subst e2
  intro e
  cases b with
  | true =>
    obtain ⟨e', S', h1, h2⟩ := hx rfl
    refine ⟨e', S', h1, fun Q hQ => sem_cond (b := true) e (fun _ => h2 Q hQ) (fun h => by cases h)⟩
  | false =>
    obtain ⟨e', S', h1, h2⟩ := hy rfl
    refine ⟨e', S', h1, fun Q hQ => sem_cond (b := false) e (fun h => by cases h) (fun _ => h2 Q hQ)⟩
theorem condE_true {n : Nat} {x y : Code} {t' : List AV} (e1 : t.set n (.v (.bool true)) = t') (hx : Bex C m x Φ ⟨t', h⟩) : CondE C m (.v (.bool true)) (.mk (.tmp n, x, y, Φ, ⟨t, h⟩)) := condE_b e1 rfl (fun _ => hx) (fun h => by cases h)
theorem condE_false {n : Nat} {x y : Code} {t' : List AV} (e1 : t.set n (.v (.bool false)) = t') (hy : Bex C m y Φ ⟨t', h⟩) : CondE C m (.v (.bool false)) (.mk (.tmp n, x, y, Φ, ⟨t, h⟩)) := condE_b rfl e1 (fun h => by cases h) (fun _ => hy)
theorem condE_p {n : Nat} {x y : Code} {p : Prop} [Decidable p] {t' t'' : List AV} (e1 : t.set n (.v (.bool true)) = t') (e2 : t.set n (.v (.bool false)) = t'') (hx : p → Bex C m x Φ ⟨t', h⟩) (hy : ¬ p → Bex C m y Φ ⟨t'', h⟩) :
    CondE C m (.v (.bool (decide p))) (.mk (.tmp n, x, y, Φ, ⟨t, h⟩)) := condE_b e1 e2 (fun h => hx (of_decide_eq_true h)) (fun h => hy (of_decide_eq_false h))
theorem condE_n {n : Nat} {x y : Code} {p : Prop} [Decidable p] {t' t'' : List AV} (e1 : t.set n (.v (.bool true)) = t') (e2 : t.set n (.v (.bool false)) = t'') (hx : ¬ p → Bex C m x Φ ⟨t', h⟩) (hy : p → Bex C m y Φ ⟨t'', h⟩) :
    CondE C m (.v (.bool (!decide p))) (.mk (.tmp n, x, y, Φ, ⟨t, h⟩)) := condE_b e1 e2 (fun h => hx (by simpa using h)) (fun h => hy (by simpa using h))

theorem bex_keep {c : Code} (ps : List (Pl × Cv)) (ids : List Nat) (mask : List Bool) (hb : idsB m ids = true) (h : Bex C m c Φ (weak ids mask (cvs ps S))) : Bex C m c Φ S := by
  obtain ⟨e, S', h1, h2⟩ := h
  exact ⟨e, S', h1, fun Q hQ => sem_keepv ps ids mask hb (h2 Q hQ)⟩

/-- The rounds of a loop. -/
inductive Chain (C : Cx) (m : Nat) (c : Code) (e : AE) (S' : St) : Nat → St → Prop where
  | last (S : St) (h : Runs C m c S e S') (he : e ≠ .normal) : Chain C m c e S' 0 S
  | step (n : Nat) (S S1 : St) (h : Runs C m c S .normal S1) (h2 : Chain C m c e S' n S1) : Chain C m c e S' (n + 1) S
  | keep (n : Nat) (S : St) (ps : List (Pl × Cv)) (ids : List Nat) (mask : List Bool) (hb : idsB m ids = true) (h : Chain C m c e S' n (weak ids mask (cvs ps S))) : Chain C m c e S' n S

theorem chain_round {c : Code} {e : AE} {S' : St} {Q : AE → St → Prop} (hQ : Q e S') {k : Nat} {S : St} (h : Chain C m c e S' k S) :
    Beh C m c (thenQ (fun S1 => ∃ n', n' < k ∧ Chain C m c e S' n' S1) Q) S := by
  induction h with
  | last S h he =>
    refine h _ ?_
    cases e with
    | normal => exact absurd rfl he
    | exit id => exact hQ
    | ret => exact hQ
  | step n S S1 h h2 ih => exact h _ ⟨n, Nat.lt_succ_self n, h2⟩
  | keep n S ps ids mask hb h ih => exact sem_keepv ps ids mask hb ih

theorem chain_runs {c : Code} {e : AE} {S' : St} {k : Nat} (h : Chain C m c e S' k S) : Runs C m (.loop c) S e S' :=
  fun _ hQ => sem_loop (fun n S => Chain C m c e S' n S) k h fun _ _ hI => chain_round hQ hI

theorem loopE {α : Type} {c : Code} (ps : List (Pl × Cv)) (ids : List Nat) (mask : List Bool) (I : α → Prop) (F : α → St → St) (μ : α → Nat) (a0 : α) {S0 : St} (hb : idsB m ids = true) (hS : weak ids mask (cvs ps S) = S0)
    (hF : F a0 S0 = S0) (hI : I a0) (round : ∀ a, I a → Bex C m c (thenQ (fun S' => ∃ a', μ a' < μ a ∧ I a' ∧ KeptF m (F a' S0) S') Φ) (F a S0)) : Bex C m (.loop c) Φ S := by
  have key : ∀ n a, μ a = n → I a → ∃ (e : AE) (S' : St) (k : Nat), Φ e S' ∧ Chain C m c e S' k (F a S0) := by
    intro n
    induction n using Nat.strongRecOn with
    | _ n ih =>
      intro a hn hI
      obtain ⟨e, S1, h1, h2⟩ := round a hI
      cases e with
      | normal =>
        obtain ⟨a', h3, h4, ps, ids, mask, h5, h6⟩ := h1
        obtain ⟨e, S', k, h7, h8⟩ := ih (μ a') (by omega) a' rfl h4
        exact ⟨e, S', k + 1, h7, .step k _ S1 h2 (.keep k S1 ps ids mask h5 (by rw [h6]; exact h8))⟩
      | exit id => exact ⟨.exit id, S1, 0, h1, .last _ h2 (by simp)⟩
      | ret => exact ⟨.ret, S1, 0, h1, .last _ h2 (by simp)⟩
  refine bex_keep ps ids mask hb ?_
  rw [hS, ← hF]
  obtain ⟨e, S', k, h1, h2⟩ := key _ a0 rfl hI
  exact ⟨e, S', h1, chain_runs h2⟩

theorem cutE {α : Type} {x y : Code} (I : α → Prop) (F : α → St) (h : Bex C m x (thenQ (fun S' => ∃ a, I a ∧ KeptF m (F a) S') Φ) S) (hy : ∀ a, I a → Bex C m y Φ (F a)) : Bex C m (.seq x y) Φ S := by
  refine seqE fun K => ?_
  obtain ⟨e, S1, h1, h2⟩ := h
  refine ⟨e, S1, ?_, h2⟩
  cases e with
  | normal =>
    obtain ⟨a, h3, ps, ids, mask, h4, h5⟩ := h1
    exact K.h S1 (bex_keep ps ids mask h4 (by rw [h5]; exact hy a h3))
  | exit id => exact h1
  | ret => exact h1

/-- What a function's code must do, its result being told by a datum of some kind. -/
def bodyE {α : Type} (C : Cx) (m : Nat) (rs : List (Nat × Option Nat)) (φ : α → Prop) (V : α → AV) (H : α → List (Option Ob)) : AE → St → Prop
  | .exit _, _ => False
  | _, S => ∃ (a : α) (ps : List (Pl × Cv)) (ids : List Nat) (x : AV), idsB m ids = true ∧ resv C (cvs ps S) rs = some x ∧ wkV ids x = V a ∧ wkH ids (cvs ps S).h = H a ∧ φ a

theorem ex_of_body {α : Type} {φ : α → Prop} {V : α → AV} {H : α → List (Option Ob)} (ok : CxOk C) {f : Nat} {fn : Func} {c : Code} {args : List AV} {h : List (Option Ob)} (rs : List (Nat × Option Nat))
    (hf : C.P.funcs[f]? = some fn) (hb : fn.body = some c) (hnm : (fn.name == "runtime.NumGoroutine") = false) (hr : fn.results = (rs.map resVar).toArray)
    (hs : Bex C h.length c (bodyE C h.length rs φ V H) ⟨args ++ List.replicate (fn.ntmps - args.length) .u, h⟩) : ∃ a, φ a ∧ Con C.P f args h (V a) (H a) := by
  obtain ⟨e, S', h1, h2⟩ := hs
  have key : (∃ (a : α) (ps : List (Pl × Cv)) (ids : List Nat) (x : AV), idsB h.length ids = true ∧ resv C (cvs ps S') rs = some x ∧ wkV ids x = V a ∧ wkH ids (cvs ps S').h = H a ∧ φ a) → (∀ v h', bodyV C h.length rs v h' e S' = ∃ (ps : List (Pl × Cv)) (ids : List Nat) (x : AV), idsB h.length ids = true ∧ resv C (cvs ps S') rs = some x ∧ wkV ids x = v ∧ wkH ids (cvs ps S').h = h') →
      ∃ a, φ a ∧ Con C.P f args h (V a) (H a) := by
    rintro ⟨a, ps, ids, x, k1, k2, k3, k4, k5⟩ hq
    exact ⟨a, k5, con_of_body ok rs hf hb hnm hr (h2 _ (by rw [hq]; exact ⟨ps, ids, x, k1, k2, k3, k4⟩))⟩
  cases e with
  | exit id => exact h1.elim
  | normal => exact key h1 (fun _ _ => rfl)
  | ret => exact key h1 (fun _ _ => rfl)

theorem bodyE_ret {α : Type} {φ : α → Prop} {V : α → AV} {H : α → List (Option Ob)} {rs : List (Nat × Option Nat)} {x : AV} (a : α) (ps : List (Pl × Cv)) (ids : List Nat) (h1 : idsB m ids = true) (h2 : resv C (cvs ps S) rs = some x) (h3 : wkV ids x = V a) (h4 : wkH ids (cvs ps S).h = H a) (h5 : φ a) :
    bodyE C m rs φ V H .ret S := ⟨a, ps, ids, x, h1, h2, h3, h4, h5⟩
theorem bodyE_end {α : Type} {φ : α → Prop} {V : α → AV} {H : α → List (Option Ob)} {rs : List (Nat × Option Nat)} {x : AV} (a : α) (ps : List (Pl × Cv)) (ids : List Nat) (h1 : idsB m ids = true) (h2 : resv C (cvs ps S) rs = some x) (h3 : wkV ids x = V a) (h4 : wkH ids (cvs ps S).h = H a) (h5 : φ a) :
    bodyE C m rs φ V H .normal S := ⟨a, ps, ids, x, h1, h2, h3, h4, h5⟩

end
end Am
