import Derived.Test.YtokpejlicanbmaaAmB
import Derived.StillTail
set_option linter.all false
/- One step of a frame: an operation, or the call of a function with a contract. -/
namespace Am
open Go

/-- A function of the program with a body. -/
def fnB (P : Program) (f : Nat) : Bool := match P.funcs[f]? with
  | some fn => fn.body.isSome && !(fn.name == "runtime.NumGoroutine")
  | none => false

def Con (P : Program) (f : Nat) (args : List AV) (h : List (Option Ob)) (v : AV) (h' : List (Option Ob)) : Prop := fnB P f = true ∧ Ctr P f args h v h'

section
variable {C : Cx} {a : Act} {o : Oper} {w : World} {ρ : List LS} {Z : Nat → Prop} {h h' : List (Option Ob)} {s : Nat} {mv : List Nat}

theorem run_callFunc {P : Program} {f : Nat} (hf : fnB P f = true) (args : Array Value) (w : World) : (callFunc f args).run P w = .ok (.enter f args) w := by
  unfold fnB at hf
  split at hf
  · rename_i fn hfn
    simp only [Bool.and_eq_true, Bool.not_eq_true'] at hf
    have h2 : fn.body.isNone = false := by
      cases hb : fn.body with
      | none => rw [hb] at hf; simp at hf
      | some c => rfl
    simp only [callFunc, program, Sem.run_bind, Sem.run, Result.andThen_ok, hfn, hf.2, h2]
    rfl
  · cases hf

theorem call_ok (r : Rel w ρ Z h) {H : Nat → Option Ob} (hH : ∀ id ob, H id = some ob → hp h id = some ob) (hid : ∀ id, id ∈ mv → ∃ ob, H id = some ob) (nd : mv.Nodup)
    (hm : mv.length ≤ h'.length) (hs : SlotOk ρ s (h'.length - mv.length)) {f : Nat} {args : List AV} {cargs : Array Value} {v : AV}
    (hc : Ctr C.P f (expL mv H args) (objsOf H mv) v h') (hl : args.length = cargs.size) (hv : ∀ (k : Nat) (x : AV), args[k]? = some x → V w ρ Z x (cargs.getD k undef)) :
    Calls C.P f cargs w fun e w' => ∃ (cv : Value) (ρ' : List LS), e = .returned cv ∧ Rel w' ρ' Z (backH h mv s h') ∧ V w' ρ' Z (imp mv s v) cv ∧ Mono w ρ w' ρ' ∧
      (∀ i : Nat, ¬ (s ≤ i ∧ i < s + (h'.length - mv.length)) → ρ[i]? = some .fresh → ρ'[i]? = some .fresh) := by
  have hid2 : ∀ id, id ∈ mv → ∃ ob, hp h id = some ob := fun id hm => (hid id hm).imp fun ob ho => hH _ _ ho
  refine (hc w (lsOf ρ mv) (zOf ρ Z mv) cargs (callee_rel r hH hid nd) (by rw [expL_length]; exact hl) fun k x hx => ?_).mono fun e w' he => ?_
  · rw [expL_get] at hx
    cases hk : args[k]? with
    | none => rw [hk] at hx; cases hx
    | some y => rw [hk] at hx; cases hx; exact exp_V r hid2 hH (hv k y hk)
  · obtain ⟨cv, ρ', he, r', hv', m'⟩ := he
    have B : Back w w' ρ ρ' Z h h' mv s := ⟨r, hid2, nd, r', m', hm, hs⟩
    exact ⟨cv, backR ρ mv s ρ', he, B.rel, B.imp_V hv', B.mono, fun i hi hf => B.fresh hi hf⟩

/-- What a step does. -/
def StepCall (C : Cx) (ρv : Operand → AV) (H : Nat → Option Ob) (s : Nat) (c : Call) (x : Operand) (e : Eff) : Prop :=
  ∃ (f : Nat) (caps : List AV) (mv : List Nat) (v : AV) (h' : List (Option Ob)), ρv x = .fn f caps ∧ mv.Nodup ∧ (∀ id, id ∈ mv → ∃ ob, H id = some ob) ∧ mv.length ≤ h'.length ∧
    Con C.P f (expL mv H (c.args.toList.map ρv ++ caps)) (objsOf H mv) v h' ∧
    e = { val := imp mv s v, upd := mv.zip ((h'.take mv.length).map (Option.map (impOb mv s))), new := (h'.drop mv.length).map (Option.map (impOb mv s)), rd := mv }

def callee (o : Oper) : Option (Call × Operand) := match o.op with
  | .call c => match c.callee with
    | .value x => some (c, x)
    | _ => none
  | _ => none

def Step (C : Cx) (gr : Nat → Bool) (ρv : Operand → AV) (H : Nat → Option Ob) (s : Nat) (o : Oper) (e : Eff) : Prop :=
  match callee o with
  | some (c, x) => StepCall C ρv H s c x e
  | none => ∃ p, ev C gr ρv H s o = some (p, e) ∧ p

theorem stepCall_ok (r : Rel w ρ Z h) {H : Nat → Option Ob} (hH : ∀ id ob, H id = some ob → hp h id = some ob) {ρv : Operand → AV} (hρ : ∀ x, V w ρ Z (ρv x) (a.eval x)) {c : Call} {x : Operand} {e : Eff}
    (hcal : callee o = some (c, x)) (st : StepCall C ρv H s c x e) (hs : SlotOk ρ s e.new.length) {next : Act → World → Prop} {Q : Exit → Act → World → Prop}
    (hn : ∀ (cv : Value) (w' : World) (ρ' : List LS), Rel w' ρ' Z (applyH h s e) → V w' ρ' Z e.val cv → Mono w ρ w' ρ' →
      (∀ i : Nat, ¬ (s ≤ i ∧ i < s + e.new.length) → ρ[i]? = some .fresh → ρ'[i]? = some .fresh) → next (a.put o.dst cv) w') : o.wp C.P a w next Q := by
  obtain ⟨f, caps, mv, v, h', hx, nd, hid, hm, ⟨hfn, hc⟩, rfl⟩ := st
  have hlen : ((h'.drop mv.length).map (Option.map (impOb mv s))).length = h'.length - mv.length := by simp
  simp only [hlen] at hs hn
  have hcal2 : o.op = .call c ∧ c.callee = .value x := by
    unfold callee at hcal
    split at hcal
    · rename_i c2 hc2
      split at hcal
      · rename_i x2 hx2; cases hcal; exact ⟨hc2, hx2⟩
      · cases hcal
    · cases hcal
  obtain ⟨ho, hcv⟩ := hcal2
  have hfx := hρ x
  rw [hx] at hfx
  obtain ⟨arr, hfv, harr, hcaps⟩ : ∃ arr : Array Value, a.eval x = .func (.func f) #[] arr ∧ caps.length = arr.size ∧ ∀ (k : Nat) (y : AV), caps[k]? = some y → V w ρ Z y (arr.getD k undef) := by
    generalize hg : a.eval x = g at hfx
    cases hfx with
    | fn _ _ arr hl hv => exact ⟨arr, rfl, hl, hv⟩
  have hrun : (execOp a.eval o).run C.P w = .ok (.enter f (c.args.map a.eval ++ arr)) w := by
    simp only [execOp, ho, resolve, hcv, hfv, Deferred.ofValue, Sem.run_bind, Sem.run_pure, Result.andThen_ok, invoke, Array.empty_append]
    exact run_callFunc hfn _ w
  unfold Oper.wp
  rw [hrun, Oper.upon_enter]
  refine (call_ok (cargs := c.args.map a.eval ++ arr) r hH hid nd hm hs hc (by simp [harr]) fun k y hy => ?_).mono fun e w' he => ?_
  · rcases Nat.lt_or_ge k c.args.size with hk | hk
    · rw [List.getElem?_append_left (by simpa using hk)] at hy
      rw [List.getElem?_map] at hy
      cases hz : c.args.toList[k]? with
      | none => rw [hz] at hy; cases hy
      | some z =>
        rw [hz] at hy
        cases hy
        have : (c.args.map a.eval ++ arr).getD k undef = a.eval z := by
          have hz2 : c.args[k]? = some z := by rw [← Array.getElem?_toList]; exact hz
          rw [Array.getD_eq_getD_getElem?, Array.getElem?_append_left (by simpa using hk), Array.getElem?_map, hz2]
          rfl
        rw [this]
        exact hρ z
    · rw [List.getElem?_append_right (by simpa using hk)] at hy
      have : (c.args.map a.eval ++ arr).getD k undef = arr.getD (k - c.args.size) undef := by
        rw [Array.getD_eq_getD_getElem?, Array.getElem?_append_right (by simpa using hk), Array.getD_eq_getD_getElem?]
        simp
      rw [this]
      exact hcaps _ y (by simpa using hy)
  · obtain ⟨cv, ρ', rfl, r', hv', m', hfr⟩ := he
    exact hn cv w' ρ' r' hv' m' hfr

theorem ev_ok (ok : CxOk C) (r : Rel w ρ Z h) {gr : Nat → Bool} {ρv : Operand → AV} (hρ : ∀ x, V w ρ Z (ρv x) (a.eval x)) {p : Prop} {e : Eff}
    (he : ev C gr ρv (hp h) s o = some (p, e)) (hp0 : p) (hs : s ≤ ρ.length) (hf : ρ[s]? = none ∨ ρ[s]? = some .fresh) {next : Act → World → Prop} {Q : Exit → Act → World → Prop}
    (hn : ∀ (cv : Value) (w' : World) (ρ' : List LS), Rel w' ρ' Z (applyH h s e) → V w' ρ' Z e.val cv → Mono w ρ w' ρ' →
      (∀ i : Nat, i ≠ s → ρ[i]? = some .fresh → ρ'[i]? = some .fresh) → next (a.put o.dst cv) w') : o.wp C.P a w next Q := by
  obtain ⟨cv, w', ρ', hr, r', m', hv, hfr⟩ := ev_good ok r hs hf hρ he hp0
  have := hn cv w' ρ' r' hv m' hfr
  unfold Oper.wp
  rcases hr with hr | ⟨hr, rfl⟩
  · rw [hr, Oper.upon_value]; exact this
  · rw [hr, Oper.upon_skip]; exact this

end
end Am

/- Programs of the abstract machine: what holds behind a piece of code. -/
namespace Am
open Go

inductive AE where
  | normal
  | exit (id : Nat)
  | ret

/-- A state of the abstract machine and a frame. -/
structure Sim (w0 : World) (ρ0 : List LS) (Z : Nat → Prop) (S : St) (a : Act) (w : World) : Prop where
  ex : ∃ ρ : List LS, Rel w ρ Z S.h ∧ Mono w0 ρ0 w ρ ∧ ∀ (k : Nat) (x : AV), S.t[k]? = some x → V w ρ Z x (a.tmps.getD k undef)
  tl : S.t.length ≤ a.tmps.size
  df : a.defers = []

def aeOf : Exit → Option AE
  | .normal => some .normal
  | .exit id => some (.exit id)
  | .ret => some .ret
  | _ => none

/-- The model's postcondition. -/
def post (w0 : World) (ρ0 : List LS) (Z : Nat → Prop) (Q : AE → St → Prop) : Exit → Act → World → Prop :=
  fun e a w => match aeOf e with
    | some e' => ∃ S, Q e' S ∧ Sim w0 ρ0 Z S a w
    | none => False

/-- Behind the code, started in state S, the postcondition holds; m: the objects that were there when the function was entered. -/
def Beh (C : Cx) (m : Nat) (c : Code) (Q : AE → St → Prop) (S : St) : Prop :=
  ∀ (w0 : World) (ρ0 : List LS) (Z : Nat → Prop) (a : Act) (w : World), ρ0.length = m → Sim w0 ρ0 Z S a w → c.wp C.P (post w0 ρ0 Z Q) a w

section
variable {C : Cx} {m : Nat} {Q : AE → St → Prop} {S : St}

theorem sem_mono {c : Code} {Q' : AE → St → Prop} (h : Beh C m c Q S) (hq : ∀ e S, Q e S → Q' e S) : Beh C m c Q' S :=
  fun w0 ρ0 Z a w hm hs => wp_mono (h w0 ρ0 Z a w hm hs) fun e a w he => by
    unfold post at he ⊢
    split at he
    · obtain ⟨S, h1, h2⟩ := he; exact ⟨S, hq _ _ h1, h2⟩
    · exact he

/-- What is known of what stands behind a piece of code. -/
structure Kt (C : Cx) (m : Nat) (y : Code) (Q : AE → St → Prop) where
  f : St → Prop
  h : ∀ S, Beh C m y Q S → f S
theorem kt_f {y : Code} (K : Kt C m y Q) (hy : Beh C m y Q S) : K.f S := K.h S hy

theorem sem_skip (h : Q .normal S) : Beh C m .skip Q S := fun _ _ _ _ _ _ hs => wp_skip ⟨S, h, hs⟩
theorem sem_ret (h : Q .ret S) : Beh C m .ret Q S := fun _ _ _ _ _ _ hs => wp_ret ⟨S, h, hs⟩
theorem sem_exit {id : Nat} (h : Q (.exit id) S) : Beh C m (.exit id) Q S := fun _ _ _ _ _ _ hs => wp_exit ⟨S, h, hs⟩

def thenQ (K : St → Prop) (Q : AE → St → Prop) : AE → St → Prop
  | .normal, S => K S
  | e, S => Q e S

theorem sem_seq {x y : Code} (h : ∀ K : St → Prop, (∀ S, Beh C m y Q S → K S) → Beh C m x (thenQ K Q) S) : Beh C m (.seq x y) Q S :=
  fun w0 ρ0 Z a w hm hs => wp_seq (wp_mono (h _ (fun _ h => h) w0 ρ0 Z a w hm hs) fun e a w he => by
    cases e <;> simp only [post, aeOf, Exit.then, thenQ] at he ⊢
    · obtain ⟨S, h1, h2⟩ := he; exact h1 w0 ρ0 Z a w hm h2
    · exact he
    · exact he)

theorem sem_seqK {x y : Code} (h : ∀ K : Kt C m y Q, Beh C m x (thenQ K.f Q) S) : Beh C m (.seq x y) Q S := sem_seq fun f hf => h ⟨f, hf⟩

def blockQ (id : Nat) (Q : AE → St → Prop) : AE → St → Prop
  | .exit id', S => if id' = id then Q .normal S else Q (.exit id') S
  | e, S => Q e S

theorem sem_block {id : Nat} {c : Code} (h : Beh C m c (blockQ id Q) S) : Beh C m (.block id c) Q S :=
  fun w0 ρ0 Z a w hm hs => wp_block (wp_mono (h w0 ρ0 Z a w hm hs) fun e a w he => by
    cases e <;> simp only [post, aeOf, Exit.inBlock, blockQ] at he ⊢
    · exact he
    · split
      · rename_i hid; simpa [hid] using he
      · rename_i hid; simpa [hid] using he
    · exact he)

def setB (t : List AV) : Operand → Bool → List AV
  | .tmp n, b => t.set n (.v (.bool b))
  | _, _ => t

theorem Sim.setB {w0 : World} {ρ0 : List LS} {Z : Nat → Prop} {S : St} {a : Act} {w : World} (hs : Sim w0 ρ0 Z S a w) {c : Operand} {b : Bool} (hc : a.eval c = .bool b) :
    Sim w0 ρ0 Z ⟨Am.setB S.t c b, S.h⟩ a w := by
  obtain ⟨⟨ρ, r, mo, hv⟩, h1, h2⟩ := hs
  refine ⟨⟨ρ, r, mo, fun k x hx => ?_⟩, ?_, h2⟩
  · cases c with
    | tmp n =>
      simp only [Am.setB] at hx
      by_cases hn : n = k
      · subst hn
        rw [List.getElem?_set] at hx
        simp only [if_true] at hx
        split at hx
        · cases hx
          rw [show a.tmps.getD n undef = .bool b from hc]
          exact .v _
        · cases hx
      · rw [List.getElem?_set_ne hn] at hx; exact hv k x hx
    | const v => exact hv k x hx
    | global g => exact hv k x hx
    | func f => exact hv k x hx
  · cases c <;> simp only [Am.setB] <;> simpa using h1

theorem Sim.opd {w0 : World} {ρ0 : List LS} {Z : Nat → Prop} {S : St} {a : Act} {w : World} (hs : Sim w0 ρ0 Z S a w) :
    ∃ ρ : List LS, Rel w ρ Z S.h ∧ Mono w0 ρ0 w ρ ∧ (∀ x, V w ρ Z (Am.opd S.t x) (a.eval x)) := by
  obtain ⟨⟨ρ, r, mo, hv⟩, h1, h2⟩ := hs
  exact ⟨ρ, r, mo, fun x => V.opd hv a.defers x⟩

theorem sem_cond {c : Operand} {x y : Code} {b : Bool} (hc : opd S.t c = .v (.bool b)) (ht : b = true → Beh C m x Q ⟨setB S.t c true, S.h⟩)
    (hf : b = false → Beh C m y Q ⟨setB S.t c false, S.h⟩) : Beh C m (.cond c x y) Q S :=
  fun w0 ρ0 Z a w hm hs => by
    obtain ⟨ρ, r, mo, hv⟩ := hs.opd
    have h1 := hv c
    rw [hc] at h1
    have h2 := h1.v_inv
    refine wp_cond_split h2 (fun hb => ht hb w0 ρ0 Z a w hm (hs.setB (by rw [h2, hb]))) (fun hb => hf hb w0 ρ0 Z a w hm (hs.setB (by rw [h2, hb])))

theorem sem_cond_nq {c : Operand} {x y : Code} {n : Nat} (hc : opd S.t c = .nq n) (ht : n = 0 → Beh C m x Q S) (hf : Beh C m y Q S) : Beh C m (.cond c x y) Q S :=
  fun w0 ρ0 Z a w hm hs => by
    obtain ⟨ρ, r, mo, hv⟩ := hs.opd
    have h1 := hv c
    rw [hc] at h1
    generalize hg : a.eval c = g at h1
    cases h1 with
    | nq _ b h => exact wp_cond_split hg (fun hb => ht (h hb) w0 ρ0 Z a w hm hs) (fun _ => hf w0 ρ0 Z a w hm hs)

/-- A step in the order of the text: new objects come last. -/
def Does (C : Cx) (gr : Nat → Bool) (S : St) (o : Oper) (K : AV → List (Option Ob) → Prop) : Prop :=
  match callee o with
  | some (c, x) => match opd S.t x with
    | .fn f caps => ∃ (mv : List Nat) (v : AV) (h' : List (Option Ob)), mv.Nodup ∧ (∀ id, id ∈ mv → ∃ ob, hp S.h id = some ob) ∧ mv.length ≤ h'.length ∧
        Con C.P f (expL mv (hp S.h) (c.args.toList.map (opd S.t) ++ caps)) (objsOf (hp S.h) mv) v h' ∧ K (imp mv S.h.length v) (backH S.h mv S.h.length h')
    | _ => False
  | none => match ev C gr (opd S.t) (hp S.h) S.h.length o with
    | some (p, e) => p ∧ K e.val (applyH S.h S.h.length e)
    | none => False

def putT (t : List AV) : Option Nat → AV → List AV
  | some d, x => t.set d x
  | none, _ => t

theorem Sim.put {w0 : World} {ρ0 : List LS} {Z : Nat → Prop} {S : St} {a : Act} {w w' : World} (hs : Sim w0 ρ0 Z S a w) {ρ ρ' : List LS} {h' : List (Option Ob)}
    (hv : ∀ (k : Nat) (x : AV), S.t[k]? = some x → V w ρ Z x (a.tmps.getD k undef)) (mo : Mono w0 ρ0 w ρ)
    (r' : Rel w' ρ' Z h') (m' : Mono w ρ w' ρ') {x : AV} {cv : Value} (hx : V w' ρ' Z x cv) (d : Option Nat) : Sim w0 ρ0 Z ⟨putT S.t d x, h'⟩ (a.put d cv) w' := by
  obtain ⟨_, h1, h2⟩ := hs
  cases d with
  | none => exact ⟨⟨ρ', r', mo.trans m', fun k x hx => (hv k x hx).mono m'⟩, h1, h2⟩
  | some d =>
    refine ⟨⟨ρ', r', mo.trans m', fun k y hy => ?_⟩, by simpa [putT, Act.put] using h1, h2⟩
    simp only [putT, Act.put] at hy ⊢
    by_cases hd : d = k
    · subst hd
      rw [List.getElem?_set] at hy
      simp only [if_true] at hy
      split at hy
      · rename_i hlt
        cases hy
        have : d < a.tmps.size := Nat.lt_of_lt_of_le hlt h1
        simpa [this] using hx
      · cases hy
    · rw [List.getElem?_set_ne hd] at hy
      have : (a.tmps.setIfInBounds d cv).getD k undef = a.tmps.getD k undef := by
        rw [Array.getD_eq_getD_getElem?, Array.getElem?_setIfInBounds_ne hd, Array.getD_eq_getD_getElem?]
      rw [this]
      exact (hv k y hy).mono m'

theorem does_ok (ok : CxOk C) {gr : Nat → Bool} {o : Oper} {K : AV → List (Option Ob) → Prop} (hd : Does C gr S o K) {w0 : World} {ρ0 : List LS} {Z : Nat → Prop} {a : Act} {w : World} (hs : Sim w0 ρ0 Z S a w)
    {next : Act → World → Prop} {Q : Exit → Act → World → Prop} (hn : ∀ v h' a' w', K v h' → Sim w0 ρ0 Z ⟨putT S.t o.dst v, h'⟩ a' w' → next a' w') : o.wp C.P a w next Q := by
  obtain ⟨⟨ρ, r, mo, hv⟩, h1, h2⟩ := id hs
  have hρ : ∀ x, V w ρ Z (opd S.t x) (a.eval x) := fun x => V.opd hv a.defers x
  unfold Does at hd
  split at hd
  · rename_i c x hcal
    split at hd
    · rename_i f caps hx
      obtain ⟨mv, v, h', nd, hid, hm, hc, hK⟩ := hd
      exact stepCall_ok (e := { val := imp mv S.h.length v, upd := mv.zip ((h'.take mv.length).map (Option.map (impOb mv S.h.length))), new := (h'.drop mv.length).map (Option.map (impOb mv S.h.length)), rd := mv })
        r (fun _ _ h => h) hρ hcal ⟨f, caps, mv, v, h', hx, nd, hid, hm, hc, rfl⟩ (.inl r.len.symm)
        fun cv w' ρ' r' hv' m' _ => hn _ _ _ _ hK (hs.put hv mo r' m' hv' _)
    · exact hd.elim
  · split at hd
    · rename_i p e he
      exact ev_ok ok r hρ he hd.1 (by rw [r.len]; exact Nat.le_refl _) (.inl (by rw [← r.len]; simp)) fun cv w' ρ' r' hv' m' _ => hn _ _ _ _ hd.2 (hs.put hv mo r' m' hv' _)
    · exact hd.elim

/-- The operations of a region in the order of the text. -/
def aops (C : Cx) (gr : Nat → Bool) (ops : Array Oper) : List Oper → St → (St → Prop) → Prop
  | [], S, K => K S
  | o :: rest, S, K => match o.guard with
    | none => Does C gr S o fun v h' => aops C gr ops rest ⟨putT S.t o.dst v, h'⟩ K
    | some (j, want) => match (ops[j]?).bind (·.dst) with
      | some d => match S.t.getD d .u with
        | .v (.bool b) => (b = want → Does C gr ⟨S.t.set d (.v (.bool want)), S.h⟩ o fun v h' => aops C gr ops rest ⟨putT (S.t.set d (.v (.bool want))) o.dst v, h'⟩ K) ∧
            (b = !want → aops C gr ops rest ⟨putT (S.t.set d (.v (.bool !want))) o.dst (.v undef), S.h⟩ K)
        | .v (.tuple _) => aops C gr ops rest ⟨putT S.t o.dst (.v undef), S.h⟩ K
        | _ => False
      | none => False

theorem yielded_tuple {ops : Array Oper} {tm : Array Value} {j d : Nat} {xs : Array Value} (hd : (ops[j]?).bind (·.dst) = some d) (hval : tm.getD d undef = .tuple xs) : yielded ops tm j = none := by
  unfold yielded
  rw [hd]
  simp only [Option.bind_some]
  rw [Array.getD_eq_getD_getElem?] at hval
  cases h : tm[d]? with
  | none => rfl
  | some v =>
    rw [h] at hval
    simp only [Option.getD_some] at hval
    rw [hval]

theorem aops_ok (ok : CxOk C) {gr : Nat → Bool} {ops : Array Oper} {w0 : World} {ρ0 : List LS} {Z : Nat → Prop} {K : St → Prop} {Q : Exit → Act → World → Prop} (hq : ∀ S a w, K S → Sim w0 ρ0 Z S a w → Q .normal a w) :
    ∀ (l : List Oper) (S : St) (a : Act) (w : World), aops C gr ops l S K → Sim w0 ρ0 Z S a w → wpList C.P ops Q l a w
  | [], S, a, w, h, hs => hq S a w h hs
  | o :: rest, S, a, w, h, hs => by
    unfold aops at h
    unfold wpList
    split at h
    · rename_i hg
      rw [if_pos (by simp [Region.wanted, hg])]
      exact .inl (does_ok ok h hs fun v h' a' w' hK hs' => aops_ok ok hq rest _ _ _ hK hs')
    · rename_i j want hg
      split at h
      case h_2 => exact h.elim
      rename_i d hd
      split at h
      case h_3 => exact h.elim
      case h_2 =>
        rename_i xs hb
        obtain ⟨ρ, r, mo, hv⟩ := hs.ex
        have hval : a.tmps.getD d undef = .tuple xs := by
          have := V.opd hv [] (.tmp d)
          rw [show opd S.t (.tmp d) = .v (.tuple xs) from hb] at this
          exact this.v_inv
        have hy : yielded ops a.tmps j = none := yielded_tuple hd hval
        rw [if_neg (by simp [Region.wanted, hg, hy])]
        exact aops_ok ok hq rest _ _ _ h (hs.put hv mo r (Mono.refl _ _) (V.v undef) o.dst)
      rename_i b hb
      obtain ⟨ρ, r, mo, hv⟩ := hs.opd
      have hval : a.eval (.tmp d) = .bool b := by
        have := hv (.tmp d)
        rw [show opd S.t (.tmp d) = .v (.bool b) from hb] at this
        exact this.v_inv
      have hsz : d < a.tmps.size := by
        rcases Nat.lt_or_ge d a.tmps.size with h1 | h1
        · exact h1
        · simp only [Act.eval] at hval
          rw [Array.getD_eq_getD_getElem?, Array.getElem?_eq_none h1] at hval
          cases hval
      have hy : yielded ops a.tmps j = some b := by
        unfold yielded
        rw [hd]
        simp only [Option.bind_some]
        simp only [Act.eval] at hval
        rw [Array.getD_eq_getD_getElem?, Array.getElem?_eq_getElem hsz] at hval
        rw [Array.getElem?_eq_getElem hsz]
        simp only [Option.getD_some] at hval
        rw [hval]
      by_cases hbw : b = want
      · rw [if_pos (by simp [Region.wanted, hg, hy, hbw])]
        refine .inl (does_ok (S := ⟨S.t.set d (.v (.bool want)), S.h⟩) ok (h.1 hbw) (by simpa [setB, hbw] using hs.setB (c := .tmp d) hval) fun v h' a' w' hK hs' => aops_ok ok hq rest _ _ _ hK hs')
      · rw [if_neg (by simp [Region.wanted, hg, hy, hbw])]
        have hbn : b = !want := by cases b <;> cases want <;> simp_all
        have hs2 := hs.setB (c := .tmp d) hval
        obtain ⟨ρ, r, mo, hv⟩ := hs2.ex
        exact aops_ok ok hq rest _ _ _ (h.2 hbn) (by
          have := hs2.put hv mo r (Mono.refl _ _) (V.v undef) o.dst
          simpa [setB, hbn] using this)

theorem sem_region (ok : CxOk C) (gr : Nat → Bool) {id : Nat} {ops : Array Oper} (h : aops C gr ops ops.toList S (Q .normal)) : Beh C m (.region id ops false) Q S :=
  fun w0 ρ0 Z a w hm hs => wp_region_list (aops_ok ok (K := Q .normal) (fun S a w hK hs => ⟨S, hK, hs⟩) ops.toList S a w h hs)

/-- A loop: n falls from round to round. -/
theorem sem_loop {c : Code} (I : Nat → St → Prop) (n : Nat) (h0 : I n S)
    (round : ∀ n S, I n S → Beh C m c (thenQ (fun S' => ∃ n', n' < n ∧ I n' S') Q) S) : Beh C m (.loop c) Q S :=
  fun w0 ρ0 Z a w hm hs b k cs => by
    have key : ∀ n S a w, I n S → Sim w0 ρ0 Z S a w →
        ∃ e a' w', post w0 ρ0 Z Q e a' w' ∧ Arrives C.P (lone (b.at a (.code c :: .inLoop c :: k)) cs w) b k cs e a' w' := by
      intro n
      induction n using Nat.strongRecOn with
      | _ n ih =>
        intro S a w hI hs
        obtain ⟨e, a₁, w₁, hq, harr⟩ := round n S hI w0 ρ0 Z a w hm hs b (.inLoop c :: k) cs
        cases e with
        | normal =>
          simp only [post, aeOf, thenQ] at hq
          obtain ⟨S1, ⟨n1, hlt, hI1⟩, hs1⟩ := hq
          obtain ⟨e₂, a₂, w₂, hq₂, harr₂⟩ := ih n1 hlt S1 a₁ w₁ hI1 hs1
          exact ⟨e₂, a₂, w₂, hq₂, .of_steps (Steps.trans harr (.one step_inLoop)) harr₂⟩
        | exit id => exact ⟨.exit id, a₁, w₁, hq, .pass (x := .inLoop c) rfl (fun _ _ => .inl (by simp)) harr⟩
        | ret => exact ⟨.ret, a₁, w₁, hq, .pass (x := .inLoop c) rfl (fun _ _ => .inl (by simp)) harr⟩
        | goto l => exact hq.elim
        | panic ch => exact hq.elim
        | outgrown => exact hq.elim
    obtain ⟨e, a', w', hq, harr⟩ := key n S a w h0 hs
    exact ⟨e, a', w', hq, .of_steps (.one step_loop) harr⟩

end
end Am

/- Forgetting and renumbering; a function's contract from what its code does. -/
namespace Am
open Go

mutual
def wkV (ids : List Nat) : AV → AV
  | .sl id off len => match pos ids id with
    | some j => .sl j off len
    | none => .u
  | .p id i f => match pos ids id with
    | some j => .p j i f
    | none => .u
  | .agg cs => .agg (wkL ids cs)
  | .tup cs => .tup (wkL ids cs)
  | .fn f caps => .fn f (wkL ids caps)
  | x => x
def wkL (ids : List Nat) : List AV → List AV
  | [] => []
  | x :: xs => wkV ids x :: wkL ids xs
end

def wkOb (ids : List Nat) (ob : Ob) : Ob := if ob.flat then ob else { ob with es := ob.es.map (wkL ids) }
def wkH (ids : List Nat) (h : List (Option Ob)) : List (Option Ob) := ids.map fun id => (hp h id).map (wkOb ids)

def fgt : List Bool → List AV → List AV
  | true :: ks, x :: xs => x :: fgt ks xs
  | false :: ks, _ :: xs => .u :: fgt ks xs
  | _, _ => []

def weak (ids : List Nat) (mask : List Bool) (S : St) : St := ⟨wkL ids (fgt mask S.t), wkH ids S.h⟩

theorem wkL_get (ids : List Nat) : ∀ (l : List AV) (k : Nat), (wkL ids l)[k]? = (l[k]?).map (wkV ids)
  | [], k => by simp [wkL]
  | x :: xs, 0 => by simp [wkL]
  | x :: xs, k + 1 => by simp [wkL, wkL_get ids xs k]

theorem wkL_length (ids : List Nat) : ∀ (l : List AV), (wkL ids l).length = l.length
  | [] => rfl
  | x :: xs => by simp [wkL, wkL_length ids xs]

theorem fgt_length : ∀ (ks : List Bool) (l : List AV), (fgt ks l).length ≤ l.length
  | true :: ks, x :: xs => by simpa [fgt] using fgt_length ks xs
  | false :: ks, _ :: xs => by simpa [fgt] using fgt_length ks xs
  | [], _ => by simp [fgt]
  | _ :: _, [] => by simp [fgt]

theorem fgt_get : ∀ (ks : List Bool) (l : List AV) (k : Nat) (x : AV), (fgt ks l)[k]? = some x → x = .u ∨ l[k]? = some x
  | true :: ks, y :: ys, 0, x, h => by simp [fgt] at h; right; simp [h]
  | true :: ks, y :: ys, k + 1, x, h => by simp only [fgt, List.getElem?_cons_succ] at h ⊢; exact fgt_get ks ys k x h
  | false :: ks, _ :: ys, 0, x, h => by simp [fgt] at h; left; exact h.symm
  | false :: ks, _ :: ys, k + 1, x, h => by simp only [fgt, List.getElem?_cons_succ] at h ⊢; exact fgt_get ks ys k x h
  | [], _, _, _, h => by simp [fgt] at h
  | true :: _, [], _, _, h => by simp [fgt] at h
  | false :: _, [], _, _, h => by simp [fgt] at h

section
variable {w : World} {ρ : List LS} {Z : Nat → Prop} {h : List (Option Ob)} {ids : List Nat}

theorem V.wk0 {x : AV} {cv : Value} (hv : V w ρ Z x cv) (hn : noref x = true) : V w (lsOf ρ ids) Z x cv := by
  induction hv with
  | v x => exact .v x
  | u cv => exact .u cv
  | nq n b h => exact .nq n b h
  | ni t x => exact .ni t x
  | nl a => exact .nl a
  | p => cases hn
  | pd => cases hn
  | sl => cases hn
  | slz => cases hn
  | slv => cases hn
  | sld => cases hn
  | pb cs f b o g hb ho hg hv hnn ih => exact .pb cs f b o g hb (fun c => ho (owned_ls c)) hg (fun k x hx => ih k x hx (hnn k x hx)) hnn
  | borE i a c => exact .borE i a c
  | bor i es b o sz c g hb ho hz hc hsz hg hv hnn hm ih =>
    exact .bor i es b o sz c g hb (fun c => ho (owned_ls c)) hz hc hsz hg (fun k e j x he hx => ih k e j x he hx (hnn k e j x he hx)) hnn hm
  | agg => cases hn
  | tup => cases hn
  | fn f caps arr hl hv ih =>
    have : caps = [] := by simpa [noref] using hn
    subst this
    exact .fn f [] arr hl (fun k x hx => by simp at hx)

theorem V.wk {x : AV} {cv : Value} (hv : V w ρ Z x cv) : V w (lsOf ρ ids) Z (wkV ids x) cv := by
  induction hv with
  | v x => exact .v x
  | u cv => exact .u cv
  | nq n b h => exact .nq n b h
  | ni t x => exact .ni t x
  | nl a => exact .nl a
  | p id i f L h =>
    simp only [wkV]
    split
    · rename_i j hj; exact .p j i f L (lsOf_of (pos_some hj) h)
    · exact .u _
  | pd id i f cv h hc =>
    simp only [wkV]
    split
    · rename_i j hj; exact .pd j i f cv (lsOf_of (pos_some hj) h) hc
    · exact .u _
  | sl id off len L c h hc hn hr =>
    simp only [wkV]
    split
    · rename_i j hj; exact .sl j off len L c (lsOf_of (pos_some hj) h) hc hn hr
    · exact .u _
  | slz id off L a h =>
    simp only [wkV]
    split
    · rename_i j hj; exact .slz j off L a (lsOf_of (pos_some hj) h)
    · exact .u _
  | slv id off a h =>
    simp only [wkV]
    split
    · rename_i j hj; exact .slv j off a (lsOf_of (pos_some hj) h)
    · exact .u _
  | sld id off len a c h ha =>
    simp only [wkV]
    split
    · rename_i j hj; exact .sld j off len a c (lsOf_of (pos_some hj) h) ha
    · exact .u _
  | pb cs f b o g hb ho hg hv hnn ih => exact (V.pb cs f b o g hb ho hg hv hnn).wk0 rfl
  | borE i a c => exact .borE i a c
  | bor i es b o sz c g hb ho hz hc hsz hg hv hnn hm ih => exact (V.bor i es b o sz c g hb ho hz hc hsz hg hv hnn hm).wk0 rfl
  | agg cs arr hl hv ih =>
    refine .agg _ arr (by rw [wkL_length]; exact hl) fun k x hx => ?_
    rw [wkL_get] at hx
    cases hk : cs[k]? with
    | none => rw [hk] at hx; cases hx
    | some y => rw [hk] at hx; cases hx; exact ih k y hk
  | tup cs arr hl hv ih =>
    refine .tup _ arr (by rw [wkL_length]; exact hl) fun k x hx => ?_
    rw [wkL_get] at hx
    cases hk : cs[k]? with
    | none => rw [hk] at hx; cases hx
    | some y => rw [hk] at hx; cases hx; exact ih k y hk
  | fn f caps arr hl hv ih =>
    refine .fn f _ arr (by rw [wkL_length]; exact hl) fun k x hx => ?_
    rw [wkL_get] at hx
    cases hk : caps[k]? with
    | none => rw [hk] at hx; cases hx
    | some y => rw [hk] at hx; cases hx; exact ih k y hk

theorem Rel.wk (r : Rel w ρ Z h) (nd : ids.Nodup) : Rel w (lsOf ρ ids) Z (wkH ids h) where
  len := by simp [lsOf, wkH]
  obj := by
    intro j ob hj
    unfold wkH at hj
    rw [List.getElem?_map] at hj
    cases hm : ids[j]? with
    | none => rw [hm] at hj; cases hj
    | some id =>
      rw [hm] at hj
      simp only [Option.map_some, Option.some.injEq] at hj
      cases hob : hp h id with
      | none => rw [hob] at hj; cases hj
      | some ob0 =>
        rw [hob] at hj
        simp only [Option.map_some, Option.some.injEq] at hj
        subst hj
        rcases r.obj id ob0 (hp_some hob) with ⟨L, h1, h2⟩ | ⟨h1, h2⟩
        · left
          refine ⟨L, lsOf_of hm h1, ?_⟩
          obtain ⟨arr, T, a1, a2, a3⟩ := h2.ex
          unfold wkOb
          split
          · rename_i hfl
            exact ⟨⟨arr, T, a1, a2, fun k e i x he hx => (a3 k e i x he hx).wk0 (immc_noref (h2.fl hfl e (List.mem_of_getElem? he) x (List.mem_of_getElem? hx)))⟩, h2.sz, h2.ln, h2.room, h2.nz, h2.el, h2.fl⟩
          · rename_i hfl
            refine ⟨⟨arr, T, a1, a2, fun k e i x he hx => ?_⟩, h2.sz, by simpa using h2.ln, by simpa using h2.room, h2.nz, fun e he => ?_, fun c => absurd c hfl⟩
            · simp only at he ⊢
              rw [List.getElem?_map] at he
              cases hk : ob0.es[k]? with
              | none => rw [hk] at he; cases he
              | some e0 =>
                rw [hk] at he
                cases he
                rw [wkL_get] at hx
                cases hi : e0[i]? with
                | none => rw [hi] at hx; cases hx
                | some y => rw [hi] at hx; cases hx; exact (a3 k e0 i y hk hi).wk
            · obtain ⟨e0, h3, rfl⟩ := List.mem_map.1 he
              rw [wkL_length]
              exact h2.el e0 h3
        · right
          refine ⟨lsOf_of hm h1, ?_⟩
          unfold wkOb
          split
          · exact h2
          · simp [h2]
  non := by
    intro j hj
    unfold wkH at hj
    rw [List.getElem?_map] at hj
    cases hm : ids[j]? with
    | none => rw [hm] at hj; cases hj
    | some id =>
      rw [hm] at hj
      simp only [Option.map_some, Option.some.injEq, Option.map_eq_none_iff] at hj
      unfold hp at hj
      rw [List.getD_eq_getElem?_getD] at hj
      unfold lsOf
      rw [List.getElem?_map, hm]
      simp only [Option.map_some, Option.some.injEq]
      rw [List.getD_eq_getElem?_getD]
      cases hi : h[id]? with
      | none =>
        have : ρ[id]? = none := by
          rw [List.getElem?_eq_none_iff] at hi ⊢
          rw [r.len]; exact hi
        rw [this]; left; rfl
      | some x =>
        rw [hi] at hj
        simp only [Option.getD_some] at hj
        subst hj
        rcases r.non id hi with h1 | h1 <;> rw [h1] <;> simp
  inj := by
    intro i j L M hL hM hb
    obtain ⟨a, a1, a2⟩ := lsOf_get hL (by simp)
    obtain ⟨b, b1, b2⟩ := lsOf_get hM (by simp)
    have := r.inj a b L M a2 b2 hb
    subst this
    have h1 := pos_of_get nd a1
    have h2 := pos_of_get nd b1
    rw [h1] at h2
    exact Option.some.inj h2
  zlt := r.zlt

theorem Mono.wk {w0 : World} {ρ0 : List LS} {m : Nat} (mo : Mono w0 ρ0 w ρ) (hm : ρ0.length = m) (ht : ids.take m = List.range m) : Mono w0 ρ0 w (lsOf ρ ids) := by
  have key : ∀ (id : Nat) (x : LS), ρ0[id]? = some x → ids[id]? = some id := by
    intro id x hx
    have hlt : id < m := by rw [← hm]; exact (List.getElem?_eq_some_iff.1 hx).1
    have h1 : (ids.take m)[id]? = some id := by rw [ht]; simp [hlt]
    rwa [List.getElem?_take_of_lt hlt] at h1
  refine ⟨mo.os, mo.tape, mo.out, mo.hs, mo.hb, fun b hb ho => mo.ho b hb (owned_ls ho), fun id L hL => ?_, fun id hd => ?_, fun id hv => ?_⟩
  · rcases mo.hl id L hL with h1 | h1
    · exact .inl (lsOf_of (key id _ hL) h1)
    · exact .inr (lsOf_of (key id _ hL) h1)
  · exact lsOf_of (key id _ hd) (mo.hd id hd)
  · rcases mo.hv id hv with h1 | h1
    · exact .inl (lsOf_of (key id _ hv) h1)
    · exact .inr (lsOf_of (key id _ hv) h1)

theorem Sim.weak {w0 : World} {ρ0 : List LS} {S : St} {a : Act} {m : Nat} (hs : Sim w0 ρ0 Z S a w) (hm : ρ0.length = m) (nd : ids.Nodup) (ht : ids.take m = List.range m) (mask : List Bool) :
    Sim w0 ρ0 Z (Am.weak ids mask S) a w := by
  obtain ⟨⟨ρ, r, mo, hv⟩, h1, h2⟩ := hs
  refine ⟨⟨lsOf ρ ids, r.wk nd, mo.wk hm ht, fun k x hx => ?_⟩, ?_, h2⟩
  · simp only [Am.weak] at hx
    rw [wkL_get] at hx
    cases hk : (fgt mask S.t)[k]? with
    | none => rw [hk] at hx; cases hx
    | some y =>
      rw [hk] at hx
      cases hx
      rcases fgt_get mask S.t k y hk with rfl | h3
      · exact .u _
      · exact (hv k y h3).wk
  · simp only [Am.weak, wkL_length]
    exact Nat.le_trans (fgt_length _ _) h1

end

section
variable {C : Cx} {m : Nat} {Q : AE → St → Prop} {S : St}

/-- Names that may be kept: those of the objects that were there at the start, then others. -/
def idsB (m : Nat) (ids : List Nat) : Bool := decide (ids.Nodup) && decide (ids.take m = List.range m)

theorem idsB_spec {ids : List Nat} (h : idsB m ids = true) : ids.Nodup ∧ ids.take m = List.range m := by
  unfold idsB at h
  simpa using h

theorem sem_weak {c : Code} (ids : List Nat) (mask : List Bool) (hb : idsB m ids = true) (h : Beh C m c Q (weak ids mask S)) : Beh C m c Q S :=
  fun w0 ρ0 Z a w hm hs => h w0 ρ0 Z a w hm (hs.weak hm (idsB_spec hb).1 (idsB_spec hb).2 mask)

/-- What is kept of a state meets I. -/
def Kept (m : Nat) (I : St → Prop) (S : St) : Prop := ∃ (ids : List Nat) (mask : List Bool), idsB m ids = true ∧ I (weak ids mask S)

theorem sem_kept {c : Code} {I : St → Prop} (hk : Kept m I S) (h : ∀ S, I S → Beh C m c Q S) : Beh C m c Q S := by
  obtain ⟨ids, mask, hb, hI⟩ := hk
  exact sem_weak ids mask hb (h _ hI)

/-- A loop whose invariant speaks of what is kept. -/
theorem sem_while {c : Code} (I : Nat → St → Prop) (n : Nat) (h0 : Kept m (I n) S)
    (round : ∀ n S, I n S → Beh C m c (thenQ (fun S' => ∃ n', n' < n ∧ Kept m (I n') S') Q) S) : Beh C m (.loop c) Q S :=
  sem_loop (fun n S => Kept m (I n) S) n h0 fun n _ hI => sem_kept hI (round n)

/-- A cut: behind x what is kept meets I. -/
theorem sem_cut {x y : Code} (I : St → Prop) (h : Beh C m x (thenQ (Kept m I) Q) S) (hy : ∀ S, I S → Beh C m y Q S) : Beh C m (.seq x y) Q S :=
  sem_seq fun K hK => sem_mono h fun e S he => by
    cases e <;> simp only [thenQ] at he ⊢
    · exact hK S (sem_kept he hy)
    · exact he
    · exact he

/-- A result: a slot, or what lies where a slot's pointer leads. -/
def resV1 (C : Cx) (S : St) : Nat × Option Nat → Option AV
  | (r, none) => some (S.t.getD r .u)
  | (r, some T) => match S.t.getD r .u with
    | .p id i f => match hp S.h id with
      | some ob => if (C.ti T).ok = true ∧ i < ob.es.length ∧ f + (C.ti T).size ≤ ob.sz then some (ldv (C.ti T) (ob.es.getD i []) f) else none
      | none => none
    | _ => none

def resVL (C : Cx) (S : St) : List (Nat × Option Nat) → Option (List AV)
  | [] => some []
  | r :: rs => match resV1 C S r, resVL C S rs with
    | some x, some xs => some (x :: xs)
    | _, _ => none

def resv (C : Cx) (S : St) (rs : List (Nat × Option Nat)) : Option AV := match rs with
  | [r] => resV1 C S r
  | _ => match resVL C S rs with
    | some xs => some (.tup xs)
    | none => none

/-- What a function's code must do. -/
def bodyQ (C : Cx) (m : Nat) (rs : List (Nat × Option Nat)) (v : AV) (h' : List (Option Ob)) : AE → St → Prop
  | .exit _, _ => False
  | _, S => ∃ (ids : List Nat) (x : AV), idsB m ids = true ∧ resv C S rs = some x ∧ v = wkV ids x ∧ h' = wkH ids S.h

def resVar : Nat × Option Nat → ResultVar
  | (r, none) => .tmp r
  | (r, some T) => .cell r T

def resOne (tm : Array Value) : ResultVar → Go.Sem Value
  | .tmp t => pure (tm.getD t undef)
  | .cell a t => do loadVar t (← asAddr (tm.getD a undef))

theorem run_resOne (ok : CxOk C) {w : World} {ρ : List LS} {Z : Nat → Prop} (r : Rel w ρ Z S.h) {tm : Array Value} (hv : ∀ (k : Nat) (x : AV), S.t[k]? = some x → V w ρ Z x (tm.getD k undef))
    {q : Nat × Option Nat} {x : AV} (hx : resV1 C S q = some x) : ∃ cv, (resOne tm (resVar q)).run C.P w = .ok cv w ∧ V w ρ Z x cv := by
  have hg : ∀ n : Nat, V w ρ Z (S.t.getD n .u) (tm.getD n undef) := fun n => V.opd hv [] (.tmp n)
  obtain ⟨n, T⟩ := q
  cases T with
  | none =>
    simp only [resV1, Option.some.injEq] at hx
    subst hx
    exact ⟨_, rfl, hg n⟩
  | some T =>
    simp only [resV1] at hx
    split at hx
    case h_2 => cases hx
    rename_i id i f hp0
    split at hx
    case h_2 => cases hx
    rename_i ob hob
    split at hx
    case isFalse => cases hx
    rename_i hc
    obtain ⟨hT, h1, h2⟩ := hc
    cases hx
    have hid := hp_some hob
    have hL : ∃ L, ρ[id]? = some (.live L) ∧ ObR w ρ Z ob L := by
      rcases r.obj id ob hid with h3 | ⟨_, h3⟩
      · exact h3
      · rw [h3] at h1; cases h1
    obtain ⟨L, hL, hO⟩ := hL
    have hpx := hg n
    rw [hp0] at hpx
    have hpv := V.p_inv hpx hL
    obtain ⟨arr, T', a1, a2, a3⟩ := hO.ex
    have hei : ob.es[i]? = some ob.es[i] := List.getElem?_eq_getElem h1
    have hel : ob.es[i].length = ob.sz := hO.el _ (List.getElem_mem h1)
    have hgd : ob.es.getD i [] = ob.es[i] := by rw [List.getD_eq_getElem?_getD, hei]; rfl
    rw [hgd]
    have hpos : (i + 1) * ob.sz ≤ ob.es.length * ob.sz := Nat.mul_le_mul_right _ h1
    rw [Nat.succ_mul] at hpos
    have hroom := hO.room
    obtain ⟨cv, h4, h5⟩ := good_load (w := w) (ρ := ρ) (Z := Z) ok hT (b := L.b) (o := L.base + i * L.sz) (cs := ob.es[i]) (f := f) (g := fun j => arr.getD (L.base + i * L.sz + j) undef) (by omega)
      (fun k x hx => by
        have hk : k < ob.sz := by rw [← hel]; exact (List.getElem?_eq_some_iff.1 hx).1
        simp only [World.cell?, a1]
        rw [hO.sz, Array.getD_eq_getD_getElem?]
        simp
        rw [Array.getElem?_eq_getElem (by omega)]
        simp)
      (fun k x hx => by
        have := a3 i _ k x hei hx
        rw [hO.sz]
        rwa [show L.base + i * ob.sz + k = L.base + (i * ob.sz + k) by omega])
    refine ⟨cv, ?_, h5⟩
    rw [show L.base + i * L.sz + f = L.base + (i * L.sz + f) by omega] at h4
    simpa [resOne, resVar, hpv, asAddr, Instr.loadAt, Instr.sureAddr] using h4

theorem run_resL (ok : CxOk C) {w : World} {ρ : List LS} {Z : Nat → Prop} (r : Rel w ρ Z S.h) {tm : Array Value} (hv : ∀ (k : Nat) (x : AV), S.t[k]? = some x → V w ρ Z x (tm.getD k undef)) :
    ∀ (rs : List (Nat × Option Nat)) (xs : List AV), resVL C S rs = some xs → ∃ cvs : List Value, ((rs.map resVar).mapM (resOne tm)).run C.P w = .ok cvs w ∧ xs.length = cvs.length ∧
      cvs.length = rs.length ∧ ∀ (k : Nat) (x : AV), xs[k]? = some x → V w ρ Z x (cvs.getD k undef)
  | [], xs, h => by
    simp only [resVL, Option.some.injEq] at h
    subst h
    exact ⟨[], rfl, rfl, rfl, fun k x hx => by simp at hx⟩
  | q :: rs, xs, h => by
    simp only [resVL] at h
    split at h
    · rename_i x xs1 h1 h2
      cases h
      obtain ⟨cv, h3, h4⟩ := run_resOne ok r hv h1
      obtain ⟨cvs, h5, h6, h7, h8⟩ := run_resL ok r hv rs xs1 h2
      refine ⟨cv :: cvs, ?_, by simp [h6], by simp [h7], fun k y hy => ?_⟩
      · simp only [List.map_cons, List.mapM_cons, Sem.run_bind, h3, Result.andThen_ok, h5, Sem.run_pure]
      · cases k with
        | zero => simp at hy; subst hy; simpa using h4
        | succ k => simp at hy; simpa using h8 k y hy
    · cases h

theorem run_results (ok : CxOk C) {fn : Func} {rs : List (Nat × Option Nat)} (hr : fn.results = (rs.map resVar).toArray) {w : World} {ρ : List LS} {Z : Nat → Prop} (r : Rel w ρ Z S.h) {tm : Array Value}
    (hv : ∀ (k : Nat) (x : AV), S.t[k]? = some x → V w ρ Z x (tm.getD k undef)) {x : AV} (hx : resv C S rs = some x) : ∃ cv, (results fn tm).run C.P w = .ok cv w ∧ V w ρ Z x cv := by
  have h0 : results fn tm = (do
      let vs ← fn.results.mapM (resOne tm)
      pure (if h : vs.size = 1 then vs[0] else .tuple vs)) := rfl
  rw [h0, hr]
  simp only [Sem.run_bind, Array.mapM_eq_mapM_toList, map_eq_pure_bind, Sem.run_pure]
  have tupled : ∀ xs, resVL C S rs = some xs → rs.length ≠ 1 → ∃ cv, ((((rs.map resVar).mapM (resOne tm)).run C.P w).andThen (fun a w' => (.ok a.toArray w' : Result (Array Value)))).andThen (fun a w' => (.ok (if h : a.size = 1 then a[0] else .tuple a) w' : Result Value)) = .ok cv w ∧ V w ρ Z (.tup xs) cv := by
    intro xs hxs hne
    obtain ⟨cvs, h5, h6, h7, h8⟩ := run_resL ok r hv rs xs hxs
    refine ⟨.tuple cvs.toArray, ?_, .tup _ _ (by simpa using h6) fun k y hy => by
      have := h8 k y hy
      simpa [List.getD_eq_getElem?_getD] using this⟩
    rw [h5, Result.andThen_ok, Result.andThen_ok, dif_neg (by simp; omega)]
  unfold resv at hx
  split at hx
  · rename_i q
    obtain ⟨cv, h3, h4⟩ := run_resOne ok r hv hx
    refine ⟨cv, ?_, h4⟩
    simp only [List.map_cons, List.map_nil, List.mapM_cons, List.mapM_nil, Sem.run_bind, h3, Result.andThen_ok, Sem.run_pure]
    rfl
  · rename_i hne
    split at hx
    · rename_i xs hxs
      cases hx
      obtain ⟨cv, h1, h2⟩ := tupled xs hxs (fun hl => by
        obtain ⟨q, rfl⟩ := List.length_eq_one_iff.1 hl
        exact hne q rfl)
      exact ⟨cv, h1, h2⟩
    · cases hx

theorem con_of_sem (ok : CxOk C) {f : Nat} {fn : Func} {c : Code} {args : List AV} {h : List (Option Ob)} {v : AV} {h' : List (Option Ob)} (rs : List (Nat × Option Nat))
    (hf : C.P.funcs[f]? = some fn) (hb : fn.body = some c) (hnm : (fn.name == "runtime.NumGoroutine") = false) (hr : fn.results = (rs.map resVar).toArray)
    (hs : Beh C h.length c (bodyQ C h.length rs v h') ⟨args ++ List.replicate (fn.ntmps - args.length) .u, h⟩) : Con C.P f args h v h' := by
  refine ⟨by simp [fnB, hf, hb, hnm], fun w ρ Z cargs r hl hv => calls_of_wp hf hb (wp_mono (hs w ρ Z _ w r.len ⟨⟨ρ, r, Mono.refl _ _, fun k x hx => ?_⟩, by simp [hl], rfl⟩) fun e a w' he => ?_)⟩
  · rcases Nat.lt_or_ge k args.length with hk | hk
    · rw [List.getElem?_append_left hk] at hx
      have : (cargs ++ Array.replicate (fn.ntmps - cargs.size) undef).getD k undef = cargs.getD k undef := by
        rw [Array.getD_eq_getD_getElem?, Array.getElem?_append_left (by omega), Array.getD_eq_getD_getElem?]
      simp only [this]
      exact hv k x hx
    · rw [List.getElem?_append_right hk, List.getElem?_replicate] at hx
      split at hx
      · cases hx; exact .u _
      · cases hx
  · have fin : ∀ S, (∃ (ids : List Nat) (x : AV), idsB h.length ids = true ∧ resv C S rs = some x ∧ v = wkV ids x ∧ h' = wkH ids S.h) → Sim w ρ Z S a w' →
        a.defers = [] ∧ ∃ cv, (results fn a.tmps).run C.P w' = .ok cv w' ∧ ∃ (cv' : Value) (ρ' : List LS), Ending.returned cv = .returned cv' ∧ Rel w' ρ' Z h' ∧ V w' ρ' Z v cv' ∧ Mono w ρ w' ρ' := by
      rintro S ⟨ids, x, hb, hx, rfl, rfl⟩ ⟨⟨ρ', r', mo, hv'⟩, h1, h2⟩
      obtain ⟨cv, h3, h4⟩ := run_results ok hr r' hv' hx
      exact ⟨h2, cv, h3, cv, lsOf ρ' ids, rfl, r'.wk (idsB_spec hb).1, h4.wk, mo.wk r.len (idsB_spec hb).2⟩
    cases e <;> simp only [post, aeOf] at he
    · obtain ⟨S, h1, h2⟩ := he; exact fin S h1 h2
    · obtain ⟨S, h1, h2⟩ := he; exact h1.elim
    · obtain ⟨S, h1, h2⟩ := he; exact fin S h1 h2

end
end Am

/- A nil slice may be read as a slice of an object without elements, or as a slice that is only read; a loop's rule, and the end of a function, that make use of it. -/
namespace Am
open Go

/-- A place: a slot, a component of a slot, a cell of an object. -/
inductive Pl where
  | slot (k : Nat)
  | comp (k j : Nat)
  | cell (id i j : Nat)

/-- What is done there: nil becomes a slice of a new object, or one that is only read; what stays for ever becomes what is only read. -/
inductive Cv where
  | virt (sz : Nat) (fl : Bool)
  | bor (i : Bool)
  | bf

def mod {α : Type} (f : α → α) : List α → Nat → List α
  | [], _ => []
  | x :: xs, 0 => f x :: xs
  | x :: xs, k + 1 => x :: mod f xs k

theorem mod_get {α : Type} (f : α → α) : ∀ (l : List α) (k i : Nat), (mod f l k)[i]? = if i = k then (l[i]?).map f else l[i]?
  | [], k, i => by simp [mod]
  | x :: xs, 0, 0 => by simp [mod]
  | x :: xs, 0, i + 1 => by simp [mod]
  | x :: xs, k + 1, 0 => by simp [mod]
  | x :: xs, k + 1, i + 1 => by simp [mod, mod_get f xs k i]

theorem mod_length {α : Type} (f : α → α) : ∀ (l : List α) (k : Nat), (mod f l k).length = l.length
  | [], k => rfl
  | x :: xs, 0 => rfl
  | x :: xs, k + 1 => by simp [mod, mod_length f xs k]

def cvV (c : Cv) (n : Nat) (x : AV) : AV := match c, x with
  | .virt _ _, .nl => .sl n 0 0
  | .bor i, .nl => .bor i []
  | .bf, .bor true es => .bor false es
  | _, x => x

def cvC (c : Cv) (n j : Nat) (x : AV) : AV := match x with
  | .agg cs => .agg (mod (cvV c n) cs j)
  | .tup cs => .tup (mod (cvV c n) cs j)
  | x => x

def cvOb (c : Cv) (n i j : Nat) (ob : Ob) : Ob := if ob.flat then ob else { ob with es := mod (fun e => mod (cvV c n) e j) ob.es i }

def cvH (c : Cv) (h : List (Option Ob)) : List (Option Ob) := match c with
  | .virt sz fl => h ++ [some { es := [], sz := sz, flat := fl }]
  | _ => h

def cv1 (p : Pl × Cv) (S : St) : St := match p with
  | (.slot k, c) => ⟨mod (cvV c S.h.length) S.t k, cvH c S.h⟩
  | (.comp k j, c) => ⟨mod (cvC c S.h.length j) S.t k, cvH c S.h⟩
  | (.cell id i j, c) => ⟨S.t, mod (Option.map (cvOb c S.h.length i j)) (cvH c S.h) id⟩

def cvs : List (Pl × Cv) → St → St
  | [], S => S
  | p :: ps, S => cvs ps (cv1 p S)

section
variable {w : World} {ρ ρ' : List LS} {Z : Nat → Prop} {h : List (Option Ob)} {c : Cv}

/-- The new names fit what is done. -/
def CvR (c : Cv) (n : Nat) (ρ' : List LS) : Prop := match c with
  | .virt _ _ => ρ'[n]? = some .virt
  | _ => True

theorem cvV_V {n : Nat} {x : AV} {cv : Value} (hv : V w ρ' Z x cv) (hr : CvR c n ρ') : V w ρ' Z (cvV c n x) cv := by
  unfold cvV
  split
  · cases hv with
    | nl a => exact .slv n 0 a hr
  · cases hv with
    | nl a => exact .borE _ a 0
  · cases hv with
    | borE i a c => exact .borE _ a c
    | bor i es b o sz c g hb ho hz hc hsz hg hv hn hm => exact .bor false _ b o sz c g hb ho (fun h => by cases h) hc hsz hg hv hn (fun h => by cases h)
  · exact hv

theorem cvC_V {n j : Nat} {x : AV} {cv : Value} (hv : V w ρ' Z x cv) (hr : CvR c n ρ') : V w ρ' Z (cvC c n j x) cv := by
  unfold cvC
  split
  · rename_i cs
    cases hv with
    | agg cs arr hl hv =>
      refine .agg _ arr (by rw [mod_length]; exact hl) fun k y hy => ?_
      rw [mod_get] at hy
      split at hy
      · cases hk : cs[k]? with
        | none => rw [hk] at hy; cases hy
        | some z => rw [hk] at hy; cases hy; exact cvV_V (hv k z hk) hr
      · exact hv k y hy
  · rename_i cs
    cases hv with
    | tup cs arr hl hv =>
      refine .tup _ arr (by rw [mod_length]; exact hl) fun k y hy => ?_
      rw [mod_get] at hy
      split at hy
      · cases hk : cs[k]? with
        | none => rw [hk] at hy; cases hy
        | some z => rw [hk] at hy; cases hy; exact cvV_V (hv k z hk) hr
      · exact hv k y hy
  · exact hv

theorem relCv (r : Rel w ρ Z h) : ∃ ρ', Rel w ρ' Z (cvH c h) ∧ Mono w ρ w ρ' ∧ CvR c h.length ρ' := by
  cases c with
  | virt sz fl =>
    obtain ⟨r1, m1⟩ := relVirt r (Nat.le_refl _) (.inl (by simp)) { es := [], sz := sz, flat := fl } rfl
    have e : putAt h ρ.length (some { es := [], sz := sz, flat := fl }) = cvH (.virt sz fl) h := by
      rw [r.len]
      simp [putAt, cvH]
    rw [e] at r1
    refine ⟨_, r1, m1, ?_⟩
    show (putAt ρ ρ.length .virt)[h.length]? = some .virt
    rw [putAt_get _ _ _ (Nat.le_refl _), if_pos r.len.symm]
  | bor i => exact ⟨ρ, r, Mono.refl _ _, trivial⟩
  | bf => exact ⟨ρ, r, Mono.refl _ _, trivial⟩

theorem relCell {n id i j : Nat} (r : Rel w ρ Z h) (hr : CvR c n ρ) : Rel w ρ Z (mod (Option.map (cvOb c n i j)) h id) where
  len := by rw [mod_length]; exact r.len
  obj k ob hk := by
    rw [mod_get] at hk
    split at hk
    · cases hx : h[k]? with
      | none => rw [hx] at hk; cases hk
      | some x =>
        rw [hx] at hk
        simp only [Option.map_some, Option.some.injEq] at hk
        cases x with
        | none => cases hk
        | some ob0 =>
          simp only [Option.map_some, Option.some.injEq] at hk
          subst hk
          unfold cvOb
          split
          · exact r.obj k ob0 hx
          · rename_i hfl
            rcases r.obj k ob0 hx with ⟨L, h1, h2⟩ | ⟨h1, h2⟩
            · left
              refine ⟨L, h1, ?_⟩
              obtain ⟨arr, T, a1, a2, a3⟩ := h2.ex
              refine ⟨⟨arr, T, a1, a2, fun k' e jj x he hx => ?_⟩, h2.sz, by simpa [mod_length] using h2.ln, by simpa [mod_length] using h2.room, h2.nz, fun e he => ?_, fun cc => absurd cc hfl⟩
              · simp only at he ⊢
                rw [mod_get] at he
                split at he
                · cases hk : ob0.es[k']? with
                  | none => rw [hk] at he; cases he
                  | some e0 =>
                    rw [hk] at he
                    cases he
                    rw [mod_get] at hx
                    split at hx
                    · cases hi : e0[jj]? with
                      | none => rw [hi] at hx; cases hx
                      | some y => rw [hi] at hx; cases hx; exact cvV_V (a3 k' e0 jj y hk hi) hr
                    · exact a3 k' e0 jj x hk hx
                · exact a3 k' e jj x he hx
              · obtain ⟨k2, hk2⟩ := List.getElem?_of_mem he
                simp only at hk2 ⊢
                rw [mod_get] at hk2
                split at hk2
                · cases hk : ob0.es[k2]? with
                  | none => rw [hk] at hk2; cases hk2
                  | some e0 =>
                    rw [hk] at hk2
                    cases hk2
                    rw [mod_length]
                    exact h2.el e0 (List.mem_of_getElem? hk)
                · exact h2.el e (List.mem_of_getElem? hk2)
            · right
              exact ⟨h1, by simp [h2, mod]⟩
    · exact r.obj k ob hk
  non k hk := by
    rw [mod_get] at hk
    split at hk
    · cases hx : h[k]? with
      | none => rw [hx] at hk; cases hk
      | some x =>
        rw [hx] at hk
        simp only [Option.map_some, Option.some.injEq, Option.map_eq_none_iff] at hk
        exact r.non k (by rw [hx, hk])
    · exact r.non k hk
  inj := r.inj
  zlt := r.zlt

theorem Sim.cv1 {w0 : World} {ρ0 : List LS} {S : St} {a : Act} (hs : Sim w0 ρ0 Z S a w) (p : Pl × Cv) : Sim w0 ρ0 Z (Am.cv1 p S) a w := by
  obtain ⟨⟨ρ, r, mo, hv⟩, h1, h2⟩ := hs
  obtain ⟨pl, c⟩ := p
  obtain ⟨ρ', r', m', hr⟩ := relCv (c := c) r
  cases pl with
  | slot k =>
    refine ⟨⟨ρ', r', mo.trans m', fun i x hx => ?_⟩, by simpa [Am.cv1, mod_length] using h1, h2⟩
    simp only [Am.cv1] at hx
    rw [mod_get] at hx
    split at hx
    · cases hk : S.t[i]? with
      | none => rw [hk] at hx; cases hx
      | some y => rw [hk] at hx; cases hx; exact cvV_V ((hv i y hk).mono m') hr
    · exact (hv i x hx).mono m'
  | comp k j =>
    refine ⟨⟨ρ', r', mo.trans m', fun i x hx => ?_⟩, by simpa [Am.cv1, mod_length] using h1, h2⟩
    simp only [Am.cv1] at hx
    rw [mod_get] at hx
    split at hx
    · cases hk : S.t[i]? with
      | none => rw [hk] at hx; cases hx
      | some y => rw [hk] at hx; cases hx; exact cvC_V ((hv i y hk).mono m') hr
    · exact (hv i x hx).mono m'
  | cell id i j => exact ⟨⟨ρ', relCell r' hr, mo.trans m', fun i x hx => (hv i x hx).mono m'⟩, h1, h2⟩

theorem Sim.cvs {w0 : World} {ρ0 : List LS} {a : Act} : ∀ (ps : List (Pl × Cv)) {S : St}, Sim w0 ρ0 Z S a w → Sim w0 ρ0 Z (Am.cvs ps S) a w
  | [], _, hs => hs
  | p :: ps, _, hs => Sim.cvs ps (hs.cv1 p)

end

section
variable {C : Cx} {m : Nat} {Q : AE → St → Prop} {S : St}

theorem sem_cvs {c : Code} (ps : List (Pl × Cv)) (h : Beh C m c Q (cvs ps S)) : Beh C m c Q S :=
  fun w0 ρ0 Z a w hm hs => h w0 ρ0 Z a w hm (hs.cvs ps)

theorem sem_keepv {c : Code} (ps : List (Pl × Cv)) (ids : List Nat) (mask : List Bool) (hb : idsB m ids = true) (h : Beh C m c Q (weak ids mask (cvs ps S))) : Beh C m c Q S :=
  sem_cvs ps (sem_weak ids mask hb h)

/-- Behind a round: what is kept is the loop's next state. -/
def KeptF (m : Nat) (S' S : St) : Prop := ∃ (ps : List (Pl × Cv)) (ids : List Nat) (mask : List Bool), idsB m ids = true ∧ weak ids mask (cvs ps S) = S'

/-- A loop: its states are F a, a a datum of any kind. -/
theorem sem_loopF {α : Type} {c : Code} (ps : List (Pl × Cv)) (ids : List Nat) (mask : List Bool) (I : α → Prop) (F : α → St → St) (μ : α → Nat) (a0 : α) {S0 : St} (hb : idsB m ids = true) (hS : weak ids mask (cvs ps S) = S0)
    (hF : F a0 S0 = S0) (hI : I a0) (round : ∀ a, I a → Beh C m c (thenQ (fun S' => ∃ a', μ a' < μ a ∧ I a' ∧ KeptF m (F a' S0) S') Q) (F a S0)) : Beh C m (.loop c) Q S := by
  refine sem_loop (fun n S => ∃ (ps : List (Pl × Cv)) (ids : List Nat) (mask : List Bool) (a : α), idsB m ids = true ∧ μ a = n ∧ I a ∧ weak ids mask (cvs ps S) = F a S0) (μ a0) ⟨ps, ids, mask, a0, hb, rfl, hI, by rw [hS, hF]⟩ ?_
  rintro n S ⟨ps, ids, mask, a, hb, rfl, hI, hS⟩
  refine sem_keepv ps ids mask hb ?_
  rw [hS]
  refine sem_mono (round a hI) ?_
  intro e S h
  cases e <;> simp only [thenQ] at h ⊢
  · obtain ⟨a', h1, h2, ps, ids, mask, h3, h4⟩ := h
    exact ⟨μ a', h1, ps, ids, mask, a', h3, rfl, h2, h4⟩
  · exact h
  · exact h

theorem loop_next {α : Type} {I : α → Prop} {F : α → St} {μ : α → Nat} {n : Nat} (a' : α) (ps : List (Pl × Cv)) (ids : List Nat) (mask : List Bool) (hb : idsB m ids = true) (hS : weak ids mask (cvs ps S) = F a') (hμ : μ a' < n) (hI : I a') :
    ∃ a', μ a' < n ∧ I a' ∧ KeptF m (F a') S := ⟨a', hμ, hI, ps, ids, mask, hb, hS⟩

/-- A cut: behind x what is kept is F a. -/
theorem sem_cutF {α : Type} {x y : Code} (I : α → Prop) (F : α → St) (h : Beh C m x (thenQ (fun S' => ∃ a, I a ∧ KeptF m (F a) S') Q) S) (hy : ∀ a, I a → Beh C m y Q (F a)) : Beh C m (.seq x y) Q S :=
  sem_seq fun K hK => sem_mono h fun e S he => by
    cases e <;> simp only [thenQ] at he ⊢
    · obtain ⟨a, h1, ps, ids, mask, h3, h4⟩ := he
      exact hK S (sem_keepv ps ids mask h3 (by rw [h4]; exact hy a h1))
    · exact he
    · exact he

/-- What a function's code must do. -/
def bodyV (C : Cx) (m : Nat) (rs : List (Nat × Option Nat)) (v : AV) (h' : List (Option Ob)) : AE → St → Prop
  | .exit _, _ => False
  | _, S => ∃ (ps : List (Pl × Cv)) (ids : List Nat) (x : AV), idsB m ids = true ∧ resv C (cvs ps S) rs = some x ∧ wkV ids x = v ∧ wkH ids (cvs ps S).h = h'

theorem beh_bodyV {c : Code} {rs : List (Nat × Option Nat)} {v : AV} {h' : List (Option Ob)} (h : Beh C m c (bodyV C m rs v h') S) : Beh C m c (bodyQ C m rs v h') S :=
  fun w0 ρ0 Z a w hm hs => wp_mono (h w0 ρ0 Z a w hm hs) fun e a w he => by
    unfold post at he ⊢
    split at he
    · rename_i e' _
      obtain ⟨S, h1, h2⟩ := he
      have key : (∃ (ps : List (Pl × Cv)) (ids : List Nat) (x : AV), idsB m ids = true ∧ resv C (cvs ps S) rs = some x ∧ wkV ids x = v ∧ wkH ids (cvs ps S).h = h') → ∃ S', (∃ (ids : List Nat) (x : AV), idsB m ids = true ∧ resv C S' rs = some x ∧ v = wkV ids x ∧ h' = wkH ids S'.h) ∧ Sim w0 ρ0 Z S' a w := by
        rintro ⟨ps, ids, x, h3, h4, h5, h6⟩
        exact ⟨cvs ps S, ⟨ids, x, h3, h4, h5.symm, h6.symm⟩, h2.cvs ps⟩
      cases e' with
      | exit id => exact h1.elim
      | normal => exact key h1
      | ret => exact key h1
    · exact he

theorem con_of_body (ok : CxOk C) {f : Nat} {fn : Func} {c : Code} {args : List AV} {h : List (Option Ob)} {v : AV} {h' : List (Option Ob)} (rs : List (Nat × Option Nat))
    (hf : C.P.funcs[f]? = some fn) (hb : fn.body = some c) (hnm : (fn.name == "runtime.NumGoroutine") = false) (hr : fn.results = (rs.map resVar).toArray)
    (hs : Beh C h.length c (bodyV C h.length rs v h') ⟨args ++ List.replicate (fn.ntmps - args.length) .u, h⟩) : Con C.P f args h v h' :=
  con_of_sem ok rs hf hb hnm hr (beh_bodyV hs)

theorem body_ret {rs : List (Nat × Option Nat)} {v x : AV} {h' : List (Option Ob)} (ps : List (Pl × Cv)) (ids : List Nat) (h1 : idsB m ids = true) (h2 : resv C (cvs ps S) rs = some x) (h3 : wkV ids x = v) (h4 : wkH ids (cvs ps S).h = h') :
    bodyV C m rs v h' .ret S := ⟨ps, ids, x, h1, h2, h3, h4⟩
theorem body_end {rs : List (Nat × Option Nat)} {v x : AV} {h' : List (Option Ob)} (ps : List (Pl × Cv)) (ids : List Nat) (h1 : idsB m ids = true) (h2 : resv C (cvs ps S) rs = some x) (h3 : wkV ids x = v) (h4 : wkH ids (cvs ps S).h = h') :
    bodyV C m rs v h' .normal S := ⟨ps, ids, x, h1, h2, h3, h4⟩

end
end Am

/- The steps of the abstract machine as equations, one for each kind of operation. -/
namespace Am
open Go

section
variable {C : Cx} {gr : Nat → Bool} {t : List AV} {h : List (Option Ob)} {K : AV → List (Option Ob) → Prop} {d : Option Nat} {ty : Nat} {pos : String} {af : Array Edge} {g : Option (Nat × Bool)}

/-- A mark that keeps a term from being worked out. -/
inductive Tok {α : Type} : α → Type where
  | mk (a : α) : Tok a

/-- What must hold first, then the rest: the rest is worked out later, under what holds. -/
def Aft (p : Prop) {q : Prop} (_ : Tok q) : Prop := p ∧ q
theorem aft_true (q : Prop) : Aft True (.mk q) = q := true_and q
theorem aft_and (p q r : Prop) : Aft (p ∧ q) (.mk r) = Aft p (.mk (Aft q (.mk r))) := by unfold Aft; exact propext and_assoc
/-- A goal that is to be worked out by the equations first. -/
def Nrm (p : Prop) : Prop := p
theorem nrm {p : Prop} (h : p) : Nrm p := h
/-- An equation whose left side is to be worked out. -/
def NrmE (p : Prop) : Prop := p
theorem nrmE {p : Prop} (h : p) : NrmE p := h
theorem aft_intro {p q : Prop} (h : p) (k : p → Nrm q) : Aft p (.mk q) := ⟨h, k h⟩
/-- A branch, worked out under its condition. -/
def Imp (p : Prop) {q : Prop} (_ : Tok q) : Prop := p → q
theorem imp_true' (q : Prop) : Imp True (.mk q) = q := propext ⟨fun h => h trivial, fun h _ => h⟩
theorem imp_false' (q : Prop) : Imp False (.mk q) = True := propext ⟨fun _ => trivial, fun _ h => h.elim⟩
theorem imp_intro' {p q : Prop} (h : p → Nrm q) : Imp p (.mk q) := h

def Then {K : AV → List (Option Ob) → Prop} (_ : Tok K) (h : List (Option Ob)) : Option (Prop × Eff) → Prop
  | some (p, e) => p ∧ K e.val (applyH h h.length e)
  | none => False

theorem then_ret (v : AV) : Then (.mk K) h (ret v) = K v h := by simp [Then, ret, applyH, putAll]
theorem then_retp (p : Prop) (v : AV) : Then (.mk K) h (retp p v) = Aft p (.mk (K v h)) := by simp [Then, retp, applyH, putAll, Aft]
theorem then_some (p : Prop) (e : Eff) : Then (.mk K) h (some (p, e)) = Aft p (.mk (K e.val (applyH h h.length e))) := rfl
theorem then_none : Then (.mk K) h none = False := rfl

theorem applyH_pure (s : Nat) (v : AV) (rd : List Nat) : applyH h s { val := v, upd := [], new := [], rd := rd } = h := by simp [applyH, putAll]
theorem applyH_new (v : AV) (x : Option Ob) (rd : List Nat) : applyH h h.length { val := v, upd := [], new := [x], rd := rd } = h ++ [x] := by simp [applyH, putAll, putAt]
theorem applyH_upd (s : Nat) (v : AV) (id : Nat) (x : Option Ob) (rd : List Nat) : applyH h s { val := v, upd := [(id, x)], new := [], rd := rd } = h.set id x := by simp [applyH, putAll]
theorem applyH_both (v : AV) (id : Nat) (x y : Option Ob) (rd : List Nat) : applyH h h.length { val := v, upd := [(id, x)], new := [y], rd := rd } = h.set id x ++ [y] := by
  simp [applyH, putAll, putAt]

theorem does_move (x : Operand) : Does C gr ⟨t, h⟩ ⟨d, .move x, ty, pos, af, g⟩ K = K (opd t x) h := then_ret _
theorem does_assign (x : Operand) : Does C gr ⟨t, h⟩ ⟨d, .assign x, ty, pos, af, g⟩ K = K (opd t x) h := then_ret _
theorem does_pick (c x y : Operand) : Does C gr ⟨t, h⟩ ⟨d, .pick c x y, ty, pos, af, g⟩ K = Then (.mk K) h (match opd t c with
    | .v (.bool b) => ret (avif b (opd t x) (opd t y))
    | _ => none) := rfl
theorem does_alloc (T : Nat) : Does C gr ⟨t, h⟩ ⟨d, .alloc T, ty, pos, af, g⟩ K = Then (.mk K) h (if (C.ti T).ok = false then none else some (True, { val := .p h.length 0 0, upd := [], new := [some { es := [(C.ti T).zero], sz := (C.ti T).size, flat := false }], rd := [] })) := rfl
theorem does_box (T : Nat) (x : Operand) : Does C gr ⟨t, h⟩ ⟨d, .box T x, ty, pos, af, g⟩ K = Then (.mk K) h (match opd t x with
    | .agg cs => some (True, { val := .p h.length 0 0, upd := [], new := [some { es := [cs], sz := cs.length, flat := false }], rd := [] })
    | a => if isCell a then some (True, { val := .p h.length 0 0, upd := [], new := [some { es := [[a]], sz := 1, flat := false }], rd := [] }) else none) := rfl
theorem does_load (T : Nat) (a : Operand) : Does C gr ⟨t, h⟩ ⟨d, .load T a, ty, pos, af, g⟩ K = Then (.mk K) h (if (C.ti T).ok = false then none else evLoad C (hp h) T (opd t a)) := rfl
theorem does_store (T : Nat) (a x : Operand) : Does C gr ⟨t, h⟩ ⟨d, .store T a x, ty, pos, af, g⟩ K = Then (.mk K) h (if (C.ti T).ok = false then none else match opd t a with
    | .p id i f => match hp h id with
      | some ob =>
        let ys := cells (opd t x)
        if ys.length = (C.ti T).size ∧ ys.all isCell = true ∧ (ob.flat = true → ys.all immc = true) then
          some (i < ob.es.length ∧ f + ys.length ≤ ob.sz, { val := .u, upd := [(id, some { ob with es := ob.es.set i (repl (ob.es.getD i []) f ys) })], new := [], rd := [id] })
        else none
      | none => none
    | _ => none) := rfl
theorem does_nilCheck (x : Operand) : Does C gr ⟨t, h⟩ ⟨d, .nilCheck x, ty, pos, af, g⟩ K = Then (.mk K) h (match opd t x with
    | .p id i f => match hp h id with
      | some _ => some (True, { val := .p id i f, upd := [], new := [], rd := [id] })
      | none => none
    | .pb cs f => ret (.pb cs f)
    | .fn f caps => ret (.fn f caps)
    | _ => none) := rfl
theorem does_bin (op : BinOp) (T : Nat) (x y : Operand) (z) : Does C gr ⟨t, h⟩ ⟨d, .binOp op T x y z, ty, pos, af, g⟩ K = Then (.mk K) h (if isNilS y then nilCmp C op T (opd t x) else bin C op T (opd t x) (opd t y)) := rfl
theorem does_un (op : UnOp) (T : Nat) (x : Operand) : Does C gr ⟨t, h⟩ ⟨d, .unOp op T x, ty, pos, af, g⟩ K = Then (.mk K) h (un op (opd t x)) := rfl
theorem does_convert (a b : Nat) (x : Operand) : Does C gr ⟨t, h⟩ ⟨d, .convert a b x, ty, pos, af, g⟩ K = Then (.mk K) h (match (C.ti a).k, (C.ti b).k, opd t x with
    | .int _, .int k, .v (.int _ n) => ret (.v (.int k (k.wrap n)))
    | .str, .str, .v (.string s) => ret (.v (.string s))
    | .sl el, .str, a => match (C.ti el).k, rdSlice (hp h) a with
      | .int .u8, some (es, ids) => some (∀ e ∈ es, isByte e = true, { val := .v (.string (strOf es)), upd := [], new := [], rd := ids })
      | _, _ => none
    | _, _, _ => none) := rfl
theorem does_build (T : Nat) (ps : Array (Nat × Operand)) : Does C gr ⟨t, h⟩ ⟨d, .build T ps, ty, pos, af, g⟩ K = Then (.mk K) h (match (C.ti T).k with
    | .st fs => match partsOk fs (ps.toList.map fun ix => (ix.1, opd t ix.2)) with
      | some l => retp (∀ p ∈ l, p.1 + p.2.length ≤ (C.ti T).size) (.agg (place (C.ti T).zero l))
      | none => none
    | .arr n el => match arrOk n (C.ti el).size (ps.toList.map fun ix => (ix.1, opd t ix.2)) with
      | some l => retp (∀ p ∈ l, p.1 + p.2.length ≤ (C.ti T).size) (.agg (place (C.ti T).zero l))
      | none => none
    | _ => none) := rfl
theorem does_buildSlice (T len : Nat) (ps : Array (Nat × Operand)) : Does C gr ⟨t, h⟩ ⟨d, .buildSlice T len ps, ty, pos, af, g⟩ K = Then (.mk K) h (match (C.ti T).k with
    | .sl el => if len = 0 then (if ps.toList.isEmpty then ret .nl else none) else
        let l := ps.toList.map fun ix => (ix.1, opd t ix.2)
        if elsOk len (C.ti el).size l && decide (len * (C.ti el).size ≤ 16777216) && decide (0 < (C.ti el).size) then
          let es := placeEl (List.replicate len (C.ti el).zero) l
          some (True, { val := .sl h.length 0 len, upd := [], new := [some { es := es, sz := (C.ti el).size, flat := (es.all fun e => e.all immc) && !gr el }], rd := [] })
        else none
    | _ => none) := rfl
theorem does_makeSlice (T : Nat) (n m : Operand) : Does C gr ⟨t, h⟩ ⟨d, .makeSlice T n m, ty, pos, af, g⟩ K = Then (.mk K) h (match (C.ti T).k, opd t n, opd t m with
    | .sl el, .v (.int _ a), .v (.int _ b) => if (C.ti el).bytes ≤ 128 ∧ 0 < (C.ti el).size then
        some (0 ≤ a ∧ a ≤ 549755813888 ∧ a = b, { val := .sl h.length 0 a.toNat, upd := [], new := [some { es := List.replicate a.toNat (C.ti el).zero, sz := (C.ti el).size, flat := (C.ti el).zero.all immc && !gr el }], rd := [] })
      else none
    | _, _, _ => none) := rfl
theorem does_slice (T : Nat) (x : Operand) (lo hi : Option Operand) : Does C gr ⟨t, h⟩ ⟨d, .slice T x lo hi none, ty, pos, af, g⟩ K = Then (.mk K) h (evSlice C (hp h) T (opd t x) (lo.map (opd t)) (hi.map (opd t))) := rfl
theorem does_fieldAddr (T : Nat) (x : Operand) (f : Nat) : Does C gr ⟨t, h⟩ ⟨d, .fieldAddr T x f, ty, pos, af, g⟩ K = Then (.mk K) h (match (C.ti T).k, opd t x with
    | .st fs, .p id i g => match fs[f]?, hp h id with
      | some (off, sz, _), some _ => if sz = 0 then none else some (True, { val := .p id i (g + off), upd := [], new := [], rd := [id] })
      | _, _ => none
    | .st fs, .pb cs g => match fs[f]? with
      | some (off, sz, _) => if sz = 0 then none else ret (.pb cs (g + off))
      | none => none
    | _, _ => none) := rfl
theorem does_field (T : Nat) (x : Operand) (f : Nat) : Does C gr ⟨t, h⟩ ⟨d, .field T x f, ty, pos, af, g⟩ K = Then (.mk K) h (match (C.ti T).k, opd t x with
    | .st fs, .agg cs => match fs[f]? with
      | some (off, sz, ag) => retp (off + (if ag then sz else 1) ≤ cs.length) (if ag then .agg ((cs.drop off).take sz) else cs.getD off .u)
      | none => none
    | _, _ => none) := rfl
theorem does_indexAddr (T : Nat) (x ix : Operand) : Does C gr ⟨t, h⟩ ⟨d, .indexAddr T x ix, ty, pos, af, g⟩ K = Then (.mk K) h (match (C.ti T).k, opd t x, opd t ix with
    | .sl el, .sl id off len, .v (.int _ i) => match hp h id with
      | some ob => if ob.sz = (C.ti el).size then some (0 ≤ i ∧ i < len, { val := .p id (off + i.toNat) 0, upd := [], new := [], rd := [id] }) else none
      | none => none
    | .sl el, .bor _ es, .v (.int _ i) => retp ((0 ≤ i ∧ i < es.length) ∧ (es.getD i.toNat []).length = (C.ti el).size) (.pb (es.getD i.toNat []) 0)
    | _, _, _ => none) := rfl
theorem does_index (T : Nat) (x ix : Operand) : Does C gr ⟨t, h⟩ ⟨d, .index T x ix, ty, pos, af, g⟩ K = Then (.mk K) h (match (C.ti T).k, opd t x, opd t ix with
    | .str, .v (.string s), .v (.int _ i) => retp (0 ≤ i ∧ i < s.size) (strIndex s i.toNat)
    | .arr n el, .agg cs, .v (.int _ i) => retp (0 ≤ i ∧ i < n ∧ cs.length = n * (C.ti el).size) (ldv (C.ti el) cs (i.toNat * (C.ti el).size))
    | _, _, _ => none) := rfl
theorem does_extract (x : Operand) (ix : Nat) : Does C gr ⟨t, h⟩ ⟨d, .extract x ix, ty, pos, af, g⟩ K = Then (.mk K) h (match opd t x with
    | .tup cs => retp (ix < cs.length) (cs.getD ix .u)
    | _ => none) := rfl
theorem does_makeFunc (f : Nat) (caps : Array Operand) : Does C gr ⟨t, h⟩ ⟨d, .makeFunc (.func f) #[] caps, ty, pos, af, g⟩ K = K (.fn f (caps.toList.map (opd t))) h := then_ret _
theorem does_builtin (b : Builtin) (args : Array Operand) (tys : Array Nat) : Does C gr ⟨t, h⟩ ⟨d, .call ⟨.builtin b, args, tys⟩, ty, pos, af, g⟩ K =
    Then (.mk K) h (evBuiltin C gr (opd t) (hp h) h.length ⟨.builtin b, args, tys⟩ b) := rfl
theorem does_call (f : Nat) (args : Array Operand) (tys : Array Nat) : Does C gr ⟨t, h⟩ ⟨d, .call ⟨.value (.func f), args, tys⟩, ty, pos, af, g⟩ K =
    ∃ (mv : List Nat) (v : AV) (h' : List (Option Ob)), mv.Nodup ∧ (∀ id, id ∈ mv → ∃ ob, hp h id = some ob) ∧ mv.length ≤ h'.length ∧
        Con C.P f (expL mv (hp h) (args.toList.map (opd t) ++ [])) (objsOf (hp h) mv) v h' ∧ K (imp mv h.length v) (backH h mv h.length h') := rfl
theorem does_callv (x : Operand) (args : Array Operand) (tys : Array Nat) {f : Nat} {caps : List AV} (hx : opd t x = .fn f caps) : Does C gr ⟨t, h⟩ ⟨d, .call ⟨.value x, args, tys⟩, ty, pos, af, g⟩ K =
    ∃ (mv : List Nat) (v : AV) (h' : List (Option Ob)), mv.Nodup ∧ (∀ id, id ∈ mv → ∃ ob, hp h id = some ob) ∧ mv.length ≤ h'.length ∧
        Con C.P f (expL mv (hp h) (args.toList.map (opd t) ++ caps)) (objsOf (hp h) mv) v h' ∧ K (imp mv h.length v) (backH h mv h.length h') := by
  simp only [Does, callee, hx]

/-- A call that changes nothing of the caller's and makes nothing that stays. -/
theorem call_pure {f : Nat} {args : List AV} {v : AV} {v' : AV} (hc : Con C.P f (expL [] (hp h) args) [] v []) (hv : imp [] h.length v = v') (hK : K v' h) :
    ∃ (mv : List Nat) (v : AV) (h' : List (Option Ob)), mv.Nodup ∧ (∀ id, id ∈ mv → ∃ ob, hp h id = some ob) ∧ mv.length ≤ h'.length ∧
        Con C.P f (expL mv (hp h) args) (objsOf (hp h) mv) v h' ∧ K (imp mv h.length v) (backH h mv h.length h') :=
  ⟨[], v, [], by simp, by simp, by simp, hc, by rw [hv]; simpa [backH, putAll] using hK⟩

theorem ofV_int (k : IntKind) (n : Int) : ofV (.int k n) = .v (.int k n) := rfl
theorem ofV_bool (b : Bool) : ofV (.bool b) = .v (.bool b) := rfl
theorem ofV_str (s : ByteArray) : ofV (.string s) = .v (.string s) := rfl
theorem ofV_nil : ofV (.slice none 0 0) = .nl := rfl
theorem opd_tmp (n : Nat) : opd t (.tmp n) = t.getD n .u := rfl
theorem opd_const (x : Value) : opd t (.const x) = ofV x := rfl
theorem opd_func (f : Nat) : opd t (.func f) = .fn f [] := rfl

theorem bin_int (op : BinOp) (T : Nat) (k : IntKind) (a b : Int) (h1 : op ≠ .shl) (h2 : op ≠ .shr) : bin C op T (.v (.int k a)) (.v (.int k b)) = intBin op k a b := by
  cases op <;> simp_all [bin]
theorem bin_shl (T : Nat) (k k' : IntKind) (a b : Int) : bin C .shl T (.v (.int k a)) (.v (.int k' b)) = retp (0 ≤ b) (.v (.int k (k.wrap (a * 2 ^ (min b.toNat k.bits))))) := rfl
theorem bin_shr (T : Nat) (k k' : IntKind) (a b : Int) : bin C .shr T (.v (.int k a)) (.v (.int k' b)) = retp (0 ≤ b) (.v (.int k (a.fdiv (2 ^ (min b.toNat k.bits))))) := rfl
theorem bin_add (T : Nat) (k : IntKind) (a b : Int) : bin C .add T (.v (.int k a)) (.v (.int k b)) = ret (.v (.int k (k.wrap (a + b)))) := by simp [bin, intBin]
theorem bin_sub (T : Nat) (k : IntKind) (a b : Int) : bin C .sub T (.v (.int k a)) (.v (.int k b)) = ret (.v (.int k (k.wrap (a - b)))) := by simp [bin, intBin]
theorem bin_mul (T : Nat) (k : IntKind) (a b : Int) : bin C .mul T (.v (.int k a)) (.v (.int k b)) = ret (.v (.int k (k.wrap (a * b)))) := by simp [bin, intBin]
theorem bin_quo (T : Nat) (k : IntKind) (a b : Int) : bin C .quo T (.v (.int k a)) (.v (.int k b)) = retp (b ≠ 0) (.v (.int k (k.wrap (a.tdiv b)))) := by simp [bin, intBin]
theorem bin_rem (T : Nat) (k : IntKind) (a b : Int) : bin C .rem T (.v (.int k a)) (.v (.int k b)) = retp (b ≠ 0) (.v (.int k (a.tmod b))) := by simp [bin, intBin]
theorem bin_and (T : Nat) (k : IntKind) (a b : Int) : bin C .and T (.v (.int k a)) (.v (.int k b)) = ret (.v (.int k (bitop .and k a b))) := by simp [bin, intBin]
theorem bin_or (T : Nat) (k : IntKind) (a b : Int) : bin C .or T (.v (.int k a)) (.v (.int k b)) = ret (.v (.int k (bitop .or k a b))) := by simp [bin, intBin]
theorem bin_xor (T : Nat) (k : IntKind) (a b : Int) : bin C .xor T (.v (.int k a)) (.v (.int k b)) = ret (.v (.int k (bitop .xor k a b))) := by simp [bin, intBin]
theorem bin_andNot (T : Nat) (k : IntKind) (a b : Int) : bin C .andNot T (.v (.int k a)) (.v (.int k b)) = ret (.v (.int k (bitop .andNot k a b))) := by simp [bin, intBin]
theorem bin_eql (T : Nat) (k : IntKind) (a b : Int) : bin C .eql T (.v (.int k a)) (.v (.int k b)) = ret (.v (.bool (decide (a = b)))) := by simp [bin, intBin]
theorem bin_neq (T : Nat) (k : IntKind) (a b : Int) : bin C .neq T (.v (.int k a)) (.v (.int k b)) = ret (.v (.bool (!decide (a = b)))) := by simp [bin, intBin]
theorem bin_lss (T : Nat) (k : IntKind) (a b : Int) : bin C .lss T (.v (.int k a)) (.v (.int k b)) = ret (.v (.bool (decide (a < b)))) := by simp [bin, intBin]
theorem bin_leq (T : Nat) (k : IntKind) (a b : Int) : bin C .leq T (.v (.int k a)) (.v (.int k b)) = ret (.v (.bool (decide (a ≤ b)))) := by simp [bin, intBin]
theorem bin_gtr (T : Nat) (k : IntKind) (a b : Int) : bin C .gtr T (.v (.int k a)) (.v (.int k b)) = ret (.v (.bool (decide (b < a)))) := by simp [bin, intBin]
theorem bin_geq (T : Nat) (k : IntKind) (a b : Int) : bin C .geq T (.v (.int k a)) (.v (.int k b)) = ret (.v (.bool (decide (b ≤ a)))) := by simp [bin, intBin]
theorem un_not (b : Bool) : un .not (.v (.bool b)) = ret (.v (.bool (!b))) := rfl
theorem un_neg (k : IntKind) (a : Int) : un .neg (.v (.int k a)) = ret (.v (.int k (k.wrap (0 - a)))) := rfl

theorem hp_zero (x : Option Ob) (l : List (Option Ob)) : hp (x :: l) 0 = x := rfl
theorem hp_succ (x : Option Ob) (l : List (Option Ob)) (n : Nat) : hp (x :: l) (n + 1) = hp l n := rfl

theorem wrap_i64 {x : Int} (h0 : -9223372036854775808 ≤ x) (h1 : x < 9223372036854775808) : IntKind.i64.wrap x = x := by
  simp [IntKind.wrap, IntKind.bits, IntKind.signed]
  omega
theorem wrap_u8 {x : Int} (h0 : 0 ≤ x) (h1 : x < 256) : IntKind.u8.wrap x = x := by
  simp [IntKind.wrap, IntKind.bits, IntKind.signed]
  omega
theorem wrap_u32 {x : Int} (h0 : 0 ≤ x) (h1 : x < 4294967296) : IntKind.u32.wrap x = x := by
  simp [IntKind.wrap, IntKind.bits, IntKind.signed]
  omega
end
end Am

/- An operation sees only its operands, and of the heap only what it reads. -/
namespace Am
open Go

section
variable {C : Cx} {gr : Nat → Bool} {ρv ρv' : Operand → AV} {H H' : Nat → Option Ob} {s : Nat} {o : Oper}

theorem rdSlice_mono (hH : ∀ id ob, H' id = some ob → H id = some ob) {a : AV} {r : List (List AV) × List Nat} (h : rdSlice H' a = some r) : rdSlice H a = some r := by
  unfold rdSlice at h ⊢
  split at h
  · exact h
  · exact h
  · rename_i id off len
    split at h
    · rename_i ob hob
      simp only [hH _ _ hob]
      exact h
    · cases h
  · cases h

theorem rdFlat_mono (hH : ∀ id ob, H' id = some ob → H id = some ob) {a : AV} {r : List (List AV) × List Nat} (h : rdSlice H' a = some r) : rdFlat H a = rdFlat H' a := by
  unfold rdSlice at h
  split at h
  · rfl
  · rfl
  · rename_i id off len
    split at h
    · rename_i ob hob
      simp only [rdFlat, hH _ _ hob, hob]
    · cases h
  · cases h

theorem evLoad_mono (hH : ∀ id ob, H' id = some ob → H id = some ob) {T : Nat} {a : AV} {x : Prop × Eff} (h : evLoad C H' T a = some x) : evLoad C H T a = some x := by
  unfold evLoad at h ⊢
  split at h
  · split at h
    · rename_i ob hob
      simp only [hH _ _ hob]
      exact h
    · cases h
  · exact h
  · cases h

theorem evSlice_mono (hH : ∀ id ob, H' id = some ob → H id = some ob) {T : Nat} {a : AV} {lo hi : Option AV} {x : Prop × Eff} (h : evSlice C H' T a lo hi = some x) : evSlice C H T a lo hi = some x := by
  unfold evSlice at h ⊢
  split at h
  · exact h
  · split at h
    · exact h
    · exact h
    · rename_i h1 h2 id off len l hh h3 h4
      split at h
      · rename_i ob hob
        simp only [hH _ _ hob]
        exact h
      · cases h
    · cases h
  · cases h

theorem evAppend_mono (hH : ∀ id ob, H' id = some ob → H id = some ob) {T : Nat} {a b : AV} {x : Prop × Eff} (h : evAppend C gr H' s T a b = some x) : evAppend C gr H s T a b = some x := by
  unfold evAppend at h ⊢
  split at h
  case h_2 => cases h
  rename_i el hel
  simp only at h ⊢
  cases hr : rdSlice H' b with
  | none => rw [hr] at h; simp at h
  | some r =>
    rw [rdSlice_mono hH hr, rdFlat_mono hH hr]
    rw [hr] at h
    simp only at h ⊢
    split at h
    case isFalse => cases h
    rename_i hb
    rw [if_pos hb]
    split at h
    · exact h
    · split at h
      · rename_i ob hob
        simp only [hH _ _ hob]
        exact h
      · cases h
    · cases h

theorem ev_mono (hH : ∀ id ob, H' id = some ob → H id = some ob) {x : Prop × Eff} (h : ev C gr ρv H' s o = some x) : ev C gr ρv H s o = some x := by
  cases ho : o.op with
  | load T a =>
    simp only [ev, ho] at h ⊢
    split at h
    · cases h
    · rename_i hT; rw [if_neg hT]; exact evLoad_mono hH h
  | store T a y =>
    simp only [ev, ho] at h ⊢
    split at h
    · cases h
    · rename_i hT
      rw [if_neg hT]
      split at h
      · rename_i id i f hp0
        split at h
        · rename_i ob hob
          try simp only [hp0, hH _ _ hob]
          exact h
        · cases h
      · cases h
  | nilCheck y =>
    simp only [ev, ho] at h ⊢
    split at h
    · rename_i id i f hp0
      split at h
      · rename_i ob hob
        try simp only [hp0, hH _ _ hob]
        exact h
      · cases h
    · rename_i hp0; (try simp only [hp0]); exact h
    · rename_i hp0; (try simp only [hp0]); exact h
    · cases h
  | convert a b y =>
    simp only [ev, ho] at h ⊢
    split at h
    · rename_i h1 h2 h3; (try simp only [h1, h2, h3]); exact h
    · rename_i h1 h2 h3; (try simp only [h1, h2, h3]); exact h
    · rename_i h1 h2
      try simp only [h1, h2]
      split at h
      · rename_i h3 h4
        try simp only [h3, rdSlice_mono hH h4]
        exact h
      · cases h
    · cases h
  | slice T y lo hi mx =>
    simp only [ev, ho] at h ⊢
    split at h
    · exact evSlice_mono hH h
    · cases h
  | fieldAddr T y f =>
    simp only [ev, ho] at h ⊢
    split at h
    · rename_i h1 h2
      try simp only [h1, h2]
      split at h
      · rename_i h3 h4
        try simp only [h3, hH _ _ h4]
        exact h
      · cases h
    · rename_i h1 h2; (try simp only [h1, h2]); exact h
    · cases h
  | indexAddr T y ix =>
    simp only [ev, ho] at h ⊢
    split at h
    · rename_i h1 h2 h3
      try simp only [h1, h2, h3]
      split at h
      · rename_i h4
        try simp only [hH _ _ h4]
        exact h
      · cases h
    · rename_i h1 h2 h3; (try simp only [h1, h2, h3]); exact h
    · cases h
  | call c =>
    simp only [ev, ho] at h ⊢
    split at h
    case h_2 => cases h
    rename_i b hb
    unfold evBuiltin at h ⊢
    split at h
    · exact h
    · exact h
    · exact h
    · split at h
      · split at h
        · exact evAppend_mono hH h
        · cases h
      · cases h
    · cases h
  | _ => simp only [ev, ho] at h ⊢ <;> exact h

theorem map_congr2 {ps : List (Nat × Operand)} (hc : ∀ x, x ∈ ps.map (·.2) → ρv x = ρv' x) : (ps.map fun ix => (ix.1, ρv ix.2)) = ps.map fun ix => (ix.1, ρv' ix.2) :=
  List.map_congr_left fun ix hix => by rw [hc ix.2 (List.mem_map.2 ⟨ix, hix, rfl⟩)]

theorem ev_congr (hc : ∀ x, x ∈ o.op.operands → ρv x = ρv' x) : ev C gr ρv H s o = ev C gr ρv' H s o := by
  cases ho : o.op with
  | move x => simp only [ev, ho]; rw [hc x (by simp [ho, Op.operands])]
  | assign x => simp only [ev, ho]; rw [hc x (by simp [ho, Op.operands])]
  | pick c x y => simp only [ev, ho]; rw [hc c (by simp [ho, Op.operands]), hc x (by simp [ho, Op.operands]), hc y (by simp [ho, Op.operands])]
  | alloc T => simp only [ev, ho]
  | box T x => simp only [ev, ho]; rw [hc x (by simp [ho, Op.operands])]
  | build T ps => simp only [ev, ho]; rw [map_congr2 (ρv := ρv) (ρv' := ρv') (ps := ps.toList) fun x hx => hc x (by simp only [ho, Op.operands, List.mem_toArray]; exact hx)]
  | buildSlice T n ps => simp only [ev, ho]; rw [map_congr2 (ρv := ρv) (ρv' := ρv') (ps := ps.toList) fun x hx => hc x (by simp only [ho, Op.operands, List.mem_toArray]; exact hx)]
  | load T x => simp only [ev, ho]; rw [hc x (by simp [ho, Op.operands])]
  | store T a x => simp only [ev, ho]; rw [hc a (by simp [ho, Op.operands]), hc x (by simp [ho, Op.operands])]
  | nilCheck x => simp only [ev, ho]; rw [hc x (by simp [ho, Op.operands])]
  | binOp op T x y z => simp only [ev, ho]; rw [hc x (by simp [ho, Op.operands]), hc y (by simp [ho, Op.operands])]
  | unOp op T x => simp only [ev, ho]; rw [hc x (by simp [ho, Op.operands])]
  | convert a b x => simp only [ev, ho]; rw [hc x (by simp [ho, Op.operands])]
  | makeSlice T n m => simp only [ev, ho]; rw [hc n (by simp [ho, Op.operands]), hc m (by simp [ho, Op.operands])]
  | slice T x lo hi mx =>
    simp only [ev, ho]
    have h1 : lo.map ρv = lo.map ρv' := by
      cases lo with
      | none => rfl
      | some y => simp only [Option.map_some]; rw [hc y (by simp [ho, Op.operands])]
    have h2 : hi.map ρv = hi.map ρv' := by
      cases hi with
      | none => rfl
      | some y => simp only [Option.map_some]; rw [hc y (by simp [ho, Op.operands])]
    rw [hc x (by simp [ho, Op.operands]), h1, h2]
  | fieldAddr T x f => simp only [ev, ho]; rw [hc x (by simp [ho, Op.operands])]
  | field T x f => simp only [ev, ho]; rw [hc x (by simp [ho, Op.operands])]
  | indexAddr T x i => simp only [ev, ho]; rw [hc x (by simp [ho, Op.operands]), hc i (by simp [ho, Op.operands])]
  | index T x i => simp only [ev, ho]; rw [hc x (by simp [ho, Op.operands]), hc i (by simp [ho, Op.operands])]
  | extract x i => simp only [ev, ho]; rw [hc x (by simp [ho, Op.operands])]
  | makeFunc f first caps =>
    simp only [ev, ho]
    have : caps.toList.map ρv = caps.toList.map ρv' := List.map_congr_left fun x hx => hc x (by simp only [ho, Op.operands, Array.mem_append]; right; simpa using hx)
    rw [this]
  | call c =>
    simp only [ev, ho]
    split
    case h_2 => rfl
    rename_i b hb
    have hc2 : ∀ x, x ∈ c.args.toList → ρv x = ρv' x := fun x hx => hc x (by simp only [ho, Op.operands, Call.operands, hb]; simpa using hx)
    unfold evBuiltin
    split
    · rename_i x ha; rw [hc2 x (by rw [ha]; simp)]
    · rename_i x y ha; rw [hc2 x (by rw [ha]; simp), hc2 y (by rw [ha]; simp)]
    · rename_i x y ha; rw [hc2 x (by rw [ha]; simp), hc2 y (by rw [ha]; simp)]
    · rename_i x y ha; rw [hc2 x (by rw [ha]; simp), hc2 y (by rw [ha]; simp)]
    · rfl
  | _ => simp only [ev, ho]

theorem step_congr (hc : ∀ x, x ∈ o.op.operands → ρv x = ρv' x) {e : Eff} (h : Step C gr ρv H s o e) : Step C gr ρv' H s o e := by
  unfold Step at h ⊢
  split at h
  · rename_i c x hcal
    obtain ⟨f, caps, mv, v, h', hx, h1, h2, h3, h4, h5⟩ := h
    have hcal2 : o.op = .call c ∧ c.callee = .value x := by
      unfold callee at hcal
      split at hcal
      · rename_i c2 hc2
        split at hcal
        · rename_i x2 hx2; cases hcal; exact ⟨hc2, hx2⟩
        · cases hcal
      · cases hcal
    have hx2 : ρv x = ρv' x := hc x (by simp [hcal2.1, Op.operands, Call.operands, hcal2.2])
    have ha : c.args.toList.map ρv = c.args.toList.map ρv' := List.map_congr_left fun y hy => hc y (by simp only [hcal2.1, Op.operands, Call.operands, hcal2.2, Array.mem_append]; right; simpa using hy)
    exact ⟨f, caps, mv, v, h', by rw [← hx2]; exact hx, h1, h2, h3, by rw [← ha]; exact h4, h5⟩
  · obtain ⟨p, h1, h2⟩ := h
    exact ⟨p, by rw [← ev_congr hc]; exact h1, h2⟩

end
end Am

/- Operations that touch different things may change places. -/
namespace Am
open Go

/-- Where an operation of a drawn region puts its new objects, and what it reads and writes. -/
structure Dr where
  s : Nat
  rm : Nat
  rd : List Nat
  wr : List Nat

def hpr (R : List Nat) (h : List (Option Ob)) : Nat → Option Ob := fun id => if R.elem id then hp h id else none

def wantA (ops : Array Oper) (t : List AV) (o : Oper) : Option Bool := match o.guard with
  | none => some true
  | some (j, want) => match (ops[j]?).bind (·.dst) with
    | some d => match t.getD d .u with
      | .v (.bool b) => some (b == want)
      | .v (.tuple _) => some false
      | _ => none
    | none => none

def eSkip : Eff := { val := .v undef, upd := [], new := [], rd := [] }

def DE (C : Cx) (gr : Nat → Bool) (ops : Array Oper) (S : St) (o : Oper) (D : Dr) (e : Eff) : Prop :=
  ((wantA ops S.t o = some true ∧ Step C gr (opd S.t) (hpr D.rd S.h) D.s o e) ∨ (wantA ops S.t o = some false ∧ e = eSkip)) ∧ e.new.length ≤ D.rm ∧ ∀ p ∈ e.upd, p.1 ∈ D.wr

def upS (S : St) (o : Oper) (D : Dr) (e : Eff) : St := ⟨putT S.t o.dst e.val, applyH S.h D.s e⟩

def keys (D : Dr) : List Nat := D.wr ++ List.range' D.s D.rm

def heapApart (x y : Dr) : Bool := (keys x).all (fun k => !(y.rd.elem k) && !((keys y).elem k)) && (keys y).all fun k => !(x.rd.elem k)

section
variable {C : Cx} {gr : Nat → Bool} {ops : Array Oper} {S S' : St} {o o' : Oper} {D D' : Dr} {e e' : Eff} {n : Nat}

abbrev setL (l : List (Option Ob)) (ps : List (Nat × Option Ob)) : List (Option Ob) := ps.foldl (fun h p => h.set p.1 p.2) l

theorem setL_length (ps : List (Nat × Option Ob)) (l : List (Option Ob)) : (setL l ps).length = l.length := setAll_length l ps

theorem setL_set (ps : List (Nat × Option Ob)) : ∀ (l : List (Option Ob)) (k : Nat) (x : Option Ob), (∀ p ∈ ps, p.1 ≠ k) → setL (l.set k x) ps = (setL l ps).set k x := by
  induction ps with
  | nil => intro l k x _; rfl
  | cons p ps ih =>
    intro l k x hk
    simp only [setL, List.foldl_cons]
    rw [List.set_comm _ _ (hk p (by simp)).symm]
    exact ih _ k x fun q hq => hk q (by simp [hq])

theorem setL_comm (qs : List (Nat × Option Ob)) : ∀ (l : List (Option Ob)) (ps : List (Nat × Option Ob)), (∀ p ∈ ps, ∀ q ∈ qs, p.1 ≠ q.1) → setL (setL l ps) qs = setL (setL l qs) ps := by
  induction qs with
  | nil => intro l ps _; rfl
  | cons q qs ih =>
    intro l ps hd
    have h1 : setL (setL l ps) (q :: qs) = setL ((setL l ps).set q.1 q.2) qs := rfl
    have h2 : setL l (q :: qs) = setL (l.set q.1 q.2) qs := rfl
    rw [h1, h2, ← setL_set ps l q.1 q.2 fun p hp => hd p hp q (by simp)]
    exact ih _ ps fun p hp r hr => hd p hp r (by simp [hr])

theorem setL_get (ps : List (Nat × Option Ob)) : ∀ (l : List (Option Ob)) (k : Nat), (∀ p ∈ ps, p.1 ≠ k) → (setL l ps)[k]? = l[k]? := by
  induction ps with
  | nil => intro l k _; rfl
  | cons p ps ih =>
    intro l k hk
    have h1 : setL l (p :: ps) = setL (l.set p.1 p.2) ps := rfl
    rw [h1, ih _ k fun q hq => hk q (by simp [hq]), List.getElem?_set_ne (hk p (by simp))]

def seqs (s : Nat) (e : Eff) : List (Nat × Option Ob) := e.upd ++ (List.range' s e.new.length).zip e.new

theorem putAll_setL : ∀ (xs : List (Option Ob)) (l : List (Option Ob)) (s : Nat), s + xs.length ≤ l.length → putAll l s xs = setL l ((List.range' s xs.length).zip xs)
  | [], l, s, _ => rfl
  | x :: xs, l, s, h => by
    simp only [List.length_cons] at h
    have h1 : putAt l s x = l.set s x := by unfold putAt; rw [if_pos (by omega)]
    simp only [putAll, h1, List.length_cons, List.range'_succ, List.zip_cons_cons]
    rw [putAll_setL xs _ (s + 1) (by simp; omega)]
    rfl

theorem applyH_setL {h : List (Option Ob)} {s : Nat} (hb : s + e.new.length ≤ h.length) : applyH h s e = setL h (seqs s e) := by
  unfold applyH seqs
  rw [putAll_setL _ _ _ (by rw [setAll_length]; exact hb)]
  simp only [setL, List.foldl_append]

theorem mem_seqs {p : Nat × Option Ob} (hn : e.new.length ≤ D.rm) (hw : ∀ p ∈ e.upd, p.1 ∈ D.wr) (hp : p ∈ seqs D.s e) : p.1 ∈ keys D := by
  unfold seqs at hp
  unfold keys
  rcases List.mem_append.1 hp with h | h
  · exact List.mem_append.2 (.inl (hw p h))
  · refine List.mem_append.2 (.inr ?_)
    have := (List.of_mem_zip h).1
    rw [List.mem_range'] at this ⊢
    obtain ⟨i, h1, h2⟩ := this
    exact ⟨i, by omega, h2⟩

theorem heapApart_spec (h : heapApart D D' = true) : (∀ k ∈ keys D, k ∉ D'.rd ∧ k ∉ keys D') ∧ ∀ k ∈ keys D', k ∉ D.rd := by
  unfold heapApart at h
  simp only [Bool.and_eq_true, List.all_eq_true] at h
  refine ⟨fun k hk => ?_, fun k hk => ?_⟩
  · have := h.1 k hk
    simpa using this
  · have := h.2 k hk
    simpa using this

theorem opd_put {t : List AV} {dst : Option Nat} {v : AV} {x : Operand} (h : ∀ d, dst = some d → x ≠ .tmp d) : opd (putT t dst v) x = opd t x := by
  cases dst with
  | none => rfl
  | some d =>
    cases x with
    | tmp k =>
      have hne : d ≠ k := fun c => h d rfl (c ▸ rfl)
      simp only [opd, putT, List.getD_eq_getElem?_getD, List.getElem?_set_ne hne]
    | _ => rfl

theorem putT_comm {t : List AV} {x y : Option Nat} (v u : AV) (h : ∀ d, x = some d → y ≠ some d) : putT (putT t x v) y u = putT (putT t y u) x v := by
  cases x with
  | none => rfl
  | some d =>
    cases y with
    | none => rfl
    | some d' =>
      have : d ≠ d' := fun c => h d rfl (c ▸ rfl)
      simp only [putT]
      rw [List.set_comm _ _ this]

theorem operand_looks {x : Operand} (hx : x ∈ o.op.operands) {d : Nat} (hd : x = .tmp d) : d ∈ o.looksAt ops := by
  subst hd
  unfold Oper.looksAt
  refine List.mem_append.2 (.inl (List.mem_filterMap.2 ⟨.tmp d, by simpa using hx, rfl⟩))

theorem want_put {t : List AV} {dst : Option Nat} {v : AV} (h : ∀ d, dst = some d → d ∉ o.looksAt ops) : wantA ops (putT t dst v) o = wantA ops t o := by
  unfold wantA
  split
  · rfl
  · rename_i j want hg
    split
    · rename_i d hd
      have hne : ∀ d', dst = some d' → (Operand.tmp d) ≠ .tmp d' := by
        intro d' hd' hc
        cases hc
        refine h d hd' ?_
        unfold Oper.looksAt
        rw [hg]
        simp only [hd]
        exact List.mem_append.2 (.inr (by simp))
      have := opd_put (t := t) (v := v) hne
      simp only [opd] at this
      rw [this]
    · rfl

theorem hpr_congr {R : List Nat} {h h' : List (Option Ob)} (hh : ∀ id ∈ R, h[id]? = h'[id]?) : hpr R h = hpr R h' := by
  funext id
  unfold hpr
  split
  · rename_i hm
    have hm' : id ∈ R := by simpa using hm
    simp only [hp, List.getD_eq_getElem?_getD, hh id hm']
  · rfl

theorem DE.local (h : DE C gr ops S o D e) (hw : wantA ops S'.t o = wantA ops S.t o) (ho : ∀ x, x ∈ o.op.operands → opd S.t x = opd S'.t x) (hh : ∀ id ∈ D.rd, S.h[id]? = S'.h[id]?) :
    DE C gr ops S' o D e := by
  obtain ⟨h1, h2, h3⟩ := h
  refine ⟨?_, h2, h3⟩
  rcases h1 with ⟨h4, h5⟩ | ⟨h4, h5⟩
  · refine .inl ⟨hw.trans h4, ?_⟩
    rw [← hpr_congr hh]
    exact step_congr ho h5
  · exact .inr ⟨hw.trans h4, h5⟩

theorem upS_length (hb : D.s + D.rm ≤ n) (hS : S.h.length = n) (h : DE C gr ops S o D e) : (upS S o D e).h.length = n := by
  obtain ⟨_, h2, _⟩ := h
  unfold upS
  simp only
  rw [applyH_setL (by omega), setL_length, hS]

theorem upS_get (hb : D.s + D.rm ≤ n) (hS : S.h.length = n) (h : DE C gr ops S o D e) {k : Nat} (hk : k ∉ keys D) : (upS S o D e).h[k]? = S.h[k]? := by
  obtain ⟨_, h2, h3⟩ := h
  unfold upS
  simp only
  rw [applyH_setL (by omega)]
  exact setL_get _ _ _ fun p hp c => hk (c ▸ mem_seqs h2 h3 hp)

/-- What is done in one order can be done in the other, and leads to the same state. -/
theorem swap (ha : o.apart ops o' = true) (hh : heapApart D D' = true) (hb : D.s + D.rm ≤ n) (hb' : D'.s + D'.rm ≤ n) (hS : S.h.length = n)
    (h : DE C gr ops S o D e) (h' : DE C gr ops (upS S o D e) o' D' e') :
    DE C gr ops S o' D' e' ∧ DE C gr ops (upS S o' D' e') o D e ∧ upS (upS S o' D' e') o D e = upS (upS S o D e) o' D' e' := by
  obtain ⟨a1, a2, a3⟩ := Oper.apart_spec ha
  obtain ⟨b1, b2⟩ := heapApart_spec hh
  have k1 : DE C gr ops S o' D' e' := h'.local (want_put a1).symm (fun x hx => opd_put fun d hd hc => a1 d hd (operand_looks hx hc))
    (fun id hid => upS_get hb hS h fun hk => (b1 id hk).1 hid)
  have k2 : DE C gr ops (upS S o' D' e') o D e := h.local (want_put a3) (fun x hx => (opd_put fun d hd hc => a3 d hd (operand_looks hx hc)).symm)
    (fun id hid => (upS_get hb' hS k1 fun hk => b2 id hk hid).symm)
  refine ⟨k1, k2, ?_⟩
  obtain ⟨_, c2, c3⟩ := h
  obtain ⟨_, d2, d3⟩ := h'
  unfold upS
  simp only
  rw [putT_comm (x := o'.dst) (y := o.dst) e'.val e.val (fun d hd hc => a2 d hc hd)]
  rw [applyH_setL (h := S.h) (s := D'.s) (by omega), applyH_setL (h := S.h) (s := D.s) (by omega), applyH_setL (by rw [setL_length]; omega), applyH_setL (by rw [setL_length]; omega)]
  rw [setL_comm]
  exact fun p hp q hq hc => (b1 q.1 (mem_seqs c2 c3 hq)).2 (hc ▸ mem_seqs d2 d3 hp)

end
end Am

/- What an operation names as read is all that it reads. -/
namespace Am
open Go

section
variable {C : Cx} {gr : Nat → Bool} {ρv : Operand → AV} {H H' : Nat → Option Ob} {s : Nat} {o : Oper} {p : Prop} {e : Eff}

theorem rdSlice_local {a : AV} {es : List (List AV)} {ids : List Nat} (h : rdSlice H a = some (es, ids)) (hH : ∀ id ob, id ∈ ids → H id = some ob → H' id = some ob) :
    rdSlice H' a = some (es, ids) ∧ rdFlat H' a = rdFlat H a := by
  unfold rdSlice at h
  split at h
  · cases h; exact ⟨rfl, rfl⟩
  · cases h; exact ⟨rfl, rfl⟩
  · rename_i id off len
    split at h
    · rename_i ob hob
      cases h
      have := hH id ob (by simp) hob
      simp only [rdSlice, rdFlat, this, hob, and_self]
    · cases h
  · cases h

theorem evAppend_local {T : Nat} {a b : AV} (h : evAppend C gr H s T a b = some (p, e)) (hH : ∀ id ob, id ∈ e.rd → H id = some ob → H' id = some ob) : evAppend C gr H' s T a b = some (p, e) := by
  unfold evAppend at h ⊢
  split at h
  case h_2 => cases h
  rename_i el hel
  simp only at h ⊢
  cases hr : rdSlice H b with
  | none => rw [hr] at h; simp at h
  | some r =>
    obtain ⟨es2, ids2⟩ := r
    rw [hr] at h
    simp only at h
    split at h
    case isFalse => cases h
    rename_i hb
    split at h
    · cases h
      obtain ⟨h1, h2⟩ := rdSlice_local hr hH
      simp only [h1, h2, if_pos hb]
    · split at h
      · rename_i ob hob
        split at h
        · rename_i hsz
          cases h
          obtain ⟨h1, h2⟩ := rdSlice_local hr (fun id ob hid ho => hH id ob (by simp [hid]) ho)
          have h3 := hH _ ob (by simp) hob
          simp only [h1, h2, if_pos hb, h3, if_pos hsz]
        · cases h
      · cases h
    · cases h

theorem ev_local (h : ev C gr ρv H s o = some (p, e)) (hH : ∀ id ob, id ∈ e.rd → H id = some ob → H' id = some ob) : ev C gr ρv H' s o = some (p, e) := by
  cases ho : o.op with
  | load T a =>
    simp only [ev, ho] at h ⊢
    split at h
    · cases h
    · rename_i hT
      rw [if_neg hT]
      unfold evLoad at h ⊢
      split at h
      · split at h
        · rename_i ob hob
          cases h
          simp only [hH _ ob (by simp) hob]
        · cases h
      · exact h
      · cases h
  | store T a y =>
    simp only [ev, ho] at h ⊢
    split at h
    · cases h
    · rename_i hT
      rw [if_neg hT]
      split at h
      · rename_i id i f hp0
        split at h
        · rename_i ob hob
          split at h
          · rename_i hc
            cases h
            simp only [hH _ ob (by simp) hob]
            rw [if_pos hc]
          · cases h
        · cases h
      · cases h
  | nilCheck y =>
    simp only [ev, ho] at h ⊢
    split at h
    · rename_i id i f hp0
      split at h
      · rename_i ob hob
        cases h
        simp only [hH _ ob (by simp) hob]
      · cases h
    · exact h
    · exact h
    · cases h
  | convert a b y =>
    simp only [ev, ho] at h ⊢
    split at h
    · exact h
    · exact h
    · split at h
      · rename_i h3 h4
        cases h
        simp only [h3, (rdSlice_local h4 hH).1]
      · cases h
    · cases h
  | slice T y lo hi mx =>
    simp only [ev, ho] at h ⊢
    split at h
    · unfold evSlice at h ⊢
      split at h
      · exact h
      · split at h
        · exact h
        · exact h
        · rename_i h1 h2 id off len l hh h3 h4
          split at h
          · rename_i ob hob
            split at h
            · rename_i hc
              cases h
              simp only [hH _ ob (by simp) hob, if_pos hc]
            · cases h
          · cases h
        · cases h
      · cases h
    · cases h
  | fieldAddr T y f =>
    simp only [ev, ho] at h ⊢
    split at h
    · split at h
      · rename_i h3 h4
        split at h
        · cases h
        · rename_i hc
          cases h
          simp only [h3, hH _ _ (by simp) h4, if_neg hc]
      · cases h
    · exact h
    · cases h
  | indexAddr T y ix =>
    simp only [ev, ho] at h ⊢
    split at h
    · split at h
      · rename_i ob h4
        split at h
        · rename_i hc
          cases h
          simp only [hH _ ob (by simp) h4, if_pos hc]
        · cases h
      · cases h
    · exact h
    · cases h
  | call c =>
    simp only [ev, ho] at h ⊢
    split at h
    case h_2 => cases h
    rename_i b hb
    unfold evBuiltin at h ⊢
    split at h
    · exact h
    · exact h
    · exact h
    · split at h
      · split at h
        · exact evAppend_local h hH
        · cases h
      · cases h
    · cases h
  | _ => simp only [ev, ho] at h ⊢ <;> exact h

end
end Am

/- A drawn region: what its text's order does, every order does. -/
namespace Am
open Go

section
variable {C : Cx} {gr : Nat → Bool} {ops : Array Oper} {Ds : Nat → Dr} {n : Nat} {Q : St → Prop}

def dOp (C : Cx) (gr : Nat → Bool) (ops : Array Oper) (Ds : Nat → Dr) (i : Nat) (K : St → Prop) (S : St) : Prop := match ops[i]? with
  | none => K S
  | some o => ∃ e, DE C gr ops S o (Ds i) e ∧ K (upS S o (Ds i) e)

def dAny (C : Cx) (gr : Nat → Bool) (ops : Array Oper) (Ds : Nat → Dr) (Q : St → Prop) : Nat → Array Bool → St → Prop
  | 0, listed, S => Region.ready .any ops listed = [] ∧ Q S
  | f + 1, listed, S => (Region.ready .any ops listed = [] → Q S) ∧ ∀ i ∈ Region.ready .any ops listed, dOp C gr ops Ds i (dAny C gr ops Ds Q f (listed.setIfInBounds i true)) S

def dSeq (C : Cx) (gr : Nat → Bool) (ops : Array Oper) (Ds : Nat → Dr) (Q : St → Prop) : List Oper → Nat → St → Prop
  | [], _, S => Q S
  | o :: rest, k, S => ∃ e, DE C gr ops S o (Ds k) e ∧ dSeq C gr ops Ds Q rest (k + 1) (upS S o (Ds k) e)

/-- Every operation behind number i that does not wait for it touches other things. -/
def freeD (ops : Array Oper) (Ds : Nat → Dr) (listed : Array Bool) (i : Nat) : Bool :=
  match ops[i]? with
  | none => false
  | some oi => (List.range ops.size).all fun j => j == i || listed.getD j true || match ops[j]? with
      | some oj => oj.after.any (fun e => Region.binds .any e && e.on == i) || (oi.apart ops oj && heapApart (Ds i) (Ds j))
      | none => true

theorem freeD_spec {i : Nat} {oi : Oper} {listed : Array Bool} (hi : ops[i]? = some oi) (h : freeD ops Ds listed i = true) (j : Nat) (oj : Oper)
    (hj : ops[j]? = some oj) (hne : j ≠ i) (hun : listed.getD j true = false) (hno : ∀ e ∈ oj.after, Region.binds .any e = true → e.on ≠ i) :
    oi.apart ops oj = true ∧ heapApart (Ds i) (Ds j) = true := by
  simp only [freeD, hi, List.all_eq_true, List.mem_range] at h
  have h1 := h j (Array.getElem?_eq_some_iff.1 hj).1
  simp only [hj, Bool.or_eq_true, beq_iff_eq, hne, false_or, hun, Bool.false_eq_true, Bool.and_eq_true] at h1
  rcases h1 with h1 | h1
  · obtain ⟨e, he, hb⟩ := Array.any_eq_true'.1 h1
    simp only [Bool.and_eq_true, beq_iff_eq] at hb
    exact absurd hb.2 (hno e he hb.1)
  · exact h1

theorem dAny_first {i : Nat} {oi : Oper} (hi : ops[i]? = some oi) (hb : ∀ k : Nat, k < ops.size → (Ds k).s + (Ds k).rm ≤ n) :
    ∀ (f : Nat) (listed : Array Bool) (S : St), S.h.length = n →
      (∀ j oj, ops[j]? = some oj → j ≠ i → listed.getD j true = false → (∀ e ∈ oj.after, Region.binds .any e = true → e.on ≠ i) → oi.apart ops oj = true ∧ heapApart (Ds i) (Ds j) = true) →
      i ∈ Region.ready .any ops listed → (∃ e, DE C gr ops S oi (Ds i) e ∧ dAny C gr ops Ds Q f (listed.setIfInBounds i true) (upS S oi (Ds i) e)) →
      dAny C gr ops Ds Q (f + 1) listed S := by
  have hil : i < ops.size := (Array.getElem?_eq_some_iff.1 hi).1
  intro f
  induction f with
  | zero =>
    intro listed S hS _ hr H
    refine ⟨fun h => (by rw [h] at hr; cases hr), fun j hj => ?_⟩
    by_cases hji : j = i
    · subst hji; unfold dOp; rw [hi]; exact H
    · obtain ⟨e, _, h1, _⟩ := H
      have := ready_mono hj hji
      rw [h1] at this
      cases this
  | succ f ih =>
    intro listed S hS hfree hr H
    refine ⟨fun h => (by rw [h] at hr; cases hr), fun j hj => ?_⟩
    by_cases hji : j = i
    · subst hji; unfold dOp; rw [hi]; exact H
    · obtain ⟨hun, _⟩ := mem_ready.1 hr
      obtain ⟨hjun, oj, hoj, hall⟩ := mem_ready.1 hj
      have hjl : j < ops.size := (Array.getElem?_eq_some_iff.1 hoj).1
      obtain ⟨e, hE, h1⟩ := H
      have h2 := h1.2 j (ready_mono hj hji)
      unfold dOp at h2 ⊢
      rw [hoj] at h2 ⊢
      simp only at h2 ⊢
      obtain ⟨e', hE', h3⟩ := h2
      have hnot : ∀ e ∈ oj.after, Region.binds .any e = true → e.on ≠ i := fun e he hb heq => by
        have h4 := hall e he hb
        rw [heq, getD_both hun] at h4
        cases h4
      obtain ⟨a1, a2⟩ := hfree j oj hoj hji hjun hnot
      obtain ⟨k1, k2, k3⟩ := swap a1 a2 (hb i hil) (hb j hjl) hS hE hE'
      refine ⟨e', k1, ih (listed.setIfInBounds j true) _ (upS_length (hb j hjl) hS k1) (fun k ok hk hki hun hno => ?_) (ready_mono hr (Ne.symm hji)) ⟨e, k2, ?_⟩⟩
      · refine hfree k ok hk hki ?_ hno
        by_cases hjk : j = k
        · subst hjk; exact hjun
        · rw [getD_set_ne true hjk] at hun; exact hun
      · rw [k3, Array.setIfInBounds_comm _ _ hji]
        exact h3

def lexD (ops : Array Oper) (Ds : Nat → Dr) : Nat → Nat → Array Bool → Bool
  | 0, _, listed => (Region.ready .any ops listed).isEmpty
  | f + 1, k, listed => (Region.ready .any ops listed).contains k && freeD ops Ds listed k && lexD ops Ds f (k + 1) (listed.setIfInBounds k true)

theorem dAny_of_lex (hb : ∀ k : Nat, k < ops.size → (Ds k).s + (Ds k).rm ≤ n) : ∀ (l : List Oper) (k : Nat) (listed : Array Bool) (S : St), S.h.length = n → (∀ j, l[j]? = ops[k + j]?) →
    lexD ops Ds l.length k listed = true → dSeq C gr ops Ds Q l k S → dAny C gr ops Ds Q l.length listed S
  | [], k, listed, S, _, _, hB, h => ⟨by simpa [lexD] using hB, h⟩
  | o :: l, k, listed, S, hS, hl, hB, h => by
    have h0 : ops[k]? = some o := by simpa using (hl 0).symm
    simp only [List.length_cons, lexD, Bool.and_eq_true] at hB
    obtain ⟨⟨hr, hf⟩, hB'⟩ := hB
    obtain ⟨e, hE, h1⟩ := h
    have hkl : k < ops.size := (Array.getElem?_eq_some_iff.1 h0).1
    exact dAny_first h0 hb l.length listed S hS (freeD_spec h0 hf) (by simpa using hr)
      ⟨e, hE, dAny_of_lex hb l (k + 1) _ _ (upS_length (hb k hkl) hS hE) (fun j => by have := hl (j + 1); simpa [Nat.add_assoc, Nat.add_comm 1 j] using this) hB' h1⟩

/-- A state of a drawn region and a frame: who has not had his turn has his room. -/
structure SimD (ops : Array Oper) (Ds : Nat → Dr) (w0 : World) (ρ0 : List LS) (Z : Nat → Prop) (listed : Array Bool) (S : St) (a : Act) (w : World) : Prop where
  ex : ∃ ρ : List LS, Rel w ρ Z S.h ∧ Mono w0 ρ0 w ρ ∧ (∀ (k : Nat) (x : AV), S.t[k]? = some x → V w ρ Z x (a.tmps.getD k undef)) ∧
    ∀ j k : Nat, j < ops.size → listed.getD j true = false → k < (Ds j).rm → ρ[(Ds j).s + k]? = some .fresh
  tl : S.t.length ≤ a.tmps.size
  df : a.defers = []

theorem wanted_of {t : List AV} {tm : Array Value} {w : World} {ρ : List LS} {Z : Nat → Prop} (hv : ∀ (k : Nat) (x : AV), t[k]? = some x → V w ρ Z x (tm.getD k undef)) {o : Oper} {b : Bool}
    (h : wantA ops t o = some b) : Region.wanted o (yielded ops tm) = b := by
  unfold wantA at h
  split at h
  · rename_i hg
    cases h
    simp [Region.wanted, hg]
  · rename_i j want hg
    split at h
    case h_2 => cases h
    rename_i d hd
    split at h
    case h_3 => cases h
    case h_2 =>
      rename_i xs hb'
      cases h
      have hval : tm.getD d undef = .tuple xs := by
        have := V.opd hv [] (.tmp d)
        rw [show opd t (.tmp d) = .v (.tuple xs) from hb'] at this
        exact this.v_inv
      simp [Region.wanted, hg, yielded_tuple hd hval]
    rename_i b' hb'
    cases h
    have hval : tm.getD d undef = .bool b' := by
      have := V.opd hv [] (.tmp d)
      rw [show opd t (.tmp d) = .v (.bool b') from hb'] at this
      exact this.v_inv
    have hsz : d < tm.size := by
      rcases Nat.lt_or_ge d tm.size with h1 | h1
      · exact h1
      · rw [Array.getD_eq_getD_getElem?, Array.getElem?_eq_none h1] at hval
        cases hval
    have hy : yielded ops tm j = some b' := by
      unfold yielded
      rw [hd]
      simp only [Option.bind_some]
      rw [Array.getD_eq_getD_getElem?, Array.getElem?_eq_getElem hsz] at hval
      rw [Array.getElem?_eq_getElem hsz]
      simp only [Option.getD_some] at hval
      rw [hval]
    simp only [Region.wanted, hg, hy]
    cases b' <;> cases want <;> rfl

structure SlotsOk (ops : Array Oper) (Ds : Nat → Dr) (n : Nat) : Prop where
  inb : ∀ k : Nat, k < ops.size → (Ds k).s + (Ds k).rm ≤ n
  zer : ∀ k : Nat, k < ops.size → (Ds k).rm = 0 → (Ds k).s = n
  dis : ∀ i j : Nat, i < ops.size → j < ops.size → i ≠ j → ∀ k l : Nat, k < (Ds i).rm → l < (Ds j).rm → (Ds i).s + k ≠ (Ds j).s + l

theorem hpr_le {R : List Nat} {h : List (Option Ob)} : ∀ id ob, hpr R h id = some ob → hp h id = some ob := by
  intro id ob he
  unfold hpr at he
  split at he
  · exact he
  · cases he

theorem putV {w w' : World} {ρ ρ' : List LS} {Z : Nat → Prop} {t : List AV} {a : Act} (hv : ∀ (k : Nat) (x : AV), t[k]? = some x → V w ρ Z x (a.tmps.getD k undef)) (ht : t.length ≤ a.tmps.size)
    (m : Mono w ρ w' ρ') {x : AV} {cv : Value} (hx : V w' ρ' Z x cv) (d : Option Nat) :
    (∀ (k : Nat) (x' : AV), (putT t d x)[k]? = some x' → V w' ρ' Z x' ((a.put d cv).tmps.getD k undef)) ∧ (putT t d x).length ≤ (a.put d cv).tmps.size ∧ (a.put d cv).defers = a.defers := by
  cases d with
  | none => exact ⟨fun k x hx => (hv k x hx).mono m, ht, rfl⟩
  | some d =>
    refine ⟨fun k y hy => ?_, by simpa [putT, Act.put] using ht, rfl⟩
    simp only [putT, Act.put] at hy ⊢
    by_cases hd : d = k
    · subst hd
      rw [List.getElem?_set] at hy
      simp only [if_true] at hy
      split at hy
      · rename_i hlt
        cases hy
        have : d < a.tmps.size := Nat.lt_of_lt_of_le hlt ht
        simpa [this] using hx
      · cases hy
    · rw [List.getElem?_set_ne hd] at hy
      have : (a.tmps.setIfInBounds d cv).getD k undef = a.tmps.getD k undef := by
        rw [Array.getD_eq_getD_getElem?, Array.getElem?_setIfInBounds_ne hd, Array.getD_eq_getD_getElem?]
      rw [this]
      exact (hv k y hy).mono m

theorem wpAny_of_dAny (ok : CxOk C) (sl : SlotsOk ops Ds n) {w0 : World} {ρ0 : List LS} {Z : Nat → Prop} {Q' : Exit → Act → World → Prop} (hq : ∀ S a w, Q S → Sim w0 ρ0 Z S a w → Q' .normal a w) :
    ∀ (f : Nat) (listed : Array Bool) (S : St) (a : Act) (w : World), S.h.length = n → dAny C gr ops Ds Q f listed S → SimD ops Ds w0 ρ0 Z listed S a w → wpAny C.P .any ops Q' f listed a w := by
  have toSim : ∀ listed S a w, SimD ops Ds w0 ρ0 Z listed S a w → Sim w0 ρ0 Z S a w := fun listed S a w ⟨⟨ρ, r, mo, hv, _⟩, h1, h2⟩ => ⟨⟨ρ, r, mo, hv⟩, h1, h2⟩
  intro f
  induction f with
  | zero => intro listed S a w _ h hs; exact ⟨h.1, hq S a w h.2 (toSim _ _ _ _ hs)⟩
  | succ f ih =>
    intro listed S a w hS h hs
    refine ⟨fun h0 => hq S a w (h.1 h0) (toSim _ _ _ _ hs), fun i hi => ?_⟩
    have h1 := h.2 i hi
    obtain ⟨hun, o, ho, _⟩ := mem_ready.1 hi
    have hil : i < ops.size := (Array.getElem?_eq_some_iff.1 ho).1
    unfold dOp at h1
    unfold wpOp
    rw [ho] at h1 ⊢
    simp only at h1 ⊢
    obtain ⟨e, hE, h2⟩ := h1
    have hlen := upS_length (sl.inb i hil) hS hE
    obtain ⟨⟨ρ, r, mo, hv, hfr⟩, htl, hdf⟩ := hs
    obtain ⟨hE1, hE2, hE3⟩ := hE
    have hrho : ρ.length = n := by rw [r.len, hS]
    -- the next state
    have fin : ∀ (cv : Value) (w' : World) (ρ' : List LS), Rel w' ρ' Z (applyH S.h (Ds i).s e) → V w' ρ' Z e.val cv → Mono w ρ w' ρ' →
        (∀ j k : Nat, j < ops.size → j ≠ i → listed.getD j true = false → k < (Ds j).rm → ρ'[(Ds j).s + k]? = some .fresh) →
        wpAny C.P .any ops Q' f (listed.setIfInBounds i true) (a.put o.dst cv) w' := by
      intro cv w' ρ' r' hv' m' hfr'
      obtain ⟨p1, p2, p3⟩ := putV hv htl m' hv' o.dst
      refine ih _ _ _ _ hlen h2 ⟨⟨ρ', r', mo.trans m', p1, fun j k hj hl hk => ?_⟩, p2, by rw [p3]; exact hdf⟩
      by_cases hji : i = j
      · subst hji
        rw [Array.getD_eq_getD_getElem?] at hl
        by_cases hlt : i < listed.size
        · rw [Array.getElem?_setIfInBounds_self_of_lt hlt] at hl
          cases hl
        · rw [Array.getElem?_eq_none (by simpa using hlt)] at hl
          cases hl
      · rw [getD_set_ne true hji] at hl
        exact hfr' j k hj (Ne.symm hji) hl hk
    rcases hE1 with ⟨hw, hst⟩ | ⟨hw, rfl⟩
    · rw [wanted_of hv hw]
      simp only [if_true]
      left
      have hρ : ∀ x, V w ρ Z (opd S.t x) (a.eval x) := fun x => V.opd hv a.defers x
      unfold Step at hst
      split at hst
      · rename_i c x hcal
        refine stepCall_ok r hpr_le hρ hcal hst (.inr ⟨by have := sl.inb i hil; omega, fun j hj => hfr i j hil hun (by omega)⟩) fun cv w' ρ' r' hv' m' hf' => fin cv w' ρ' r' hv' m' fun j k hj hji hl hk => ?_
        exact hf' _ (fun hc => by
          have := sl.dis i j hil hj (Ne.symm hji) ((Ds j).s + k - (Ds i).s) k (by omega) hk
          omega) (hfr j k hj hl hk)
      · obtain ⟨p, h3, h4⟩ := hst
        have hsl : (Ds i).s ≤ ρ.length ∧ (ρ[(Ds i).s]? = none ∨ ρ[(Ds i).s]? = some .fresh) := by
          have hin := sl.inb i hil
          refine ⟨by omega, ?_⟩
          by_cases h0 : (Ds i).rm = 0
          · left
            rw [sl.zer i hil h0, ← hrho]
            simp
          · right
            have := hfr i 0 hil hun (by omega)
            simpa using this
        refine ev_ok ok r hρ (ev_mono hpr_le h3) h4 hsl.1 hsl.2 fun cv w' ρ' r' hv' m' hf' => fin cv w' ρ' r' hv' m' fun j k hj hji hl hk => hf' _ (fun hc => ?_) (hfr j k hj hl hk)
        by_cases h0 : (Ds i).rm = 0
        · have h5 := sl.zer i hil h0
          have h6 := sl.inb j hj
          omega
        · exact sl.dis i j hil hj (Ne.symm hji) 0 k (by omega) hk (by omega)
    · rw [wanted_of hv hw]
      simp only [Bool.false_eq_true, if_false]
      have := fin undef w ρ (by simpa [eSkip, applyH, putAll] using r) (.v _) (Mono.refl _ _) fun j k hj _ hl hk => hfr j k hj hl hk
      exact this

end
end Am

/- The rule for drawn regions. -/
namespace Am
open Go

def roomOf (kc : Nat) (o : Oper) : Nat := match o.op with
  | .alloc _ => 1
  | .box _ _ => 1
  | .buildSlice _ _ _ => 1
  | .makeSlice _ _ _ => 1
  | .call c => match c.callee with
    | .builtin .append => 1
    | .builtin _ => 0
    | _ => kc
  | _ => 0

def rooms (kc : Nat) : List Oper → Nat
  | [] => 0
  | o :: l => roomOf kc o + rooms kc l

def dflt : Dr := ⟨0, 0, [], []⟩

def at' (l : List Dr) (k : Nat) : Dr := l.getD k dflt

/-- The places of new objects: within the room, none twice. -/
def placesB (lo n : Nat) : List Dr → Bool
  | [] => true
  | D :: l => decide (D.s + D.rm ≤ n) && (if D.rm = 0 then decide (D.s = n) else decide (lo ≤ D.s)) && l.all (fun E => decide (D.rm = 0) || decide (E.rm = 0) || decide (D.s + D.rm ≤ E.s)) && placesB lo n l

def chk (lo n : Nat) (ops : Array Oper) (l : List Dr) : Bool := decide (l.length = ops.size) && placesB lo n l && lexD ops (at' l) ops.size 0 (Array.replicate ops.size false)

/-- One operation in its turn: what it reads and writes is noted. -/
def DDo (C : Cx) (gr : Nat → Bool) (S : St) (o : Oper) (s rm : Nat) (K : Dr → St → Prop) : Prop :=
  match callee o with
  | some (c, x) => match opd S.t x with
    | .fn f caps => ∃ (rd mv : List Nat) (v : AV) (h' : List (Option Ob)), mv.Nodup ∧ (∀ id, id ∈ mv → ∃ ob, hpr rd S.h id = some ob) ∧ mv.length ≤ h'.length ∧ h'.length ≤ mv.length + rm ∧
        Con C.P f (expL mv (hpr rd S.h) (c.args.toList.map (opd S.t) ++ caps)) (objsOf (hpr rd S.h) mv) v h' ∧ K ⟨s, rm, rd, mv⟩ ⟨putT S.t o.dst (imp mv s v), backH S.h mv s h'⟩
    | _ => False
  | none => match ev C gr (opd S.t) (hp S.h) s o with
    | some (p, e) => p ∧ e.new.length ≤ rm ∧ K ⟨s, rm, e.rd, e.upd.map (·.1)⟩ ⟨putT S.t o.dst e.val, applyH S.h s e⟩
    | none => False

def slotOf (kc n cur : Nat) (o : Oper) : Nat := if roomOf kc o = 0 then n else cur

def dRun (C : Cx) (gr : Nat → Bool) (ops : Array Oper) (kc lo n : Nat) : List Oper → Nat → List Dr → St → (St → Prop) → Prop
  | [], _, acc, S, K => chk lo n ops acc.reverse = true ∧ K S
  | o :: rest, cur, acc, S, K => match o.guard with
    | none => DDo C gr S o (slotOf kc n cur o) (roomOf kc o) fun D S' => dRun C gr ops kc lo n rest (cur + roomOf kc o) (D :: acc) S' K
    | some (j, want) => match (ops[j]?).bind (·.dst) with
      | some d => match S.t.getD d .u with
        | .v (.bool b) => (b = want → DDo C gr ⟨S.t.set d (.v (.bool want)), S.h⟩ o (slotOf kc n cur o) (roomOf kc o) fun D S' => dRun C gr ops kc lo n rest (cur + roomOf kc o) (D :: acc) S' K) ∧
            (b = !want → dRun C gr ops kc lo n rest (cur + roomOf kc o) (⟨slotOf kc n cur o, roomOf kc o, [], []⟩ :: acc) ⟨putT (S.t.set d (.v (.bool !want))) o.dst (.v undef), S.h⟩ K)
        | .v (.tuple _) => dRun C gr ops kc lo n rest (cur + roomOf kc o) (⟨slotOf kc n cur o, roomOf kc o, [], []⟩ :: acc) ⟨putT S.t o.dst (.v undef), S.h⟩ K
        | _ => False
      | none => False

section
variable {C : Cx} {gr : Nat → Bool} {ops : Array Oper} {n lo kc m : Nat} {S : St} {K : St → Prop}

theorem set_same {t : List AV} {d : Nat} {x : AV} (h : t.getD d .u = x) (hx : x ≠ .u) : t.set d x = t := by
  have h1 : t[d]? = some x := by
    rw [List.getD_eq_getElem?_getD] at h
    cases hd : t[d]? with
    | none => rw [hd] at h; exact absurd h.symm hx
    | some y => rw [hd] at h; simp at h; rw [h]
  apply List.ext_getElem?
  intro i
  by_cases hi : d = i
  · subst hi
    rw [List.getElem?_set]
    have hlt := (List.getElem?_eq_some_iff.1 h1).1
    rw [h1]
    simp [hlt]
  · rw [List.getElem?_set_ne hi]

theorem ddo_ok {o : Oper} {s rm : Nat} {K : Dr → St → Prop} (h : DDo C gr S o s rm K) (hw : wantA ops S.t o = some true) : ∃ D e, D.s = s ∧ D.rm = rm ∧ DE C gr ops S o D e ∧ K D (upS S o D e) := by
  unfold DDo at h
  split at h
  · rename_i c x hcal
    split at h
    case h_2 => exact h.elim
    rename_i f caps hx
    obtain ⟨rd, mv, v, h', h1, h2, h3, h4, h5, h6⟩ := h
    refine ⟨⟨s, rm, rd, mv⟩, { val := imp mv s v, upd := mv.zip ((h'.take mv.length).map (Option.map (impOb mv s))), new := (h'.drop mv.length).map (Option.map (impOb mv s)), rd := mv }, rfl, rfl, ⟨.inl ⟨hw, ?_⟩, ?_, ?_⟩, h6⟩
    · unfold Step
      rw [hcal]
      exact ⟨f, caps, mv, v, h', hx, h1, h2, h3, h5, rfl⟩
    · simp; omega
    · intro p hp
      exact (List.of_mem_zip hp).1
  · rename_i hcal
    split at h
    case h_2 => exact h.elim
    rename_i p e he
    obtain ⟨h1, h2, h3⟩ := h
    refine ⟨⟨s, rm, e.rd, e.upd.map (·.1)⟩, e, rfl, rfl, ⟨.inl ⟨hw, ?_⟩, h2, fun q hq => List.mem_map.2 ⟨q, hq, rfl⟩⟩, h3⟩
    unfold Step
    rw [hcal]
    refine ⟨p, ev_local he fun id ob hid ho => ?_, h1⟩
    unfold hpr
    rw [if_pos (by simpa using hid)]
    exact ho

theorem at_rev (acc : List Dr) (D : Dr) (l : List Dr) : (D :: acc).reverse ++ l = acc.reverse ++ (D :: l) := by simp

theorem dRun_seq : ∀ (l : List Oper) (cur : Nat) (acc : List Dr) (S : St), dRun C gr ops kc lo n l cur acc S K → ∃ Ds : List Dr, Ds.length = l.length ∧ chk lo n ops (acc.reverse ++ Ds) = true ∧
    dSeq C gr ops (at' (acc.reverse ++ Ds)) K l acc.length S
  | [], _, acc, S, h => ⟨[], rfl, by simpa using h.1, h.2⟩
  | o :: rest, cur, acc, S, h => by
    have next : ∀ (D : Dr) (e : Eff), DE C gr ops S o D e → dRun C gr ops kc lo n rest (cur + roomOf kc o) (D :: acc) (upS S o D e) K →
        ∃ Ds : List Dr, Ds.length = (o :: rest).length ∧ chk lo n ops (acc.reverse ++ Ds) = true ∧ dSeq C gr ops (at' (acc.reverse ++ Ds)) K (o :: rest) acc.length S := by
      intro D e hE hr
      obtain ⟨Ds, h1, h2, h3⟩ := dRun_seq rest _ (D :: acc) _ hr
      rw [at_rev] at h2 h3
      refine ⟨D :: Ds, by simp [h1], h2, e, ?_, ?_⟩
      · have : at' (acc.reverse ++ D :: Ds) acc.length = D := by
          unfold at'
          rw [List.getD_eq_getElem?_getD, List.getElem?_append_right (by simp)]
          simp
        rw [this]
        exact hE
      · have : at' (acc.reverse ++ D :: Ds) acc.length = D := by
          unfold at'
          rw [List.getD_eq_getElem?_getD, List.getElem?_append_right (by simp)]
          simp
        rw [this]
        exact h3
    unfold dRun at h
    split at h
    · rename_i hg
      obtain ⟨D, e, _, _, hE, hK⟩ := ddo_ok (ops := ops) h (by simp [wantA, hg])
      exact next D e hE hK
    · rename_i j want hg
      split at h
      case h_2 => exact h.elim
      rename_i d hd
      split at h
      case h_3 => exact h.elim
      case h_2 =>
        rename_i xs hb
        refine next ⟨slotOf kc n cur o, roomOf kc o, [], []⟩ eSkip ⟨.inr ⟨?_, rfl⟩, by simp [eSkip], by simp [eSkip]⟩ (by simpa [upS, eSkip, applyH, putAll] using h)
        unfold wantA
        rw [hg]
        simp only [hd, hb]
      rename_i b hb
      by_cases hbw : b = want
      · have h1 := h.1 hbw
        rw [← hbw, set_same hb (by simp)] at h1
        obtain ⟨D, e, _, _, hE, hK⟩ := ddo_ok (ops := ops) (S := S) h1 (by
          unfold wantA
          rw [hg]
          simp only [hd, hb, hbw, beq_self_eq_true])
        exact next D e hE hK
      · have hbn : b = !want := by cases b <;> cases want <;> simp_all
        have h1 := h.2 hbn
        rw [← hbn, set_same hb (by simp)] at h1
        refine next ⟨slotOf kc n cur o, roomOf kc o, [], []⟩ eSkip ⟨.inr ⟨?_, rfl⟩, by simp [eSkip], by simp [eSkip]⟩ (by simpa [upS, eSkip, applyH, putAll] using h1)
        unfold wantA
        rw [hg]
        simp only [hd, hb, Option.some.injEq, beq_eq_false_iff_ne]
        exact hbw

theorem placesB_spec : ∀ (l : List Dr), placesB lo n l = true → (∀ k : Nat, k < l.length → (at' l k).s + (at' l k).rm ≤ n ∧ ((at' l k).rm = 0 → (at' l k).s = n) ∧ ((at' l k).rm ≠ 0 → lo ≤ (at' l k).s)) ∧
    ∀ i j : Nat, i < j → j < l.length → (at' l i).rm = 0 ∨ (at' l j).rm = 0 ∨ (at' l i).s + (at' l i).rm ≤ (at' l j).s
  | [], _ => ⟨fun k hk => by simp at hk, fun i j _ hj => by simp at hj⟩
  | D :: l, h => by
    simp only [placesB, Bool.and_eq_true, decide_eq_true_eq, List.all_eq_true, Bool.or_eq_true] at h
    obtain ⟨⟨⟨h1, h2⟩, h3⟩, h4⟩ := h
    obtain ⟨a, b⟩ := placesB_spec l h4
    have e0 : at' (D :: l) 0 = D := rfl
    have es : ∀ k, at' (D :: l) (k + 1) = at' l k := fun k => rfl
    refine ⟨fun k hk => ?_, fun i j hij hj => ?_⟩
    · cases k with
      | zero =>
        rw [e0]
        refine ⟨h1, fun h0 => ?_, fun h0 => ?_⟩
        · rw [if_pos h0] at h2; simpa using h2
        · rw [if_neg h0] at h2; simpa using h2
      | succ k => rw [es]; exact a k (by simpa using hk)
    · cases j with
      | zero => omega
      | succ j =>
        rw [es]
        have hj' : j < l.length := by simpa using hj
        cases i with
        | zero =>
          rw [e0]
          have hm : at' l j ∈ l := by
            unfold at'
            rw [List.getD_eq_getElem?_getD, List.getElem?_eq_getElem hj']
            exact List.getElem_mem hj'
          have := h3 _ hm
          rcases this with (h5 | h5) | h5
          · exact .inl h5
          · exact .inr (.inl h5)
          · exact .inr (.inr h5)
        | succ i => rw [es]; exact b i j (by omega) hj'

theorem rel_more {w : World} {ρ : List LS} {Z : Nat → Prop} {h : List (Option Ob)} (r : Rel w ρ Z h) (N : Nat) : Rel w (ρ ++ List.replicate N .fresh) Z (h ++ List.replicate N none) ∧ Mono w ρ w (ρ ++ List.replicate N .fresh) := by
  have get : ∀ (i : Nat) (x : LS), x ≠ .fresh → ((ρ ++ List.replicate N .fresh)[i]? = some x ↔ ρ[i]? = some x) := by
    intro i x hx
    rcases Nat.lt_or_ge i ρ.length with h1 | h1
    · rw [List.getElem?_append_left h1]
    · rw [List.getElem?_append_right h1, List.getElem?_replicate, List.getElem?_eq_none h1]
      split
      · simp; exact fun c => hx c.symm
      · simp
  have own : ∀ b, owned (ρ ++ List.replicate N .fresh) b → owned ρ b := fun b ⟨id, L, h1, h2⟩ => ⟨id, L, (get id _ (by simp)).1 h1, h2⟩
  have mo : Mono w ρ w (ρ ++ List.replicate N .fresh) := ⟨rfl, rfl, rfl, Nat.le_refl _, fun _ _ _ => rfl, fun b _ ho => own b ho, fun id L h1 => .inl ((get id _ (by simp)).2 h1),
    fun id h1 => (get id _ (by simp)).2 h1, fun id h1 => .inl ((get id _ (by simp)).2 h1)⟩
  refine ⟨⟨by simp [r.len], fun id ob hid => ?_, fun id hid => ?_, fun i j L M h1 h2 hb => r.inj i j L M ((get i _ (by simp)).1 h1) ((get j _ (by simp)).1 h2) hb, r.zlt⟩, mo⟩
  · have hid2 : h[id]? = some (some ob) := by
      rcases Nat.lt_or_ge id h.length with h1 | h1
      · rwa [List.getElem?_append_left h1] at hid
      · rw [List.getElem?_append_right h1, List.getElem?_replicate] at hid
        split at hid <;> cases hid
    rcases r.obj id ob hid2 with ⟨L, h1, h2⟩ | ⟨h1, h2⟩
    · exact .inl ⟨L, (get id _ (by simp)).2 h1, h2.mono mo rfl⟩
    · exact .inr ⟨(get id _ (by simp)).2 h1, h2⟩
  · rcases Nat.lt_or_ge id h.length with h1 | h1
    · rw [List.getElem?_append_left h1] at hid
      rcases r.non id hid with h2 | h2
      · exact .inl ((get id _ (by simp)).2 h2)
      · right; rw [List.getElem?_append_left (by rw [r.len]; exact h1)]; exact h2
    · have hlt : id < (h ++ List.replicate N none).length := (List.getElem?_eq_some_iff.1 hid).1
      simp only [List.length_append, List.length_replicate] at hlt
      right
      rw [List.getElem?_append_right (by rw [r.len]; exact h1), List.getElem?_replicate, if_pos (by rw [r.len]; omega)]

/-- A drawn region. -/
theorem sem_draw (ok : CxOk C) (gr : Nat → Bool) (kc : Nat) {id : Nat} {Q : AE → St → Prop}
    (h : dRun C gr ops kc S.h.length (S.h.length + rooms kc ops.toList) ops.toList S.h.length [] ⟨S.t, S.h ++ List.replicate (rooms kc ops.toList) none⟩ (Q .normal)) : Beh C m (.region id ops true) Q S :=
  fun w0 ρ0 Z a w hm hs => by
    obtain ⟨Ds, h1, h2, h3⟩ := dRun_seq _ _ _ _ h
    simp only [List.reverse_nil, List.nil_append, List.length_nil] at h2 h3
    unfold chk at h2
    simp only [Bool.and_eq_true, decide_eq_true_eq] at h2
    obtain ⟨⟨hl, hp0⟩, hlex⟩ := h2
    obtain ⟨p1, p2⟩ := placesB_spec Ds hp0
    rw [hl] at p1 p2
    have sl : SlotsOk ops (at' Ds) (S.h.length + rooms kc ops.toList) := by
      refine ⟨fun k hk => (p1 k hk).1, fun k hk => (p1 k hk).2.1, fun i j hi hj hij k l hk hl => ?_⟩
      rcases Nat.lt_or_gt_of_ne hij with h4 | h4
      · rcases p2 i j h4 hj with h5 | h5 | h5 <;> omega
      · rcases p2 j i h4 hi with h5 | h5 | h5 <;> omega
    refine wp_region_any ok.any ?_
    obtain ⟨⟨ρ, r, mo, hv⟩, htl, hdf⟩ := hs
    have hany := dAny_of_lex (C := C) (gr := gr) (Q := Q .normal) sl.inb ops.toList 0 (Array.replicate ops.size false) ⟨S.t, S.h ++ List.replicate (rooms kc ops.toList) none⟩ (by simp) (by simp) (by simpa using hlex) h3
    have hd : Rel { w with drawn := w.drawn + 1 } ρ Z S.h ∧ Mono w ρ { w with drawn := w.drawn + 1 } ρ := relSame r rfl rfl rfl rfl
    obtain ⟨r2, m2⟩ := rel_more hd.1 (rooms kc ops.toList)
    have := wpAny_of_dAny (Q := Q .normal) (Q' := post w0 ρ0 Z Q) ok sl (fun S a w hQ hS => ⟨S, hQ, hS⟩) ops.toList.length (Array.replicate ops.size false) ⟨S.t, S.h ++ List.replicate (rooms kc ops.toList) none⟩ a { w with drawn := w.drawn + 1 }
      (by simp) hany ⟨⟨_, r2, (mo.trans hd.2).trans m2, fun k x hx => ((hv k x hx).mono hd.2).mono m2, fun j k hj _ hk => ?_⟩, htl, hdf⟩
    · simpa using this
    · have h5 := p1 j hj
      have h6 := h5.2.2 (by omega)
      rw [List.getElem?_append_right (by rw [r.len]; omega), List.getElem?_replicate, if_pos (by rw [r.len]; omega)]

end
end Am
