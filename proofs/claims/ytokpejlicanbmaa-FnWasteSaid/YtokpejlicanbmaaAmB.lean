import Derived.Test.YtokpejlicanbmaaAmA
import Derived.Laws.Small
import Derived.Laws.StructEq
import Derived.Lib.SliceRun
import Derived.Laws.BytesString
set_option linter.all false
/- Sixth part: what computes. -/
namespace Am
open Go

section
variable {C : Cx} {a : Act} {o : Oper} {w : World} {ρ : List LS} {Z : Nat → Prop} {h : List (Option Ob)} {s : Nat}

theorem ret_eq {v : AV} {pre : Prop} {e : Eff} (h : ret v = some (pre, e)) : pre = True ∧ e = { val := v, upd := [], new := [], rd := [] } := by
  unfold ret at h; cases h; exact ⟨rfl, rfl⟩

theorem retp_eq {p : Prop} {v : AV} {pre : Prop} {e : Eff} (h : retp p v = some (pre, e)) : pre = p ∧ e = { val := v, upd := [], new := [], rd := [] } := by
  unfold retp at h; cases h; exact ⟨rfl, rfl⟩

theorem run_intBin {op : BinOp} {k : IntKind} {x y : Int} {pre : Prop} {e : Eff} (h : intBin op k x y = some (pre, e)) (hp : pre) (xT : Nat) (P : Program) (w : World) :
    ∃ z : Value, (binOp op xT (.int k x) (.int k y)).run P w = .ok z w ∧ e = { val := .v z, upd := [], new := [], rd := [] } := by
  cases op <;> simp only [intBin] at h <;>
    first
      | (cases h; done)
      | (obtain ⟨_, rfl⟩ := ret_eq h
         refine ⟨_, ?_, rfl⟩
         simp [binOp, Op.intArith, Op.intCmp, Op.intBits, bitop, Bool.beq_eq_decide_eq, bne]
         done)
      | (obtain ⟨rfl, rfl⟩ := retp_eq h
         refine ⟨_, ?_, rfl⟩
         simp [binOp, Op.intDiv, hp]
         done)

theorem beq_dec (x y : Int) : (x == y) = decide (x = y) := rfl

theorem run_eqCells {P : Program} (xs ys : Array Value) (hw : xs.size = ys.size) (d : Nat) (w : World) : ∀ (fs : List Field) (i : Nat) (l m : List AV) (r : Bool), eqsB P fs i = true → eqCells l m = some r →
    l.length = fs.length → (∀ (j : Nat) (x : AV), l[j]? = some x → V w ρ Z x (xs.getD (i + j) undef)) → (∀ (j : Nat) (x : AV), m[j]? = some x → V w ρ Z x (ys.getD (i + j) undef)) →
    i + fs.length ≤ xs.size → (Op.eqFields (d + 1) xs ys fs).run P w = .ok r w
  | [], i, l, m, r, _, he, hl, _, _, _ => by
    have : l = [] := List.eq_nil_of_length_eq_zero (by simpa using hl)
    subst this
    cases m with
    | nil => simp [eqCells] at he; subst he; simp [Op.eqFields]
    | cons _ _ => simp [eqCells] at he
  | f :: fs, i, l, m, r, hb, he, hl, hx, hy, hi => by
    cases l with
    | nil => simp at hl
    | cons x l =>
      cases m with
      | nil => cases x <;> simp [eqCells] at he <;> (rename_i z; cases z <;> simp [eqCells] at he)
      | cons y m =>
        unfold eqCells at he
        split at he
        case h_1 h => cases h
        case h_3 => cases he
        rename_i k1 a l' k2 b m' e1 e2
        injection e1 with e3 e4
        injection e2 with e5 e6
        subst e3 e4 e5 e6
        split at he
        case isFalse => cases he
        rename_i hk12
        subst hk12
        split at he
        case h_2 => cases he
        rename_i r' hr'
        cases he
        simp only [eqsB, Bool.and_eq_true, decide_eq_true_eq] at hb
        obtain ⟨⟨⟨h1, h2⟩, h3⟩, h4⟩ := hb
        have vx := (hx 0 _ rfl).v_inv
        have vy := (hy 0 _ rfl).v_inv
        simp only [Nat.add_zero] at vx vy
        simp only [List.length_cons] at hi
        have gx : xs[i]? = some (.int k1 a) := by
          rw [Array.getD_eq_getD_getElem?] at vx
          rw [Array.getElem?_eq_getElem (by omega)] at vx ⊢
          simp at vx; rw [vx]
        have gy : ys[i]? = some (.int k1 b) := by
          rw [Array.getD_eq_getD_getElem?] at vy
          rw [Array.getElem?_eq_getElem (by omega)] at vy ⊢
          simp at vy; rw [vy]
        split at h3
        case h_2 => cases h3
        rename_i kk hk
        have hagg : (isAgg f.type).run P w = .ok false w := by simp [isAgg, run_underlying hk]
        have p1 : (part f.type xs f.offset).run P w = .ok (.int k1 a) w := by
          simp only [part, Sem.run_bind, hagg, Result.andThen_ok, Bool.false_eq_true, if_false, h1, gx]; rfl
        have p2 : (part f.type ys f.offset).run P w = .ok (.int k1 b) w := by
          simp only [part, Sem.run_bind, hagg, Result.andThen_ok, Bool.false_eq_true, if_false, h1, gy]; rfl
        have ih := run_eqCells xs ys hw d w fs (i + 1) l m r' h4 hr' (by simpa using hl)
          (fun j x hj => by have := hx (j + 1) x (by simpa using hj); rwa [show i + (j + 1) = i + 1 + j by omega] at this)
          (fun j x hj => by have := hy (j + 1) x (by simpa using hj); rwa [show i + (j + 1) = i + 1 + j by omega] at this) (by omega)
        simp only [Op.eqFields]
        rw [if_pos (by simpa using h2)]
        simp only [Sem.run_bind, p1, p2, Result.andThen_ok, run_equalIn_int w d f.type k1 kk a b hk]
        by_cases hab : a = b
        · subst hab
          simpa using ih
        · simp [hab]

end
end Am

/- Seventh part: operators on values. -/
namespace Am
open Go

section
variable {C : Cx} {a : Act} {o : Oper} {w : World} {ρ : List LS} {Z : Nat → Prop} {h : List (Option Ob)} {s : Nat}

theorem run_eqGuard_int (op : BinOp) (t : Nat) (x y : Operand) (k k' : IntKind) (m n : Int) (P : Program) (w : World) : (eqGuard op t x y (.int k m) (.int k' n)).run P w = .ok () w := by
  cases op <;> simp [eqGuard]
theorem run_eqGuard_str (op : BinOp) (t : Nat) (x y : Operand) (m n : ByteArray) (P : Program) (w : World) : (eqGuard op t x y (.string m) (.string n)).run P w = .ok () w := by
  cases op <;> simp [eqGuard]
theorem run_eqGuard_bool (op : BinOp) (t : Nat) (x y : Operand) (m n : Bool) (P : Program) (w : World) : (eqGuard op t x y (.bool m) (.bool n)).run P w = .ok () w := by
  cases op <;> simp [eqGuard]

theorem bin_run (ok : CxOk C) {op : BinOp} {xT : Nat} {X Y : AV} {pre : Prop} {e : Eff} (hb : bin C op xT X Y = some (pre, e)) (hp : pre) {cx cy : Value} (hx : V w ρ Z X cx) (hy : V w ρ Z Y cy) (px py : Operand) :
    ∃ z : Value, (eqGuard op xT px py cx cy).run C.P w = .ok () w ∧ (binOp op xT cx cy).run C.P w = .ok z w ∧ V w ρ Z e.val z ∧ e.upd = [] ∧ e.new = [] := by
  unfold bin at hb
  split at hb
  · rename_i k m k' n
    have := hx.v_inv; have := hy.v_inv; subst_vars
    refine (fun H => ?_) (run_eqGuard_int op xT px py k k' m n C.P w)
    split at hb
    · obtain ⟨rfl, rfl⟩ := retp_eq hb
      refine ⟨_, H, ?_, .v _, rfl, rfl⟩
      simp only [binOp, Op.shift]
      rw [if_neg (by omega)]
      rfl
    · obtain ⟨rfl, rfl⟩ := retp_eq hb
      refine ⟨_, H, ?_, .v _, rfl, rfl⟩
      simp only [binOp, Op.shift]
      rw [if_neg (by omega)]
      rfl
    · split at hb
      case isFalse => cases hb
      rename_i hk
      subst hk
      obtain ⟨z, h1, rfl⟩ := run_intBin hb hp xT C.P w
      exact ⟨z, H, h1, .v z, rfl, rfl⟩
  · rename_i m n
    have := hx.v_inv; have := hy.v_inv; subst_vars
    have H := run_eqGuard_str op xT px py m n C.P w
    unfold strBin at hb
    split at hb
    · obtain ⟨rfl, rfl⟩ := retp_eq hb
      refine ⟨_, H, ?_, .v _, rfl, rfl⟩
      simp only [binOp, Op.stringOp]
      rw [if_neg (by simp [IntKind.max, IntKind.signed, IntKind.bits]; omega)]
      rfl
    · obtain ⟨_, rfl⟩ := ret_eq hb
      exact ⟨_, H, rfl, .v _, rfl, rfl⟩
    · obtain ⟨_, rfl⟩ := ret_eq hb
      exact ⟨_, H, rfl, .v _, rfl, rfl⟩
    · cases hb
  · rename_i m n
    have := hx.v_inv; have := hy.v_inv; subst_vars
    have H := run_eqGuard_bool op xT px py m n C.P w
    split at hb
    · rename_i hk
      obtain ⟨_, rfl⟩ := ret_eq hb
      exact ⟨_, H, run_eql_bool w xT m n (ok.under_bool hk), .v _, rfl, rfl⟩
    · rename_i hk
      obtain ⟨_, rfl⟩ := ret_eq hb
      exact ⟨_, H, run_neq_bool w xT m n (ok.under_bool hk), .v _, rfl, rfl⟩
    · cases hb
  · rename_i xs ys
    have key : ∀ r, (C.ti xT).eqs = true → eqCells xs ys = some r → xs.length = (C.ti xT).size → (eqGuard op xT px py cx cy).run C.P w = .ok () w ∧
        ∃ ax ay, cx = .agg ax ∧ cy = .agg ay ∧ (Op.equalIn 10000 xT (.agg ax) (.agg ay)).run C.P w = .ok r w := by
      intro r he hr hl
      cases hx with
      | agg _ ax hlx hvx =>
        cases hy with
        | agg _ ay hly hvy =>
          obtain ⟨fields, f1, f2, f3, f4, f5⟩ := ok.eqs_st he
          have hlen : ∀ (l m : List AV) (r : Bool), eqCells l m = some r → l.length = m.length := by
            intro l
            induction l with
            | nil => intro m r h; cases m <;> simp [eqCells] at h ⊢
            | cons x l ih =>
              intro m r h
              cases m with
              | nil => cases x <;> simp [eqCells] at h <;> (rename_i z; cases z <;> simp [eqCells] at h)
              | cons y m =>
                unfold eqCells at h
                split at h
                case h_1 hh => cases hh
                case h_3 => cases h
                rename_i k1 a l' k2 b m' e1 e2
                injection e1 with e3 e4
                injection e2 with e5 e6
                subst e4 e6
                split at h
                case isFalse => cases h
                split at h
                case h_2 => cases h
                rename_i r' hr'
                simp [ih _ _ hr']
          have hlm := hlen _ _ _ hr
          refine ⟨run_eqGuard_agg w op xT px py ax ay f5, ax, ay, rfl, rfl, ?_⟩
          have hfo : C.P.fieldsOf xT = fields := by simp [Program.fieldsOf, f1]
          have := run_equalIn_agg w 9999 xT ax ay (by rw [hfo]; exact f1) f4
          rw [this, hfo]
          have h3 : fields.toList.length = fields.size := by simp
          exact run_eqCells ax ay (by rw [← hlx, ← hly, hlm]) 9998 w fields.toList 0 xs ys r f2 hr (by rw [h3, f3, hl]) (fun j x hj => by simpa using hvx j x hj) (fun j x hj => by simpa using hvy j x hj)
            (by rw [h3, f3, ← hl, hlx]; omega)
    split at hb
    · rename_i r he hr
      obtain ⟨rfl, rfl⟩ := retp_eq hb
      obtain ⟨h1, ax, ay, rfl, rfl, h2⟩ := key r he hr hp
      exact ⟨_, h1, by rw [run_eql_struct, h2]; rfl, .v _, rfl, rfl⟩
    · rename_i r he hr
      obtain ⟨rfl, rfl⟩ := retp_eq hb
      obtain ⟨h1, ax, ay, rfl, rfl, h2⟩ := key r he hr hp
      exact ⟨_, h1, by rw [run_neq_struct, h2]; rfl, .v _, rfl, rfl⟩
    · cases hb
  · cases hb

theorem nil_run (ok : CxOk C) {op : BinOp} {xT : Nat} {X : AV} {pre : Prop} {e : Eff} (hb : nilCmp C op xT X = some (pre, e)) {cx : Value} (hx : V w ρ Z X cx) (px py : Operand) :
    ∃ z : Value, (eqGuard op xT px py cx (.slice none 0 0)).run C.P w = .ok () w ∧ (binOp op xT cx (.slice none 0 0)).run C.P w = .ok z w ∧ V w ρ Z e.val z ∧ e.upd = [] ∧ e.new = [] := by
  have key : ∀ (el : Nat) (a : Option Addr) (n c : Nat), (C.ti xT).k = .sl el → (a = none → n = 0) → ∃ z : Value, (eqGuard .eql xT px py (.slice a n c) (.slice none 0 0)).run C.P w = .ok () w ∧
      (binOp .eql xT (.slice a n c) (.slice none 0 0)).run C.P w = .ok z w ∧ V w ρ Z (.nq n) z := by
    intro el a n c hk ha
    refine ⟨_, rfl, Lib.run_eql_slice_nil w xT el a n c 0 0 (ok.under_sl hk).1, .nq n _ fun hz => ha (by simpa using hz)⟩
  unfold nilCmp at hb
  split at hb
  · rename_i el hk
    obtain ⟨_, rfl⟩ := ret_eq hb
    cases hx with
    | nl a => obtain ⟨z, h1, h2, h3⟩ := key el a 0 0 hk (fun _ => rfl); exact ⟨z, h1, h2, h3, rfl, rfl⟩
  · rename_i el i0 es hk
    obtain ⟨_, rfl⟩ := ret_eq hb
    cases hx with
    | borE i a c => obtain ⟨z, h1, h2, h3⟩ := key el a 0 c hk (fun _ => rfl); exact ⟨z, h1, h2, h3, rfl, rfl⟩
    | bor i es b o sz c => obtain ⟨z, h1, h2, h3⟩ := key el (some ⟨b, o, none⟩) es.length c hk (fun h => by cases h); exact ⟨z, h1, h2, h3, rfl, rfl⟩
  · rename_i el id off len hk
    obtain ⟨_, rfl⟩ := ret_eq hb
    cases hx with
    | sl _ _ _ L c => obtain ⟨z, h1, h2, h3⟩ := key el (some ⟨L.b, L.base + off * L.sz, none⟩) len c hk (fun h => by cases h); exact ⟨z, h1, h2, h3, rfl, rfl⟩
    | slz _ _ L a => obtain ⟨z, h1, h2, h3⟩ := key el a 0 0 hk (fun _ => rfl); exact ⟨z, h1, h2, h3, rfl, rfl⟩
    | slv _ _ a => obtain ⟨z, h1, h2, h3⟩ := key el a 0 0 hk (fun _ => rfl); exact ⟨z, h1, h2, h3, rfl, rfl⟩
    | sld _ _ _ a c hd ha => obtain ⟨z, h1, h2, h3⟩ := key el a len c hk ha; exact ⟨z, h1, h2, h3, rfl, rfl⟩
  · cases hb

theorem un_run {op : UnOp} {X : AV} {pre : Prop} {e : Eff} (hb : un op X = some (pre, e)) {cx : Value} (hx : V w ρ Z X cx) (P : Program) :
    ∃ z : Value, (Op.unary op cx).run P w = .ok z w ∧ V w ρ Z e.val z ∧ e.upd = [] ∧ e.new = [] := by
  unfold un at hb
  split at hb
  · have := hx.v_inv; subst_vars
    obtain ⟨_, rfl⟩ := ret_eq hb
    exact ⟨_, rfl, .v _, rfl, rfl⟩
  · have := hx.v_inv; subst_vars
    obtain ⟨_, rfl⟩ := ret_eq hb
    exact ⟨_, rfl, .v _, rfl, rfl⟩
  · have := hx.v_inv; subst_vars
    obtain ⟨_, rfl⟩ := ret_eq hb
    exact ⟨_, rfl, .v _, rfl, rfl⟩
  · cases hb

end
end Am

/- Eighth part: what is put together: structs, rows. -/
namespace Am
open Go

section
variable {C : Cx} {a : Act} {o : Oper} {w : World} {ρ : List LS} {Z : Nat → Prop} {h : List (Option Ob)} {s : Nat}

theorem foldl_put (off : Nat) : ∀ (xs : List Value) (k : Nat) (arr : Array Value), off + k + xs.length ≤ arr.size →
    ((xs.zipIdx k).foldl (fun cs p => cs.setIfInBounds (off + p.2) p.1) arr).size = arr.size ∧
    ∀ p : Nat, ((xs.zipIdx k).foldl (fun cs p => cs.setIfInBounds (off + p.2) p.1) arr).getD p undef = if off + k ≤ p ∧ p < off + k + xs.length then xs.getD (p - (off + k)) undef else arr.getD p undef
  | [], k, arr, _ => ⟨rfl, fun p => by rw [if_neg (by simp only [List.length_nil]; omega)]; rfl⟩
  | x :: xs, k, arr, hl => by
    simp only [List.length_cons] at hl
    obtain ⟨h1, h2⟩ := foldl_put off xs (k + 1) (arr.setIfInBounds (off + k) x) (by simp; omega)
    simp only [List.zipIdx_cons, List.foldl_cons]
    refine ⟨by rw [h1]; simp, fun p => ?_⟩
    rw [h2]
    simp only [List.length_cons]
    by_cases hp : p = off + k
    · subst hp
      rw [if_neg (by omega), if_pos (by omega), Nat.sub_self, Array.getD_eq_getD_getElem?, Array.getElem?_setIfInBounds_self_of_lt (by omega)]
      rfl
    · by_cases hq : off + (k + 1) ≤ p ∧ p < off + (k + 1) + xs.length
      · rw [if_pos hq, if_pos (by omega)]
        rw [show p - (off + k) = (p - (off + (k + 1))) + 1 by omega]
        rfl
      · rw [if_neg hq, if_neg (by omega), Array.getD_eq_getD_getElem?, Array.getElem?_setIfInBounds_ne (Ne.symm hp), Array.getD_eq_getD_getElem?]

/-- Cells on the two sides. -/
def CellsRel (w : World) (ρ : List LS) (Z : Nat → Prop) (cs : List AV) (arr : Array Value) : Prop :=
  cs.length = arr.size ∧ ∀ (k : Nat) (x : AV), cs[k]? = some x → V w ρ Z x (arr.getD k undef)

theorem boxable_or {y : AV} (hb : boxable y = true) : isCell y = true ∨ ∃ cs, y = .agg cs := by
  cases y with
  | agg cs => exact .inr ⟨cs, rfl⟩
  | _ => exact .inl hb

theorem CellsRel.put {cs : List AV} {arr : Array Value} (hc : CellsRel w ρ Z cs arr) {off : Nat} {y : AV} {cv : Value} (hy : V w ρ Z y cv) (hb : boxable y = true) (hl : off + (cells y).length ≤ arr.size) :
    CellsRel w ρ Z (repl cs off (cells y)) (cv.cells.zipIdx.foldl (fun cs p => cs.setIfInBounds (off + p.2) p.1) arr) ∧ (cells y).length = cv.cells.size := by
  obtain ⟨h1, h2⟩ := hy.cells (boxable_or hb)
  have e : cv.cells.zipIdx.foldl (fun cs p => cs.setIfInBounds (off + p.2) p.1) arr = (cv.cells.toList.zipIdx 0).foldl (fun cs p => cs.setIfInBounds (off + p.2) p.1) arr := by
    rw [← Array.foldl_toList]
    simp
  rw [e]
  obtain ⟨h3, h4⟩ := foldl_put off cv.cells.toList 0 arr (by simp only [Array.length_toList, ← h1]; omega)
  refine ⟨⟨?_, fun k x hx => ?_⟩, h1⟩
  · rw [h3, ← hc.1, repl_length]
    rw [hc.1]; exact hl
  · rw [h4]
    rw [repl_get _ _ _ (by rw [hc.1]; exact hl)] at hx
    simp only [Nat.add_zero, Array.length_toList, ← h1]
    by_cases hk : off ≤ k ∧ k < off + (cells y).length
    · rw [if_pos hk] at hx ⊢
      have := h2 _ x hx
      rw [List.getD_eq_getElem?_getD]
      rw [Array.getD_eq_getD_getElem?] at this
      simpa using this
    · rw [if_neg hk] at hx ⊢
      exact hc.2 k x hx

theorem parts_st {fs : List (Nat × Nat × Bool)} {places : Array (Nat × Nat)} (hpl : ∀ (i off sz : Nat) (ag : Bool), fs[i]? = some (off, sz, ag) → places[i]? = some (off, sz)) :
    ∀ (ps : List (Nat × Operand)) (l : List (Nat × List AV)) (ρv : Operand → AV) (ev : Operand → Value) (cs : List AV) (arr : Array Value), (∀ x, V w ρ Z (ρv x) (ev x)) →
      partsOk fs (ps.map fun ix => (ix.1, ρv ix.2)) = some l → (∀ p ∈ l, p.1 + p.2.length ≤ arr.size) → CellsRel w ρ Z cs arr →
      ∃ arr', Instr.fill (places[·]?) arr (ps.map fun ix => (ix.1, ev ix.2)) = some arr' ∧ CellsRel w ρ Z (place cs l) arr'
  | [], l, ρv, ev, cs, arr, _, hp, _, hc => by
    simp [partsOk] at hp
    subst hp
    exact ⟨arr, rfl, hc⟩
  | (i, x) :: ps, l, ρv, ev, cs, arr, hv, hp, hl, hc => by
    simp only [List.map_cons, partsOk] at hp
    split at hp
    case h_2 => cases hp
    rename_i off sz ag hf
    split at hp
    case isFalse => cases hp
    rename_i hb
    split at hp
    case h_2 => cases hp
    rename_i l' hl'
    cases hp
    have h1 : off + (cells (ρv x)).length ≤ arr.size := hl (off, cells (ρv x)) (by simp)
    obtain ⟨h2, h3⟩ := hc.put (hv x) hb.1 h1
    have hsz : (cv : Array Value) → cv = (ev x).cells.zipIdx.foldl (fun cs p => cs.setIfInBounds (off + p.2) p.1) arr → cv.size = arr.size := by
      rintro _ rfl
      rw [← h2.1, repl_length _ _ _ (by rw [hc.1]; exact h1), hc.1]
    obtain ⟨arr', h4, h5⟩ := parts_st hpl ps l' ρv ev _ _ hv hl' (fun p hp => by rw [hsz _ rfl]; exact hl p (by simp [hp])) h2
    refine ⟨arr', ?_, h5⟩
    simp only [List.map_cons, Instr.fill, hpl i off sz ag hf]
    rw [if_neg (by simp; omega)]
    exact h4

theorem parts_arr {n sz : Nat} : ∀ (ps : List (Nat × Operand)) (l : List (Nat × List AV)) (ρv : Operand → AV) (ev : Operand → Value) (cs : List AV) (arr : Array Value), (∀ x, V w ρ Z (ρv x) (ev x)) →
      arrOk n sz (ps.map fun ix => (ix.1, ρv ix.2)) = some l → (∀ p ∈ l, p.1 + p.2.length ≤ arr.size) → CellsRel w ρ Z cs arr →
      ∃ arr', Instr.fill (fun i => some (i * sz, sz)) arr (ps.map fun ix => (ix.1, ev ix.2)) = some arr' ∧ CellsRel w ρ Z (place cs l) arr'
  | [], l, ρv, ev, cs, arr, _, hp, _, hc => by
    simp [arrOk] at hp
    subst hp
    exact ⟨arr, rfl, hc⟩
  | (i, x) :: ps, l, ρv, ev, cs, arr, hv, hp, hl, hc => by
    simp only [List.map_cons, arrOk] at hp
    split at hp
    case isFalse => cases hp
    rename_i hb
    split at hp
    case h_2 => cases hp
    rename_i l' hl'
    cases hp
    have h1 : i * sz + (cells (ρv x)).length ≤ arr.size := hl (i * sz, cells (ρv x)) (by simp)
    obtain ⟨h2, h3⟩ := hc.put (hv x) hb.2.1 h1
    have hsz : (cv : Array Value) → cv = (ev x).cells.zipIdx.foldl (fun cs p => cs.setIfInBounds (i * sz + p.2) p.1) arr → cv.size = arr.size := by
      rintro _ rfl
      rw [← h2.1, repl_length _ _ _ (by rw [hc.1]; exact h1), hc.1]
    obtain ⟨arr', h4, h5⟩ := parts_arr ps l' ρv ev _ _ hv hl' (fun p hp => by rw [hsz _ rfl]; exact hl p (by simp [hp])) h2
    refine ⟨arr', ?_, h5⟩
    simp only [List.map_cons, Instr.fill]
    rw [if_neg (by simp; omega)]
    exact h4

/-- Elements on the two sides. -/
def RowRel (w : World) (ρ : List LS) (Z : Nat → Prop) (sz : Nat) (es : List (List AV)) (arr : Array Value) : Prop :=
  es.length * sz = arr.size ∧ (∀ e ∈ es, e.length = sz) ∧ ∀ (k : Nat) (e : List AV) (i : Nat) (x : AV), es[k]? = some e → e[i]? = some x → V w ρ Z x (arr.getD (k * sz + i) undef)

theorem RowRel.put {sz : Nat} {es : List (List AV)} {arr : Array Value} (hc : RowRel w ρ Z sz es arr) {i : Nat} {y : AV} {cv : Value} (hy : V w ρ Z y cv) (hb : boxable y = true) (hi : i < es.length) (hl : (cells y).length = sz) :
    RowRel w ρ Z sz (es.set i (cells y)) (cv.cells.zipIdx.foldl (fun cs p => cs.setIfInBounds (i * sz + p.2) p.1) arr) ∧ cv.cells.size = sz ∧ i * sz + cv.cells.size ≤ arr.size := by
  obtain ⟨h1, h2⟩ := hy.cells (boxable_or hb)
  have e : cv.cells.zipIdx.foldl (fun cs p => cs.setIfInBounds (i * sz + p.2) p.1) arr = (cv.cells.toList.zipIdx 0).foldl (fun cs p => cs.setIfInBounds (i * sz + p.2) p.1) arr := by
    rw [← Array.foldl_toList]
    simp
  have hpos : (i + 1) * sz ≤ es.length * sz := Nat.mul_le_mul_right _ hi
  rw [Nat.succ_mul] at hpos
  have hc1 := hc.1
  rw [e]
  obtain ⟨h3, h4⟩ := foldl_put (i * sz) cv.cells.toList 0 arr (by simp only [Array.length_toList, ← h1]; omega)
  refine ⟨⟨?_, fun e he => ?_, fun k e j x he hx => ?_⟩, by omega, by omega⟩
  · rw [h3, List.length_set]; exact hc1
  · rcases List.mem_or_eq_of_mem_set he with h5 | h5
    · exact hc.2.1 e h5
    · rw [h5]; exact hl
  · rw [h4]
    simp only [Nat.add_zero, Array.length_toList, ← h1, hl]
    rw [List.getElem?_set] at he
    by_cases hk : i = k
    · subst hk
      rw [if_pos rfl, if_pos hi] at he
      cases he
      have hj : j < sz := by rw [← hl]; exact (List.getElem?_eq_some_iff.1 hx).1
      rw [if_pos (by omega)]
      have := h2 j x hx
      rw [List.getD_eq_getElem?_getD]
      rw [Array.getD_eq_getD_getElem?] at this
      rw [show i * sz + j - i * sz = j by omega]
      simpa using this
    · rw [if_neg hk] at he
      have hj : j < sz := by rw [← hc.2.1 e (List.mem_of_getElem? he)]; exact (List.getElem?_eq_some_iff.1 hx).1
      rw [if_neg]
      · exact hc.2.2 k e j x he hx
      · intro hcc
        rcases Nat.lt_or_ge k i with hlt | hge
        · have : (k + 1) * sz ≤ i * sz := Nat.mul_le_mul_right _ hlt
          rw [Nat.succ_mul] at this
          omega
        · have : (i + 1) * sz ≤ k * sz := Nat.mul_le_mul_right _ (by omega)
          rw [Nat.succ_mul] at this
          omega

theorem parts_row {n sz : Nat} : ∀ (ps : List (Nat × Operand)) (ρv : Operand → AV) (ev : Operand → Value) (es : List (List AV)) (arr : Array Value), (∀ x, V w ρ Z (ρv x) (ev x)) →
      elsOk n sz (ps.map fun ix => (ix.1, ρv ix.2)) = true → es.length = n → RowRel w ρ Z sz es arr →
      ∃ arr', Instr.fill (fun i => some (i * sz, sz)) arr (ps.map fun ix => (ix.1, ev ix.2)) = some arr' ∧ RowRel w ρ Z sz (placeEl es (ps.map fun ix => (ix.1, ρv ix.2))) arr'
  | [], ρv, ev, es, arr, _, _, _, hc => ⟨arr, rfl, hc⟩
  | (i, x) :: ps, ρv, ev, es, arr, hv, hp, hn, hc => by
    simp only [List.map_cons, elsOk, Bool.and_eq_true, decide_eq_true_eq] at hp
    obtain ⟨⟨⟨h1, h2⟩, h3⟩, h4⟩ := hp
    obtain ⟨h5, h6, h7⟩ := hc.put (hv x) h2 (by rw [hn]; exact h1) h3
    obtain ⟨arr', h8, h9⟩ := parts_row ps ρv ev _ _ hv h4 (by simpa using hn) h5
    refine ⟨arr', ?_, h9⟩
    simp only [List.map_cons, Instr.fill]
    rw [if_neg (by simp; omega)]
    exact h8

/-- Rows of zero values. -/
theorem zeros_row {sz : Nat} {zs : List AV} {z : Array Value} (hl : zs.length = sz) (hz : z.size = sz) (hv : ∀ (k : Nat) (x : AV), zs[k]? = some x → V w ρ Z x (z.getD k undef)) (n : Nat) :
    RowRel w ρ Z sz (List.replicate n zs) ((Array.range (n * sz)).map (z[· % z.size]!)) := by
  refine ⟨by simp, fun e he => by rw [List.eq_of_mem_replicate he]; exact hl, fun k e i x he hx => ?_⟩
  have hk : k < n := by simpa using (List.getElem?_eq_some_iff.1 he).1
  rw [List.getElem?_replicate, if_pos hk] at he
  cases he
  have hi : i < sz := by rw [← hl]; exact (List.getElem?_eq_some_iff.1 hx).1
  have hp := pos_mul hk hi
  have := hv i x hx
  rw [Array.getD_eq_getD_getElem?] at this ⊢
  have h1 : ((Array.range (n * sz)).map (z[· % z.size]!))[k * sz + i]? = some z[i]! := by
    rw [Array.getElem?_map]
    have : (Array.range (n * sz))[k * sz + i]? = some (k * sz + i) := by simp [hp]
    rw [this]
    simp only [Option.map_some, hz]
    rw [Nat.mul_comm k sz, Nat.mul_add_mod, Nat.mod_eq_of_lt hi]
  rw [h1]
  have h2 : z[i]? = some z[i]! := by
    rw [getElem!_pos z i (by omega)]
    exact Array.getElem?_eq_getElem (by omega)
  rw [h2] at this
  exact this

theorem good_row (r : Rel w ρ Z h) (hs : s ≤ ρ.length) (hf : ρ[s]? = none ∨ ρ[s]? = some .fresh) {T sz n : Nat} {es : List (List AV)} {arr : Array Value} (hc : RowRel w ρ Z sz es arr) (hn : es.length = n) {fl : Bool}
    (hfl : fl = true → ∀ e ∈ es, ∀ x ∈ e, immc x = true) {rd : List Nat}
    (hr : (execOp a.eval o).run C.P w = .ok (.value (.slice (some ⟨w.heap.size, 0, none⟩) n n)) { w with heap := w.heap.push (.cells arr T (0, 0)) }) :
    Good C a o w ρ Z h s { val := .sl s 0 n, upd := [], new := [some { es := es, sz := sz, flat := fl }], rd := rd } := by
  have key := relAlloc r hs hf { es := es, sz := sz, flat := fl } arr T (by simp [hc.1]) hc.2.1 hfl hc.2.2 _ rfl
  refine ⟨_, _, _, .inl hr, key.1, key.2, ?_, fun i hi hfi => ?_⟩
  · exact V.newSl hs (Nat.le_refl _) (by simp [hn]) (by simp only [Nat.zero_add]; rw [← hc.1, hn]; exact Nat.le_refl _)
  · rw [putAt_get _ _ _ hs, if_neg hi]; exact hfi

end
end Am

/- Ninth part: every operation that 'ev' takes is carried out. -/
namespace Am
open Go

section
variable {C : Cx} {a : Act} {o : Oper} {w : World} {ρ : List LS} {Z : Nat → Prop} {h : List (Option Ob)} {s : Nat}

theorem lenOf_V {x : AV} {n : Nat} {cv : Value} (hn : lenOf x = some n) (hv : V w ρ Z x cv) : (∃ s, cv = .string s ∧ s.size = n ∧ x = .v (.string s)) ∨ ∃ b c, cv = .slice b n c := by
  cases x with
  | v y =>
    have := hv.v_inv
    subst this
    cases cv <;> simp [lenOf] at hn
    left
    exact ⟨_, rfl, hn, rfl⟩
  | nl => simp [lenOf] at hn; subst hn; cases hv with | nl b => exact .inr ⟨b, 0, rfl⟩
  | bor i es =>
    simp [lenOf] at hn; subst hn
    cases hv with
    | borE _ b c => exact .inr ⟨b, c, rfl⟩
    | bor _ _ b o sz c => exact .inr ⟨_, c, rfl⟩
  | sl id off len =>
    simp [lenOf] at hn; subst hn
    cases hv <;> exact .inr ⟨_, _, rfl⟩
  | _ => simp [lenOf] at hn

theorem run_mapM (P : Program) (w : World) (f : Field → Sem (Nat × Nat)) (g : Field → Nat × Nat) : ∀ (l : List Field), (∀ x ∈ l, (f x).run P w = .ok (g x) w) → (l.mapM f).run P w = .ok (l.map g) w
  | [], _ => by simp
  | x :: l, h => by
    simp only [List.mapM_cons, Sem.run_bind, h x (by simp), Result.andThen_ok, run_mapM P w f g l (fun y hy => h y (by simp [hy])), Sem.run_pure, List.map_cons]

theorem good_pure (r : Rel w ρ Z h) {e : Eff} {z : Value} (hu : e.upd = []) (hn : e.new = []) (hr : (execOp a.eval o).run C.P w = .ok (.value z) w) (hv : V w ρ Z e.val z) : Good C a o w ρ Z h s e := by
  refine ⟨z, w, ρ, .inl hr, ?_, Mono.refl _ _, hv, fun _ _ h => h⟩
  unfold applyH
  rw [hu, hn]
  exact r

theorem op_load (ok : CxOk C) (r : Rel w ρ Z h) {T : Nat} {pa : Operand} (ho : o.op = .load T pa) {x : AV} (hx : V w ρ Z x (a.eval pa)) (hT : (C.ti T).ok = true) {pre : Prop} {e : Eff}
    (hev : evLoad C (hp h) T x = some (pre, e)) (hpre : pre) : Good C a o w ρ Z h s e := by
  cases x with
  | p id i f =>
    simp only [evLoad] at hev
    split at hev
    case h_2 => cases hev
    rename_i ob hob
    cases hev
    obtain ⟨h1, h2⟩ := hpre
    have hid := hp_some hob
    have hL : ∃ L, ρ[id]? = some (.live L) ∧ ObR w ρ Z ob L := by
      rcases r.obj id ob hid with h3 | ⟨_, h3⟩
      · exact h3
      · rw [h3] at h1; cases h1
    obtain ⟨L, hL, hO⟩ := hL
    have hpv := V.p_inv hx hL
    obtain ⟨arr, T', a1, a2, a3⟩ := hO.ex
    have hei : ob.es[i]? = some ob.es[i] := List.getElem?_eq_getElem h1
    have hel : ob.es[i].length = ob.sz := hO.el _ (List.getElem_mem h1)
    have hgd : ob.es.getD i [] = ob.es[i] := by rw [List.getD_eq_getElem?_getD, hei]; rfl
    rw [hgd]
    have hpos : (i + 1) * ob.sz ≤ ob.es.length * ob.sz := Nat.mul_le_mul_right _ h1
    rw [Nat.succ_mul] at hpos
    have hroom := hO.room
    obtain ⟨cv, h4, h5⟩ := good_load (w := w) (ρ := ρ) (Z := Z) ok hT (b := L.b) (o := L.base + i * L.sz) (cs := ob.es[i]) (f := f) (g := fun j => arr.getD (L.base + i * L.sz + j) undef) (by omega)
      (fun k x hx => by
        have hk : k < ob.sz := by rw [← hel]; exact (List.getElem?_eq_some_iff.1 hx).1
        simp only [World.cell?, a1]
        rw [hO.sz, Array.getD_eq_getD_getElem?]
        simp
        rw [Array.getElem?_eq_getElem (by omega)]
        simp)
      (fun k x hx => by
        have := a3 i _ k x hei hx
        rw [hO.sz]
        rwa [show L.base + i * ob.sz + k = L.base + (i * ob.sz + k) by omega])
    refine good_pure r rfl rfl (z := cv) ?_ h5
    simp only [execOp, ho, hpv, Sem.run_bind]
    rw [show L.base + (i * L.sz + f) = L.base + i * L.sz + f by omega, h4]
    rfl
  | pb cs f =>
    obtain ⟨rfl, rfl⟩ := retp_eq hev
    generalize hcv : a.eval pa = pv at hx
    cases hx with
    | pb _ _ b o g hb hno hg hv hn =>
      obtain ⟨cv, h4, h5⟩ := good_load (w := w) (ρ := ρ) (Z := Z) ok hT hpre hg hv
      refine good_pure r rfl rfl (z := cv) ?_ h5
      simp only [execOp, ho, hcv, Sem.run_bind, h4]
      rfl
  | _ => simp [evLoad] at hev

theorem bound_V {x : Option Operand} {ρv : Operand → AV} {d l : Int} (hb : bound (x.map ρv) d = some l) {ev : Operand → Value} (hv : ∀ x, V w ρ Z (ρv x) (ev x)) :
    (x = none ∧ l = d) ∨ ∃ y k, x = some y ∧ ev y = .int k l := by
  cases x with
  | none => simp [bound] at hb; exact .inl ⟨rfl, hb.symm⟩
  | some y =>
    right
    simp only [Option.map_some, bound] at hb
    have hy := hv y
    unfold opInt at hb
    split at hb
    · rename_i k n he
      cases hb
      rw [he] at hy
      exact ⟨y, k, rfl, hy.v_inv⟩
    · cases hb

theorem run_bounds {x y : Option Operand} {ρv : Operand → AV} {n cap : Nat} {l m : Int} (isSl : Bool) {ev : Operand → Value} (hv : ∀ x, V w ρ Z (ρv x) (ev x)) (hl : bound (x.map ρv) 0 = some l) (hm : bound (y.map ρv) n = some m)
    (h1 : 0 ≤ l) (h2 : l ≤ m) (h3 : m ≤ n) (hc : n ≤ cap) (P : Program) : (Instr.sliceBounds isSl n cap (x.map ev) (y.map ev) none).run P w = .ok (l.toNat, m.toNat, cap) w := by
  simp only [Instr.sliceBounds, Sem.run_bind, Sem.run_pure, Result.andThen_ok]
  rcases bound_V hm hv with ⟨rfl, rfl⟩ | ⟨q, k, rfl, hq⟩
  · rcases bound_V hl hv with ⟨rfl, rfl⟩ | ⟨p, k', rfl, hp⟩
    · simp
    · simp only [Option.map_none, Option.map_some, Sem.run_pure, Result.andThen_ok, hp, Instr.sliceBound, Sem.run_bind, asIntOf]
      rw [if_pos ⟨h1, by simpa using h2⟩]
      simp
  · simp only [Option.map_some, hq, Instr.sliceBound, Sem.run_bind, asIntOf, Sem.run_pure, Result.andThen_ok]
    rw [if_pos ⟨by omega, by omega⟩]
    simp only [Sem.run_pure, Result.andThen_ok]
    rcases bound_V hl hv with ⟨rfl, rfl⟩ | ⟨p, k', rfl, hp⟩
    · simp
    · simp only [Option.map_some, Sem.run_pure, Result.andThen_ok, hp, Instr.sliceBound, Sem.run_bind, asIntOf]
      rw [if_pos ⟨h1, by omega⟩]
      simp

end
end Am

/- Tenth part: the theorem on one operation. -/
namespace Am
open Go

section
variable {C : Cx} {a : Act} {o : Oper} {w : World} {ρ : List LS} {Z : Nat → Prop} {h : List (Option Ob)} {s : Nat}

theorem ldv_V (ok : CxOk C) {T : Nat} (hT : (C.ti T).ok = true) {cs : List AV} {arr : Array Value} (hl : cs.length = arr.size) (hv : ∀ (k : Nat) (x : AV), cs[k]? = some x → V w ρ Z x (arr.getD k undef)) (f : Nat)
    (hf : f + (C.ti T).size ≤ cs.length) : ∃ cv, (part T arr f).run C.P w = .ok cv w ∧ V w ρ Z (ldv (C.ti T) cs f) cv := by
  simp only [part, Sem.run_bind, ok.run_isAgg hT, Result.andThen_ok]
  cases hagg : (C.ti T).agg with
  | true =>
    simp only [if_true, Sem.run_bind, ok.run_sizeOf hT, Result.andThen_ok, Sem.run_pure]
    refine ⟨_, rfl, ?_⟩
    simp only [ldv, hagg, if_true]
    refine .agg _ _ (by simp; omega) fun k x hx => ?_
    obtain ⟨h1, h2⟩ := ldv_get _ _ _ _ _ hx
    have := hv (f + k) x h1
    rw [Array.getD_eq_getD_getElem?] at this ⊢
    rw [Array.getElem?_extract_of_lt (by omega)]
    have h7 : arr[f + k]? = some arr[f + k] := Array.getElem?_eq_getElem (by omega)
    rw [h7] at this
    exact this
  | false =>
    simp only [Bool.false_eq_true, if_false]
    have h1 := ok.size_one hT hagg
    have hlt : f < arr.size := by omega
    rw [Array.getElem?_eq_getElem hlt]
    refine ⟨_, rfl, ?_⟩
    simp only [ldv, hagg, Bool.false_eq_true, if_false]
    have hx := List.getElem?_eq_getElem (l := cs) (i := f) (by omega)
    have := hv f _ hx
    rw [List.getD_eq_getElem?_getD, hx]
    have h7 : arr[f]? = some arr[f] := Array.getElem?_eq_getElem hlt
    rw [Array.getD_eq_getD_getElem?, h7] at this
    exact this

theorem op_slice (ok : CxOk C) (r : Rel w ρ Z h) {T : Nat} {px : Operand} {lo hi : Option Operand} (ho : o.op = .slice T px lo hi none) {ρv : Operand → AV} (hρ : ∀ x, V w ρ Z (ρv x) (a.eval x)) {pre : Prop} {e : Eff}
    (hev : evSlice C (hp h) T (ρv px) (lo.map ρv) (hi.map ρv) = some (pre, e)) (hpre : pre) : Good C a o w ρ Z h s e := by
  have hx := hρ px
  generalize hX : ρv px = X at hx hev
  generalize hcx : a.eval px = cx at hx
  unfold evSlice at hev
  split at hev
  · rename_i n hk hn
    split at hev
    case h_2 => cases hev
    rename_i str l m hl hm
    obtain ⟨rfl, rfl⟩ := retp_eq hev
    have := hx.v_inv
    subst this
    simp [lenOf] at hn
    subst hn
    have hb := run_bounds (w := w) false hρ hl hm hpre.1 hpre.2.1 hpre.2.2 (Nat.le_refl _) C.P
    refine good_pure r rfl rfl (z := .string (str.extract l.toNat m.toNat)) ?_ (.v _)
    simp only [execOp, ho, Instr.sliceAt, hcx, Sem.run_bind, run_underlying (ok.under_str hk), Result.andThen_ok, Instr.slice, Option.map_none, Option.isSome_none, Bool.false_eq_true, if_false, Sem.run_pure]
    rw [hb]
    rfl
  · rename_i el n hk hn
    obtain ⟨hu, hel⟩ := ok.under_sl hk
    have hrun : ∀ (b : Option Addr) (c : Nat) (l m : Int), cx = .slice b n c → n ≤ c → bound (lo.map ρv) 0 = some l → bound (hi.map ρv) n = some m → 0 ≤ l → l ≤ m → m ≤ n →
        (execOp a.eval o).run C.P w = .ok (.value (.slice (if c = l.toNat then b else b.map (·.add (l.toNat * (C.ti el).size))) (m.toNat - l.toNat) (c - l.toNat))) w := by
      intro b c l m hc hnc hl hm h1 h2 h3
      have hb := run_bounds (w := w) true hρ hl hm h1 h2 h3 hnc C.P
      simp only [execOp, ho, Instr.sliceAt, hcx, hc, Sem.run_bind, run_underlying hu, Result.andThen_ok, Instr.slice, Option.map_none, Sem.run_pure]
      rw [hb]
      simp only [Result.andThen_ok, Sem.run_bind, ok.run_sizeOf hel, Sem.run_pure]
    split at hev
    · rename_i l m hl hm
      obtain ⟨rfl, rfl⟩ := retp_eq hev
      cases hx with
      | nl b =>
        simp [lenOf] at hn
        subst hn
        obtain ⟨rfl, rfl⟩ := hpre
        refine good_pure r rfl rfl (hrun b 0 0 0 rfl (Nat.le_refl _) hl hm (by omega) (by omega) (by omega)) ?_
        simp
        exact .nl _
    · rename_i i es l m hl hm
      obtain ⟨rfl, rfl⟩ := retp_eq hev
      simp [lenOf] at hn
      subst hn
      obtain ⟨⟨h1, h2, h3⟩, h4⟩ := hpre
      cases hx with
      | borE _ b c =>
        refine good_pure r rfl rfl (hrun b c l m rfl (Nat.zero_le _) hl hm h1 h2 h3) ?_
        simp at h3
        have : m = 0 := by omega
        have : l = 0 := by omega
        subst_vars
        simp
        exact .borE _ _ _
      | bor _ _ b p sz c g hb hno hz hc hsz hg hv hnr hmm =>
        refine good_pure r rfl rfl (hrun _ c l m rfl hc hl hm h1 h2 h3) ?_
        have hlen : ((es.drop l.toNat).take (m.toNat - l.toNat)).length = m.toNat - l.toNat := by simp; omega
        rcases Nat.eq_zero_or_pos (m.toNat - l.toNat) with h0 | h0
        · have he : (es.drop l.toNat).take (m.toNat - l.toNat) = [] := List.eq_nil_of_length_eq_zero (by rw [hlen, h0])
          rw [he, h0]
          exact .borE _ _ _
        · have hszT : sz = (C.ti el).size := by
            have hne : 0 < es.length := by omega
            obtain ⟨e0, he0⟩ := List.exists_mem_of_length_pos hne
            rw [← hsz e0 he0, h4 e0 he0]
          rw [if_neg (by omega)]
          simp only [Option.map_some, addr_add]
          have hget : ∀ (k : Nat) (e : List AV), ((es.drop l.toNat).take (m.toNat - l.toNat))[k]? = some e → es[l.toNat + k]? = some e := by
            intro k e he
            rw [List.getElem?_take] at he
            split at he
            · rwa [List.getElem?_drop] at he
            · cases he
          have := V.bor (w := w) (ρ := ρ) (Z := Z) i ((es.drop l.toNat).take (m.toNat - l.toNat)) b (p + l.toNat * sz) sz (c - l.toNat) (fun k j => g (l.toNat + k) j) hb hno hz (by rw [hlen]; omega)
            (fun e he => hsz e (List.mem_of_mem_drop (List.mem_of_mem_take he)))
            (fun k e j x he hx => by
              have := hg (l.toNat + k) e j x (hget k e he) hx
              rwa [show p + l.toNat * sz + (k * sz + j) = p + ((l.toNat + k) * sz + j) by rw [Nat.add_mul]; omega])
            (fun k e j x he hx => hv _ e j x (hget k e he) hx)
            (fun k e j x he hx => hnr _ e j x (hget k e he) hx)
            (fun hi k e j x he hx => hmm hi _ e j x (hget k e he) hx)
          rw [hlen] at this
          rw [← hszT]
          exact this
    · rename_i id off len l m hl hm
      split at hev
      case h_2 => cases hev
      rename_i ob hob
      split at hev
      case isFalse => cases hev
      rename_i hsz
      cases hev
      simp [lenOf] at hn
      subst hn
      obtain ⟨h1, h2, h3⟩ := hpre
      have hid := hp_some hob
      cases hx with
      | sld _ _ _ _ _ hd _ => rcases r.obj id ob hid with ⟨L, h5, _⟩ | ⟨h5, _⟩ <;> rw [hd] at h5 <;> cases h5
      | slz _ _ L b hL =>
        refine good_pure r rfl rfl (hrun b 0 l m rfl (Nat.le_refl _) hl hm h1 h2 h3) ?_
        have : m = 0 := by omega
        have : l = 0 := by omega
        subst_vars
        exact .slz id _ L _ hL
      | slv _ _ b hL =>
        refine good_pure r rfl rfl (hrun b 0 l m rfl (Nat.le_refl _) hl hm h1 h2 h3) ?_
        have : m = 0 := by omega
        have : l = 0 := by omega
        subst_vars
        exact .slv id _ _ hL
      | sl _ _ _ L c hL hc hnn hr =>
        have hO := r.live hid hL
        refine good_pure r rfl rfl (hrun _ c l m rfl hc hl hm h1 h2 h3) ?_
        by_cases hcl : c = l.toNat
        · rw [if_pos hcl]
          have e1 : m.toNat - l.toNat = 0 := by omega
          have e2 : c - l.toNat = 0 := by omega
          rw [e1, e2]
          exact .slz id _ L _ hL
        · rw [if_neg hcl]
          simp only [Option.map_some, addr_add]
          have := V.sl (w := w) (ρ := ρ) (Z := Z) id (off + l.toNat) (m.toNat - l.toNat) L (c - l.toNat) hL (by omega) (by omega) (by rw [show off + l.toNat + (c - l.toNat) = off + c by omega]; exact hr)
          rw [show L.base + (off + l.toNat) * L.sz = L.base + off * L.sz + l.toNat * (C.ti el).size by rw [Nat.add_mul, hO.sz, hsz]; omega] at this
          exact this
    · cases hev
  · cases hev

def numOf : List AV → Int
  | [.v (.int _ n)] => n
  | _ => 0

theorem foldl_push : ∀ (ns : List Int) (acc : ByteArray), ns.foldl (fun r n => r.push (UInt8.ofNat n.toNat)) acc = ⟨acc.data ++ (ns.map fun n => UInt8.ofNat n.toNat).toArray⟩
  | [], acc => by cases acc; simp
  | n :: ns, acc => by
    simp only [List.foldl_cons, foldl_push ns]
    cases acc
    simp [ByteArray.push]

theorem op_str (ok : CxOk C) (r : Rel w ρ Z h) {src dst el : Nat} (hs : (C.ti src).k = .sl el) (he : (C.ti el).k = .int .u8) (hd : (C.ti dst).k = .str) {x : AV} {es : List (List AV)} {ids : List Nat}
    (hrd : rdSlice (hp h) x = some (es, ids)) {cv : Value} (hx : V w ρ Z x cv) (hb : ∀ e ∈ es, isByte e = true) : (convert src dst cv).run C.P w = .ok (.string (strOf es)) w := by
  obtain ⟨base, cap, rfl, hcap, hcells, _⟩ := rd_cells r hrd hx
  rw [run_convert_bytes_string w src dst el base es.length cap (ok.under_sl hs).1 (ok.under_int he) (ok.under_str hd)]
  rcases List.eq_nil_or_concat es with rfl | hne
  · cases base with
    | none => rfl
    | some b =>
      have := run_bytesToString (P := C.P) w b 0 cap [] (by simp [loadCells, loadCellsFrom])
      rw [show ([] : List (List AV)).length = 0 from rfl, this]
      rfl
  · have hne2 : es ≠ [] := by
      obtain ⟨l, b, hl⟩ := hne
      rw [hl]; simp
    obtain ⟨b, p, sz, c, rfl, _, hl, hc, hv⟩ := hcells hne2
    have hone : ∀ e ∈ es, ∃ n : Int, e = [.v (.int .u8 n)] := by
      intro e he
      have := hb e he
      unfold isByte at this
      split at this
      · exact ⟨_, rfl⟩
      · cases this
    have hsz1 : sz = 1 := by
      obtain ⟨e0, he0⟩ := List.exists_mem_of_ne_nil es hne2
      obtain ⟨n, hn⟩ := hone e0 he0
      rw [← hl e0 he0, hn]; rfl
    subst hsz1
    have hload : (loadCells ⟨b, p, none⟩ es.length).run C.P w = .ok ((es.map numOf).map (Value.int .u8)).toArray w := by
      have := run_loadCells_list (P := C.P) w ⟨b, p, none⟩ ((es.map numOf).map (Value.int .u8)) (fun j v hj => by
        rw [addr_add]
        simp only [List.getElem?_map] at hj
        cases hej : es[j]? with
        | none => rw [hej] at hj; simp at hj
        | some e =>
          rw [hej] at hj
          simp at hj
          obtain ⟨n, hn⟩ := hone e (List.mem_of_getElem? hej)
          have hjl : j < es.length := (List.getElem?_eq_some_iff.1 hej).1
          have h1 := hc j (by omega)
          have h2 := (hv j e 0 (.v (.int .u8 n)) hej (by rw [hn]; rfl)).v_inv
          simp only [Nat.mul_one, Nat.add_zero] at h2
          rw [h1, h2, ← hj, hn]
          rfl)
      simpa using this
    rw [run_bytesToString (P := C.P) w ⟨b, p, none⟩ es.length cap (es.map numOf) hload]
    rw [foldl_push]
    simp only [List.map_map]
    have : (es.map ((fun n => UInt8.ofNat n.toNat) ∘ numOf)) = es.map fun e => match e with
        | [.v (.int _ n)] => UInt8.ofNat n.toNat
        | _ => 0 := by
      apply List.map_congr_left
      intro e he
      obtain ⟨n, hn⟩ := hone e he
      rw [hn]; rfl
    rw [this]
    show Result.ok (Value.string (ByteArray.mk (#[] ++ _))) w = _
    rw [Array.empty_append]
    rfl

end
end Am

/- The theorem on one operation. -/
namespace Am
open Go

section
variable {C : Cx} {a : Act} {o : Oper} {w : World} {ρ : List LS} {Z : Nat → Prop} {h : List (Option Ob)} {s : Nat}

theorem args1 {c : Call} {x : Operand} (h : c.args.toList = [x]) : c.args = #[x] := by
  cases hc : c.args with
  | mk l => rw [hc] at h; simp at h; rw [h]

theorem arr1 {α : Type} {c : Array α} {x : α} (h : c.toList = [x]) : c = #[x] := by
  cases c; simp at h; rw [h]

theorem arr2 {α : Type} {c : Array α} {x y : α} (h : c.toList = [x, y]) : c = #[x, y] := by
  cases c; simp at h; rw [h]

theorem good_builtin {c : Call} {b : Builtin} (ho : o.op = .call c) (hb : c.callee = .builtin b) :
    ∃ k : Array Bool, (execOp a.eval o).run C.P w = (builtin b c.argTypes o.type k (c.args.map a.eval)).run C.P w := by
  refine ⟨c.args.map fun | .const _ => true | _ => false, ?_⟩
  simp only [execOp, ho, resolve, hb, Sem.run_bind, Sem.run_pure, Result.andThen_ok, invoke]
  rfl

theorem mn (x y : Int) : (if y < x then y else x) = min x y := by omega
theorem mx (x y : Int) : (if y > x then y else x) = max x y := by omega

theorem op_builtin (ok : CxOk C) (r : Rel w ρ Z h) (hs : s ≤ ρ.length) (hf : ρ[s]? = none ∨ ρ[s]? = some .fresh) {gr : Nat → Bool} {ρv : Operand → AV} (hρ : ∀ x, V w ρ Z (ρv x) (a.eval x)) {c : Call} {b : Builtin}
    (ho : o.op = .call c) (hb : c.callee = .builtin b) {pre : Prop} {e : Eff} (hev : evBuiltin C gr ρv (hp h) s c b = some (pre, e)) (hpre : pre) : Good C a o w ρ Z h s e := by
  obtain ⟨kk, hrun⟩ := good_builtin (C := C) (a := a) (w := w) ho hb
  unfold evBuiltin at hev
  split at hev
  · rename_i x hx1
    have hargs := args1 hx1
    have hx := hρ x
    rw [hargs] at hrun
    split at hev
    case h_2 => cases hev
    rename_i T hT
    have hT := arr1 hT
    have key : ∀ n : Nat, lenOf (ρv x) = some n → (∀ s, ρv x = .v (.string s) → (C.ti T).k = .str) → ((∀ s, ρv x ≠ .v (.string s)) → ∃ el, (C.ti T).k = .sl el) →
        (execOp a.eval o).run C.P w = .ok (.value (.int .i64 n)) w := by
      intro n hn h1 h2
      rw [hrun]
      rcases lenOf_V hn hx with ⟨s, hc, hs, hX⟩ | ⟨bb, cc, hc⟩
      · have hu := ok.under_str (h1 s hX)
        simp [builtin, Builtin.len_, hT, hc, run_underlying hu, hs, goInt]
      · have hne : ∀ s, ρv x ≠ .v (.string s) := by
          intro s hX
          rw [hX] at hx
          have := hx.v_inv
          rw [hc] at this
          cases this
        obtain ⟨el, hel⟩ := h2 hne
        have hu := (ok.under_sl hel).1
        simp [builtin, Builtin.len_, hT, hc, run_underlying hu, goInt]
    split at hev
    · rename_i hk hv hn
      obtain ⟨_, rfl⟩ := ret_eq hev
      exact good_pure r rfl rfl (key _ hn (fun _ _ => hk) (fun c => absurd hv (c _))) (.v _)
    · rename_i hk hv hn
      obtain ⟨_, rfl⟩ := ret_eq hev
      exact good_pure r rfl rfl (key _ hn (fun s hs => by rw [hs] at hv; cases hv) (fun _ => ⟨_, hk⟩)) (.v _)
    · rename_i hk hv hn
      obtain ⟨_, rfl⟩ := ret_eq hev
      exact good_pure r rfl rfl (key _ hn (fun s hs => by rw [hs] at hv; cases hv) (fun _ => ⟨_, hk⟩)) (.v _)
    · rename_i hk hv hn
      obtain ⟨_, rfl⟩ := ret_eq hev
      exact good_pure r rfl rfl (key _ hn (fun s hs => by rw [hs] at hv; cases hv) (fun _ => ⟨_, hk⟩)) (.v _)
    · cases hev
  · rename_i x y hxy
    have hargs := arr2 hxy
    rw [hargs] at hrun
    have hx := hρ x
    have hy := hρ y
    split at hev
    case h_2 => cases hev
    rename_i k m k' n e1 e2
    obtain ⟨_, rfl⟩ := ret_eq hev
    rw [e1] at hx
    rw [e2] at hy
    refine good_pure r rfl rfl (z := .int k (max m n)) ?_ (.v _)
    rw [hrun]
    simp [builtin, hx.v_inv, hy.v_inv, run_max_int2, mx]
  · rename_i x y hxy
    have hargs := arr2 hxy
    rw [hargs] at hrun
    have hx := hρ x
    have hy := hρ y
    split at hev
    case h_2 => cases hev
    rename_i k m k' n e1 e2
    obtain ⟨_, rfl⟩ := ret_eq hev
    rw [e1] at hx
    rw [e2] at hy
    refine good_pure r rfl rfl (z := .int k (min m n)) ?_ (.v _)
    rw [hrun]
    simp [builtin, hx.v_inv, hy.v_inv, run_min_int2, mn]
  · rename_i x y hxy
    have hargs := arr2 hxy
    rw [hargs] at hrun
    split at hev
    case h_2 => cases hev
    rename_i T T2 hT
    split at hev
    case h_2 => cases hev
    rename_i e2 hT2
    obtain ⟨cv, w', ρ', h1, h2, h3, h4, h5⟩ := op_append ok r hs hf hT2 hev hpre (hρ x) (hρ y) o.type
    refine ⟨cv, w', ρ', .inl ?_, h2, h3, h4, h5⟩
    rw [hrun, arr2 hT]
    simp only [builtin, Sem.run_bind]
    have : (#[x, y].map a.eval) = #[a.eval x, a.eval y] := by simp
    rw [this, h1]
    rfl
  · cases hev

theorem wrap_small {x : Int} (h0 : 0 ≤ x) (h1 : x < 9223372036854775808) : IntKind.i64.wrap x = x := by
  simp [IntKind.wrap, IntKind.bits, IntKind.signed]
  omega

theorem placeEl_length (es : List (List AV)) : ∀ l : List (Nat × AV), (placeEl es l).length = es.length := by
  intro l
  induction l generalizing es with
  | nil => rfl
  | cons p l ih => obtain ⟨i, y⟩ := p; simp only [placeEl]; rw [ih]; simp

theorem good_garbage (r : Rel w ρ Z h) {e : Eff} {z : Value} {T : Nat} {arr : Array Value} (hu : e.upd = []) (hn : e.new = [])
    (hr : (execOp a.eval o).run C.P w = .ok (.value z) { w with heap := w.heap.push (.cells arr T (0, 0)) }) (hv : ∀ w' ρ', V w' ρ' Z e.val z) : Good C a o w ρ Z h s e := by
  have hsz : ∀ b : Nat, b < w.heap.size → (w.heap.push (.cells arr T (0, 0)))[b]? = w.heap[b]? := by
    intro b hb
    rw [Array.getElem?_push, if_neg (by omega)]
  have m : Mono w ρ { w with heap := w.heap.push (.cells arr T (0, 0)) } ρ :=
    ⟨rfl, rfl, rfl, by simp, fun b hb _ => hsz b hb, fun _ _ h => h, fun _ _ h => .inl h, fun _ h => h, fun _ h => .inl h⟩
  refine ⟨z, _, ρ, .inl hr, ?_, m, hv _ _, fun _ _ h => h⟩
  unfold applyH
  rw [hu, hn]
  refine ⟨r.len, fun id ob ho => ?_, r.non, r.inj, fun b hb => Nat.lt_of_lt_of_le (r.zlt b hb) m.hs⟩
  rcases r.obj id ob ho with ⟨L, h1, h2⟩ | h1
  · exact .inl ⟨L, h1, h2.mono m (hsz _ (not_owned_size r ⟨id, L, h1, rfl⟩))⟩
  · exact .inr h1

theorem ev_good (ok : CxOk C) (r : Rel w ρ Z h) (hs : s ≤ ρ.length) (hf : ρ[s]? = none ∨ ρ[s]? = some .fresh) {gr : Nat → Bool} {ρv : Operand → AV} (hρ : ∀ x, V w ρ Z (ρv x) (a.eval x)) {pre : Prop} {e : Eff}
    (hev : ev C gr ρv (hp h) s o = some (pre, e)) (hpre : pre) : Good C a o w ρ Z h s e := by
  cases ho : o.op with
  | move x =>
    simp only [ev, ho] at hev
    obtain ⟨_, rfl⟩ := ret_eq hev
    exact good_pure r rfl rfl (by simp only [execOp, ho]; rfl) (hρ x)
  | assign x =>
    simp only [ev, ho] at hev
    obtain ⟨_, rfl⟩ := ret_eq hev
    exact good_pure r rfl rfl (by simp only [execOp, ho]; rfl) (hρ x)
  | pick c x y =>
    simp only [ev, ho] at hev
    split at hev
    case h_2 => cases hev
    rename_i b hb
    obtain ⟨_, rfl⟩ := ret_eq hev
    have hc := hρ c
    rw [hb] at hc
    exact good_pure r rfl rfl (by simp only [execOp, ho, hc.v_inv, asBool, Sem.run_bind, Sem.run_pure, Result.andThen_ok]) ((hρ x).avif (hρ y))
  | alloc T =>
    simp only [ev, ho] at hev
    split at hev
    case isTrue => cases hev
    rename_i hT
    cases hev
    exact op_alloc ok r hs hf ho (by simpa using hT)
  | box T x =>
    simp only [ev, ho] at hev
    have hx := hρ x
    split at hev
    · rename_i cs hX
      cases hev
      rw [hX] at hx
      exact op_box r hs hf ho hx (.inr ⟨cs, rfl⟩)
    · rename_i hX
      split at hev
      case isFalse => cases hev
      rename_i hc
      cases hev
      have := op_box (C := C) r hs hf ho hx (.inl hc)
      have e1 : cells (ρv x) = [ρv x] := by
        cases hq : ρv x with
        | agg cs => exact absurd hq (hX cs)
        | _ => rfl
      rw [e1] at this
      exact this
  | load T x =>
    simp only [ev, ho] at hev
    split at hev
    case isTrue => cases hev
    rename_i hT
    exact op_load ok r ho (hρ x) (by simpa using hT) hev hpre
  | store T x y =>
    simp only [ev, ho] at hev
    split at hev
    case isTrue => cases hev
    rename_i hT
    have hx := hρ x
    split at hev
    case h_2 => cases hev
    rename_i id i f hX
    split at hev
    case h_2 => cases hev
    rename_i ob hob
    split at hev
    case isFalse => cases hev
    rename_i hc
    cases hev
    rw [hX] at hx
    exact op_store ok r ho (hp_some hob) (by simpa using hT) hx (hρ y) hc.1 hc.2.1 hc.2.2 hpre.1 hpre.2
  | nilCheck x =>
    simp only [ev, ho] at hev
    have hx := hρ x
    generalize hcx : a.eval x = cx at hx
    split at hev
    · rename_i id i f hX
      split at hev
      case h_2 => cases hev
      rename_i ob hob
      cases hev
      rw [hX] at hx
      refine good_pure r rfl rfl (z := cx) ?_ hx
      cases hx with
      | p _ _ _ L hL => simp only [execOp, ho, hcx]; rfl
      | pd _ _ _ _ hd => rcases r.obj id ob (hp_some hob) with ⟨L, h1, _⟩ | ⟨h1, _⟩ <;> rw [hd] at h1 <;> cases h1
    · rename_i cs f hX
      obtain ⟨_, rfl⟩ := ret_eq hev
      rw [hX] at hx
      refine good_pure r rfl rfl (z := cx) ?_ hx
      cases hx with
      | pb => simp only [execOp, ho, hcx]; rfl
    · rename_i f caps hX
      obtain ⟨_, rfl⟩ := ret_eq hev
      rw [hX] at hx
      refine good_pure r rfl rfl (z := cx) ?_ hx
      cases hx with
      | fn => simp only [execOp, ho, hcx]; rfl
    · cases hev
  | binOp op xT x y yT =>
    simp only [ev, ho] at hev
    split at hev
    · rename_i hn
      have hy : a.eval y = .slice none 0 0 := by
        unfold isNilS at hn
        split at hn
        · rfl
        · cases hn
      obtain ⟨z, h1, h2, h3, h4, h5⟩ := nil_run ok hev (hρ x) x y
      refine good_pure r h4 h5 (by simp only [execOp, ho, Sem.run_bind, hy, h1, h2, Result.andThen_ok]; rfl) h3
    obtain ⟨z, h1, h2, h3, h4, h5⟩ := bin_run ok hev hpre (hρ x) (hρ y) x y
    exact good_pure r h4 h5 (by simp only [execOp, ho, Sem.run_bind, h1, h2, Result.andThen_ok]; rfl) h3
  | unOp op xT x =>
    simp only [ev, ho] at hev
    obtain ⟨z, h1, h2, h3, h4⟩ := un_run hev (hρ x) C.P
    exact good_pure r h3 h4 (by simp only [execOp, ho, Sem.run_bind, h1, Result.andThen_ok]; rfl) h2
  | fieldAddr T x f =>
    simp only [ev, ho] at hev
    have hx := hρ x
    generalize hcx : a.eval x = cx at hx
    have key : ∀ (fs : List (Nat × Nat × Bool)) (off sz : Nat) (ag : Bool) (b p : Nat), (C.ti T).k = .st fs → fs[f]? = some (off, sz, ag) → sz ≠ 0 → cx = .pointer (some ⟨b, p, none⟩) →
        (execOp a.eval o).run C.P w = .ok (.value (.pointer (some ⟨b, p + off, none⟩))) w := by
      intro fs off sz ag b p hk hf2 hsz hc
      obtain ⟨fields, f1, f2, f3⟩ := ok.under_st hk
      obtain ⟨fd, g1, g2, g3, g4⟩ := f3 f off sz ag hf2
      simp only [execOp, ho, Instr.fieldAt, hcx, hc, Sem.run_bind, run_underlying f1, Result.andThen_ok, g1, Instr.sureAddr, Sem.run_pure, fieldPlace, g3, Sem.run_ite]
      rw [if_neg hsz]
      simp only [Sem.run_pure, Result.andThen_ok, g2, addr_add]
    split at hev
    · rename_i fs id i g hk hX
      split at hev
      case h_2 => cases hev
      rename_i off sz ag ob hf2 hob
      split at hev
      case isTrue => cases hev
      rename_i hsz
      cases hev
      rw [hX] at hx
      cases hx with
      | pd _ _ _ _ hd => rcases r.obj id ob (hp_some hob) with ⟨L, h1, _⟩ | ⟨h1, _⟩ <;> rw [hd] at h1 <;> cases h1
      | p _ _ _ L hL =>
        refine good_pure r rfl rfl (key fs off sz ag _ _ hk hf2 hsz rfl) ?_
        rw [show L.base + (i * L.sz + g) + off = L.base + (i * L.sz + (g + off)) by omega]
        exact .p id i _ L hL
    · rename_i fs cs g hk hX
      split at hev
      case h_2 => cases hev
      rename_i off sz ag hf2
      split at hev
      case isTrue => cases hev
      rename_i hsz
      obtain ⟨_, rfl⟩ := ret_eq hev
      rw [hX] at hx
      cases hx with
      | pb _ _ b p gg hb hno hg hv hn =>
        refine good_pure r rfl rfl (key fs off sz ag _ _ hk hf2 hsz rfl) ?_
        rw [show p + g + off = p + (g + off) by omega]
        exact .pb cs _ b p gg hb hno hg hv hn
    · cases hev
  | field T x f =>
    simp only [ev, ho] at hev
    have hx := hρ x
    generalize hcx : a.eval x = cx at hx
    split at hev
    case h_2 => cases hev
    rename_i fs cs hk hX
    split at hev
    case h_2 => cases hev
    rename_i off sz ag hf2
    obtain ⟨rfl, rfl⟩ := retp_eq hev
    rw [hX] at hx
    cases hx with
    | agg _ arr hl hv =>
      obtain ⟨fields, f1, f2, f3⟩ := ok.under_st hk
      obtain ⟨fd, g1, g2, g3, g4⟩ := f3 f off sz ag hf2
      cases ag with
      | true =>
        refine good_pure r rfl rfl (z := .agg (arr.extract off (off + sz))) ?_ ?_
        · simp only [execOp, ho, Instr.field, hcx, Sem.run_bind, run_underlying f1, Result.andThen_ok, g1, asAgg, Sem.run_pure, part, g4, g3, g2, if_true]
        · simp only [if_true] at hpre ⊢
          refine .agg _ _ (by simp; omega) fun k x hx => ?_
          rw [List.getElem?_take] at hx
          split at hx
          case isFalse => cases hx
          rw [List.getElem?_drop] at hx
          have := hv _ x hx
          rw [Array.getD_eq_getD_getElem?] at this ⊢
          rw [Array.getElem?_extract_of_lt (by omega)]
          have h7 : arr[off + k]? = some arr[off + k] := Array.getElem?_eq_getElem (by omega)
          rw [h7] at this
          exact this
      | false =>
        simp only [Bool.false_eq_true, if_false] at hpre
        have hx := List.getElem?_eq_getElem (l := cs) (i := off) (by omega)
        have h7 : arr[off]? = some arr[off] := Array.getElem?_eq_getElem (by omega)
        have := hv off _ hx
        rw [Array.getD_eq_getD_getElem?, h7] at this
        refine good_pure r rfl rfl (z := arr[off]) ?_ ?_
        · simp only [execOp, ho, Instr.field, hcx, Sem.run_bind, run_underlying f1, Result.andThen_ok, g1, asAgg, Sem.run_pure, part, g4, g2, Bool.false_eq_true, if_false, h7]
        · simp only [Bool.false_eq_true, if_false]
          rw [List.getD_eq_getElem?_getD, hx]
          exact this
  | indexAddr T x ix =>
    simp only [ev, ho] at hev
    have hx := hρ x
    have hi := hρ ix
    generalize hcx : a.eval x = cx at hx
    generalize hci : a.eval ix = ci at hi
    have key : ∀ (el : Nat) (k : IntKind) (i : Int) (b p n c : Nat), (C.ti T).k = .sl el → ci = .int k i → cx = .slice (some ⟨b, p, none⟩) n c → 0 ≤ i → i < n →
        (execOp a.eval o).run C.P w = .ok (.value (.pointer (some ⟨b, p + i.toNat * (C.ti el).size, none⟩))) w := by
      intro el k i b p n c hk h1 h2 h3 h4
      obtain ⟨hu, hel⟩ := ok.under_sl hk
      simp only [execOp, ho, Instr.indexAt, hcx, hci, h1, h2, asIntOf, Sem.run_bind, Sem.run_pure, Result.andThen_ok, run_underlying hu]
      rw [if_pos ⟨h3, h4⟩]
      simp only [Sem.run_bind, ok.run_sizeOf hel, Result.andThen_ok, Sem.run_pure, addr_add]
    split at hev
    · rename_i el id off len k i hk hX hI
      split at hev
      case h_2 => cases hev
      rename_i ob hob
      split at hev
      case isFalse => cases hev
      rename_i hsz
      cases hev
      rw [hX] at hx
      rw [hI] at hi
      obtain ⟨h1, h2⟩ := hpre
      cases hx with
      | sld _ _ _ _ _ hd _ => rcases r.obj id ob (hp_some hob) with ⟨L, h3, _⟩ | ⟨h3, _⟩ <;> rw [hd] at h3 <;> cases h3
      | slz _ _ L b hL => simp at h2; omega
      | slv _ _ b hL => simp at h2; omega
      | sl _ _ _ L c hL hc hn hr =>
        have hO := r.live (hp_some hob) hL
        refine good_pure r rfl rfl (key el k i _ _ _ _ hk hi.v_inv rfl h1 h2) ?_
        rw [show L.base + off * L.sz + i.toNat * (C.ti el).size = L.base + ((off + i.toNat) * L.sz + 0) by rw [hO.sz, hsz, Nat.add_mul]; omega]
        exact .p id _ 0 L hL
    · rename_i el im es k i hk hX hI
      obtain ⟨rfl, rfl⟩ := retp_eq hev
      rw [hX] at hx
      rw [hI] at hi
      obtain ⟨⟨h1, h2⟩, h3⟩ := hpre
      cases hx with
      | borE _ b c => simp at h2; omega
      | bor _ _ b p sz c g hb hno hz hc hsz hg hv hn hm =>
        have hil : i.toNat < es.length := by omega
        have he := List.getElem?_eq_getElem hil
        have hgd : es.getD i.toNat [] = es[i.toNat] := by rw [List.getD_eq_getElem?_getD, he]; rfl
        rw [hgd] at h3 ⊢
        have hsz2 : sz = (C.ti el).size := by rw [← hsz _ (List.getElem_mem hil), h3]
        refine good_pure r rfl rfl (key el k i _ _ _ _ hk hi.v_inv rfl h1 h2) ?_
        have := V.pb (w := w) (ρ := ρ) (Z := Z) es[i.toNat] 0 b (p + i.toNat * sz) (g i.toNat) hb hno
          (fun k x hx => by have := hg _ _ k x he hx; rwa [show p + i.toNat * sz + k = p + (i.toNat * sz + k) by omega])
          (fun k x hx => hv _ _ k x he hx) (fun k x hx => hn _ _ k x he hx)
        rw [← hsz2]
        exact this
    · cases hev
  | index T x ix =>
    simp only [ev, ho] at hev
    have hx := hρ x
    have hi := hρ ix
    generalize hcx : a.eval x = cx at hx
    generalize hci : a.eval ix = ci at hi
    split at hev
    · rename_i str k i hk hX hI
      obtain ⟨rfl, rfl⟩ := retp_eq hev
      rw [hX] at hx
      rw [hI] at hi
      obtain ⟨h1, h2⟩ := hpre
      have hlt : i.toNat < str.size := by omega
      have hg : str[i.toNat]? = some str[i.toNat] := getElem?_pos str i.toNat hlt
      refine good_pure r rfl rfl (z := .int .u8 str[i.toNat].toNat) ?_ ?_
      · simp only [execOp, ho, Instr.index, hcx, hci, hx.v_inv, hi.v_inv, asIntOf, Sem.run_bind, Sem.run_pure, Result.andThen_ok, run_underlying (ok.under_str hk)]
        rw [if_pos h1, hg]
        rfl
      · have : strIndex str i.toNat = .v (.int .u8 str[i.toNat].toNat) := by
          unfold strIndex
          have h4 : str.data.toList.getD i.toNat 0 = str[i.toNat] := by
            rw [List.getD_eq_getElem?_getD, Array.getElem?_toList]
            have : str.data[i.toNat]? = some str.data[i.toNat] := Array.getElem?_eq_getElem hlt
            rw [this]; rfl
          rw [h4]
        rw [this]
        exact .v _
    · rename_i n el cs k i hk hX hI
      obtain ⟨rfl, rfl⟩ := retp_eq hev
      rw [hX] at hx
      rw [hI] at hi
      obtain ⟨h1, h2, h3⟩ := hpre
      obtain ⟨hu, hel⟩ := ok.under_arr hk
      cases hx with
      | agg _ arr hl hv =>
        have hil : i.toNat < n := by omega
        have hpos : (i.toNat + 1) * (C.ti el).size ≤ n * (C.ti el).size := Nat.mul_le_mul_right _ hil
        rw [Nat.succ_mul] at hpos
        obtain ⟨cv, h4, h5⟩ := ldv_V ok hel hl hv (i.toNat * (C.ti el).size) (by omega)
        refine good_pure r rfl rfl (z := cv) ?_ h5
        simp only [execOp, ho, Instr.index, hcx, hci, hi.v_inv, asIntOf, Sem.run_bind, Sem.run_pure, Result.andThen_ok, run_underlying hu]
        rw [if_pos ⟨h1, by omega⟩]
        simp only [Sem.run_bind, ok.run_sizeOf hel, Result.andThen_ok, h4]
    · cases hev
  | extract x ix =>
    simp only [ev, ho] at hev
    have hx := hρ x
    generalize hcx : a.eval x = cx at hx
    split at hev
    case h_2 => cases hev
    rename_i cs hX
    obtain ⟨rfl, rfl⟩ := retp_eq hev
    rw [hX] at hx
    cases hx with
    | tup _ arr hl hv =>
      have he := List.getElem?_eq_getElem hpre
      have h7 : arr[ix]? = some arr[ix] := Array.getElem?_eq_getElem (by omega)
      have := hv _ _ he
      rw [Array.getD_eq_getD_getElem?, h7] at this
      refine good_pure r rfl rfl (z := arr[ix]) ?_ ?_
      · simp only [execOp, ho, Instr.extract, hcx, h7, Sem.run_bind, Sem.run_pure, Result.andThen_ok]
      · rw [List.getD_eq_getElem?_getD, he]
        exact this
  | makeFunc f first caps =>
    simp only [ev, ho] at hev
    split at hev
    case h_2 => cases hev
    rename_i g hf0
    obtain ⟨_, rfl⟩ := ret_eq hev
    have hfe : first = #[] := by simpa using hf0
    refine good_pure r rfl rfl (z := .func (.func g) #[] (caps.map a.eval)) ?_ ?_
    · simp only [execOp, ho, Instr.makeFunc, hfe, Sem.run_bind, Sem.run_pure, Result.andThen_ok]
      simp
    · refine .fn _ _ _ (by simp) fun k x hx => ?_
      rw [List.getElem?_map] at hx
      cases hk : caps.toList[k]? with
      | none => rw [hk] at hx; cases hx
      | some y =>
        rw [hk] at hx
        cases hx
        have h8 : caps[k]? = some y := by simpa using hk
        have : (caps.map a.eval).getD k undef = a.eval y := by
          rw [Array.getD_eq_getD_getElem?, Array.getElem?_map, h8]; rfl
        rw [this]
        exact hρ y
  | convert src dst x =>
    simp only [ev, ho] at hev
    have hx := hρ x
    generalize hcx : a.eval x = cx at hx
    split at hev
    · rename_i k0 k k1 n hs hd hX
      obtain ⟨_, rfl⟩ := ret_eq hev
      rw [hX] at hx
      refine good_pure r rfl rfl (z := .int k (k.wrap n)) ?_ (.v _)
      simp only [execOp, ho, convert, hcx, hx.v_inv, Sem.run_bind, run_underlying (ok.under_int hs), run_underlying (ok.under_int hd), Result.andThen_ok, Conv.intToInt, Sem.run_pure]
    · rename_i str hs hd hX
      obtain ⟨_, rfl⟩ := ret_eq hev
      rw [hX] at hx
      refine good_pure r rfl rfl (z := .string str) ?_ (.v _)
      simp only [execOp, ho, convert, hcx, hx.v_inv, Sem.run_bind, run_underlying (ok.under_str hs), run_underlying (ok.under_str hd), Result.andThen_ok, Sem.run_pure]
    · rename_i el hs hd
      split at hev
      case h_2 => cases hev
      rename_i es ids he hrd
      cases hev
      have := op_str ok r hs he hd hrd hx hpre
      refine good_pure r rfl rfl (z := .string (strOf es)) ?_ (.v _)
      simp only [execOp, ho, hcx, Sem.run_bind, this, Result.andThen_ok, Sem.run_pure]
    · cases hev
  | build T ps =>
    simp only [ev, ho] at hev
    split at hev
    · rename_i fs hk
      split at hev
      case h_2 => cases hev
      rename_i l hl
      obtain ⟨rfl, rfl⟩ := retp_eq hev
      obtain ⟨fields, f1, f2, f3⟩ := ok.under_st hk
      obtain ⟨z, z1, z2, z3, z4⟩ := ok.run_zero (ok.ok_of_kind (T := T) (by rw [hk]; simp))
      have hfs : ∀ k (hk : k < fields.size), ∃ off sz ag, fs[k]? = some (off, sz, ag) := by
        intro k hk2
        have : k < fs.length := by omega
        exact ⟨_, _, _, List.getElem?_eq_getElem this⟩
      let g : Field → Nat × Nat := fun fd => (fd.offset, C.P.cellsOf fd.type)
      have hg : ∀ fd ∈ fields.toList, ((do pure (fd.offset, ← Go.sizeOf fd.type) : Sem (Nat × Nat))).run C.P w = .ok (g fd) w := by
        intro fd hfd
        obtain ⟨k, hk2⟩ := List.getElem?_of_mem hfd
        have hk3 : fields[k]? = some fd := by simpa using hk2
        obtain ⟨off, sz, ag, h5⟩ := hfs k (Array.getElem?_eq_some_iff.1 hk3).1
        obtain ⟨fd', g1, g2, g3, g4⟩ := f3 k off sz ag h5
        rw [hk3] at g1
        cases g1
        have h6 := g3 w
        simp only [Sem.run_bind, h6, Result.andThen_ok, Sem.run_pure, g]
        have : C.P.cellsOf fd.type = sz := by
          simp only [Go.sizeOf, typeInfo, Sem.run_bind, run_program, Result.andThen_ok] at h6
          unfold Program.cellsOf
          cases hi : C.P.info? fd.type with
          | none => rw [hi] at h6; simp at h6
          | some inf => rw [hi] at h6; simp at h6; simp [h6]
        rw [this]
      have hplaces : (fields.mapM fun fd => (do pure (fd.offset, ← Go.sizeOf fd.type) : Sem (Nat × Nat))).run C.P w = .ok (fields.map g) w := by
        rw [Array.mapM_eq_mapM_toList]
        simp only [Sem.run_map, run_mapM C.P w _ g fields.toList hg, Result.andThen_ok]
        congr 1
        apply Array.ext'
        simp
      obtain ⟨arr', h8, h9⟩ := parts_st (w := w) (ρ := ρ) (Z := Z) (fs := fs) (places := fields.map g) (fun i off sz ag hi => by
          obtain ⟨fd, g1, g2, g3, g4⟩ := f3 i off sz ag hi
          rw [Array.getElem?_map, g1]
          have h6 := g3 w
          have : C.P.cellsOf fd.type = sz := by
            simp only [Go.sizeOf, typeInfo, Sem.run_bind, run_program, Result.andThen_ok] at h6
            unfold Program.cellsOf
            cases hi : C.P.info? fd.type with
            | none => rw [hi] at h6; simp at h6
            | some inf => rw [hi] at h6; simp at h6; simp [h6]
          simp [g, g2, this]) ps.toList l ρv a.eval (C.ti T).zero z.cells hρ hl (by rw [z2]; exact hpre) ⟨by rw [z2, z3], z4 w ρ Z⟩
      refine good_pure r rfl rfl (z := .agg arr') ?_ (.agg _ _ h9.1 h9.2)
      simp only [execOp, ho, Instr.build, Sem.run_bind, z1, Result.andThen_ok, run_underlying f1]
      rw [hplaces]
      have h10 : (ps.map fun x => (x.1, a.eval x.2)).toList = ps.toList.map fun ix => (ix.1, a.eval ix.2) := by simp
      simp only [Result.andThen_ok]
      rw [h10, h8]
      rfl
    · rename_i n el hk
      split at hev
      case h_2 => cases hev
      rename_i l hl
      obtain ⟨rfl, rfl⟩ := retp_eq hev
      obtain ⟨hu, hel⟩ := ok.under_arr hk
      obtain ⟨z, z1, z2, z3, z4⟩ := ok.run_zero (ok.ok_of_kind (T := T) (by rw [hk]; simp))
      obtain ⟨arr', h8, h9⟩ := parts_arr (w := w) (ρ := ρ) (Z := Z) ps.toList l ρv a.eval (C.ti T).zero z.cells hρ hl (by rw [z2]; exact hpre) ⟨by rw [z2, z3], z4 w ρ Z⟩
      refine good_pure r rfl rfl (z := .agg arr') ?_ (.agg _ _ h9.1 h9.2)
      simp only [execOp, ho, Instr.build, Sem.run_bind, z1, Result.andThen_ok, run_underlying hu, ok.run_sizeOf hel]
      have h10 : (ps.map fun x => (x.1, a.eval x.2)).toList = ps.toList.map fun ix => (ix.1, a.eval ix.2) := by simp
      rw [h10, h8]
      rfl
    · cases hev
  | buildSlice T len ps =>
    simp only [ev, ho] at hev
    split at hev
    case h_2 => cases hev
    rename_i el hk
    obtain ⟨hu, hel⟩ := ok.under_sl hk
    obtain ⟨z, z1, z2, z3, z4⟩ := ok.run_zero hel
    split at hev
    · rename_i hlen
      split at hev
      case isFalse => cases hev
      rename_i hps
      obtain ⟨_, rfl⟩ := ret_eq hev
      subst hlen
      have hps2 : ps = #[] := by simpa using hps
      refine good_garbage r rfl rfl (T := el) (arr := #[]) (z := .slice (some ⟨w.heap.size, 0, none⟩) 0 0) ?_ (fun _ _ => .nl _)
      simp only [execOp, ho, Instr.buildSlice, Sem.run_bind, run_underlying hu, Result.andThen_ok, ok.run_sizeOf hel, hps2]
      have e0 : ∀ f : Nat → Value, (Array.range 0).map f = #[] := fun f => Array.eq_empty_of_size_eq_zero (by simp)
      simp only [Nat.zero_mul, e0, Array.map_empty, Instr.fill, Sem.run_ite]
      rfl
    · split at hev
      case isFalse => cases hev
      rename_i hlen hc
      simp only [Bool.and_eq_true, decide_eq_true_eq] at hc
      cases hev
      obtain ⟨⟨hc1, hc2⟩, hc3⟩ := hc
      obtain ⟨arr', h8, h9⟩ := parts_row (w := w) (ρ := ρ) (Z := Z) ps.toList ρv a.eval (List.replicate len (C.ti el).zero) _ hρ hc1 (by simp) (zeros_row z3 z2 (z4 w ρ Z) len)
      have hlen2 : (placeEl (List.replicate len (C.ti el).zero) (ps.toList.map fun ix => (ix.1, ρv ix.2))).length = len := by
        rw [placeEl_length]; simp
      refine good_row r hs hf (T := el) h9 hlen2 (fun hfl e he x hx => ?_) ?_
      · simp only [Bool.and_eq_true] at hfl
        exact List.all_eq_true.1 (List.all_eq_true.1 hfl.1 e he) x hx
      · have h10 : (ps.map fun x => (x.1, a.eval x.2)).toList = ps.toList.map fun ix => (ix.1, a.eval ix.2) := by simp
        have hne : ¬ (len * (C.ti el).size = 0) := by
          intro h0
          rcases Nat.mul_eq_zero.1 h0 with h0 | h0 <;> omega
        simp only [execOp, ho, Instr.buildSlice, Sem.run_bind, run_underlying hu, Result.andThen_ok, ok.run_sizeOf hel, Sem.run_ite, z1, Sem.run_pure]
        rw [if_neg (by omega), if_neg hne]
        rw [h10, h8]
        rfl
  | makeSlice T n m =>
    simp only [ev, ho] at hev
    have hn := hρ n
    have hm := hρ m
    generalize hcn : a.eval n = cn at hn
    generalize hcm : a.eval m = cm at hm
    split at hev
    case h_2 => cases hev
    rename_i el k1 x k2 y hk hN hM
    split at hev
    case isFalse => cases hev
    rename_i hb
    cases hev
    rw [hN] at hn
    rw [hM] at hm
    obtain ⟨h1, h2, rfl⟩ := hpre
    obtain ⟨hu, hel⟩ := ok.under_sl hk
    obtain ⟨z, z1, z2, z3, z4⟩ := ok.run_zero hel
    obtain ⟨inf, i1, i2, i3⟩ := ok.run_typeInfo hel w
    refine good_row r hs hf (T := el) (zeros_row z3 z2 (z4 w ρ Z) x.toNat) (by simp) (fun hfl e he q hq => ?_) ?_
    · simp only [Bool.and_eq_true] at hfl
      rw [List.eq_of_mem_replicate he] at hq
      exact List.all_eq_true.1 hfl.1 q hq
    · simp only [execOp, ho, Instr.makeSlice, hcn, hcm, hn.v_inv, hm.v_inv, asInt, asIntOf, Sem.run_bind, Sem.run_pure, run_underlying hu, Result.andThen_ok, i1, i3]
      have hw : IntKind.i64.wrap x = x := wrap_small h1 (by omega)
      have hbb : ((C.ti el).bytes : Int) * x ≤ 128 * 549755813888 := Int.mul_le_mul (by omega) h2 h1 (by omega)
      rw [hw]
      have hc1 : decide (x < 0) = false := decide_eq_false (by omega)
      have hc2 : decide (((C.ti el).bytes : Int) * x > 2 ^ 48) = false := decide_eq_false (by omega)
      have hc3 : decide (x > x) = false := decide_eq_false (by omega)
      rw [hc1, hc2, hc3]
      simp only [Bool.or_self, Bool.false_eq_true, if_false, Sem.run_bind, run_askRoom, Result.andThen_ok, ok.run_sizeOf hel]
      by_cases h0 : x.toNat * (C.ti el).size = 0
      · rw [if_pos h0]
        have e0 : ∀ f : Nat → Value, (Array.range 0).map f = #[] := fun f => Array.eq_empty_of_size_eq_zero (by simp)
        simp only [h0, e0, Sem.run_bind, Sem.run_pure, Result.andThen_ok]
        rfl
      · rw [if_neg h0]
        simp only [Sem.run_bind, Sem.run_pure, Result.andThen_ok, z1]
        rfl
  | slice T x lo hi mx =>
    simp only [ev, ho] at hev
    split at hev
    case h_2 => cases hev
    exact op_slice ok r ho hρ hev hpre
  | call c =>
    simp only [ev, ho] at hev
    split at hev
    case h_2 => cases hev
    rename_i b hb
    exact op_builtin ok r hs hf hρ ho hb hev hpre
  | _ => simp only [ev, ho] at hev; cases hev

end
end Am

/- Calls: what is handed over, what comes back. -/
namespace Am
open Go

/-- The place of a name among those that go over. -/
def pos : List Nat → Nat → Option Nat
  | [], _ => none
  | x :: xs, i => if x = i then some 0 else match pos xs i with
    | some j => some (j + 1)
    | none => none

theorem pos_some {mv : List Nat} {i j : Nat} (h : pos mv i = some j) : mv[j]? = some i := by
  induction mv generalizing j with
  | nil => cases h
  | cons x xs ih =>
    simp only [pos] at h
    split at h
    · cases h; subst_vars; rfl
    · split at h
      · rename_i k hk
        cases h
        simpa using ih hk
      · cases h

theorem pos_none {mv : List Nat} {i : Nat} (h : pos mv i = none) : i ∉ mv := by
  induction mv with
  | nil => simp
  | cons x xs ih =>
    simp only [pos] at h
    split at h
    · cases h
    · rename_i hne
      split at h
      · cases h
      · rename_i hk
        simp only [List.mem_cons, not_or]
        exact ⟨fun c => hne c.symm, ih hk⟩

theorem pos_of_get {mv : List Nat} (hn : mv.Nodup) {i j : Nat} (h : mv[j]? = some i) : pos mv i = some j := by
  induction mv generalizing j with
  | nil => simp at h
  | cons x xs ih =>
    simp only [pos]
    cases j with
    | zero => simp at h; rw [if_pos h]
    | succ j =>
      simp at h
      have hm := List.mem_of_getElem? h
      have hx : x ∉ xs := (List.nodup_cons.1 hn).1
      rw [if_neg (by intro c; exact hx (by rw [c]; exact hm)), ih (List.nodup_cons.1 hn).2 h]

/-- A cell of what goes over to be read: two levels down. -/
def expf (mv : List Nat) (H : Nat → Option Ob) : AV → AV
  | .sl id off len => match pos mv id with
    | some _ => .u
    | none => match H id with
      | some ob => if ob.flat then .bor false ((ob.es.drop off).take len) else .u
      | none => .u
  | .p _ _ _ => .u
  | .agg _ => .u
  | .tup _ => .u
  | .fn f caps => if caps.isEmpty then .fn f caps else .u
  | x => x

/-- A cell of what goes over to be read. -/
def expc (mv : List Nat) (H : Nat → Option Ob) : AV → AV
  | .sl id off len => match pos mv id with
    | some _ => .u
    | none => match H id with
      | some ob => if ob.flat then .bor false ((ob.es.drop off).take len) else .bor false (((ob.es.drop off).take len).map (·.map (expf mv H)))
      | none => .u
  | .p _ _ _ => .u
  | .agg _ => .u
  | .tup _ => .u
  | .fn f caps => if caps.isEmpty then .fn f caps else .u
  | x => x

mutual
def exp (mv : List Nat) (H : Nat → Option Ob) : AV → AV
  | .sl id off len => match pos mv id with
    | some j => .sl j off len
    | none => match H id with
      | some ob => if ob.flat then .bor false ((ob.es.drop off).take len) else .bor false (((ob.es.drop off).take len).map (·.map (expc mv H)))
      | none => .u
  | .p id i f => match pos mv id with
    | some j => .p j i f
    | none => match H id with
      | some ob => match ob.es[i]? with
        | some cs => .pb (cs.map (expc mv H)) f
        | none => .u
      | none => .u
  | .agg cs => .agg (expL mv H cs)
  | .tup cs => .tup (expL mv H cs)
  | .fn f caps => .fn f (expL mv H caps)
  | x => x
def expL (mv : List Nat) (H : Nat → Option Ob) : List AV → List AV
  | [] => []
  | x :: xs => exp mv H x :: expL mv H xs
end

def expOb (mv : List Nat) (H : Nat → Option Ob) (ob : Ob) : Ob := if ob.flat then ob else { ob with es := ob.es.map (expL mv H) }

def ren (mv : List Nat) (s j : Nat) : Nat := if j < mv.length then mv.getD j 0 else s + (j - mv.length)

mutual
def imp (mv : List Nat) (s : Nat) : AV → AV
  | .sl j off len => .sl (ren mv s j) off len
  | .p j i f => .p (ren mv s j) i f
  | .bor i es => if i then .bor i es else .u
  | .pb _ _ => .u
  | .agg cs => .agg (impL mv s cs)
  | .tup cs => .tup (impL mv s cs)
  | .fn f caps => .fn f (impL mv s caps)
  | x => x
def impL (mv : List Nat) (s : Nat) : List AV → List AV
  | [] => []
  | x :: xs => imp mv s x :: impL mv s xs
end

def impOb (mv : List Nat) (s : Nat) (ob : Ob) : Ob := if ob.flat then ob else { ob with es := ob.es.map (impL mv s) }

theorem expL_get (mv : List Nat) (H : Nat → Option Ob) : ∀ (l : List AV) (k : Nat), (expL mv H l)[k]? = (l[k]?).map (exp mv H)
  | [], k => by simp [expL]
  | x :: xs, 0 => by simp [expL]
  | x :: xs, k + 1 => by simp [expL, expL_get mv H xs k]

theorem expL_length (mv : List Nat) (H : Nat → Option Ob) : ∀ (l : List AV), (expL mv H l).length = l.length
  | [] => rfl
  | x :: xs => by simp [expL, expL_length mv H xs]

theorem impL_get (mv : List Nat) (s : Nat) : ∀ (l : List AV) (k : Nat), (impL mv s l)[k]? = (l[k]?).map (imp mv s)
  | [], k => by simp [impL]
  | x :: xs, 0 => by simp [impL]
  | x :: xs, k + 1 => by simp [impL, impL_get mv s xs k]

theorem impL_length (mv : List Nat) (s : Nat) : ∀ (l : List AV), (impL mv s l).length = l.length
  | [] => rfl
  | x :: xs => by simp [impL, impL_length mv s xs]

section
variable {w : World} {ρ : List LS} {Z : Nat → Prop} {h : List (Option Ob)} {mv : List Nat}

def lsOf (ρ : List LS) (mv : List Nat) : List LS := mv.map fun id => ρ.getD id .dead

/-- What the callee must not keep: what the caller may not keep, and the caller's own that does not go over. -/
def zOf (ρ : List LS) (Z : Nat → Prop) (mv : List Nat) (b : Nat) : Prop := (Z b ∨ owned ρ b) ∧ ¬ owned (lsOf ρ mv) b

theorem lsOf_get {j : Nat} {x : LS} (hx : (lsOf ρ mv)[j]? = some x) (hn : x ≠ .dead) : ∃ id, mv[j]? = some id ∧ ρ[id]? = some x := by
  unfold lsOf at hx
  rw [List.getElem?_map] at hx
  cases hm : mv[j]? with
  | none => rw [hm] at hx; cases hx
  | some id =>
    rw [hm] at hx
    simp only [Option.map_some, Option.some.injEq] at hx
    rw [List.getD_eq_getElem?_getD] at hx
    cases hr : ρ[id]? with
    | none => rw [hr] at hx; exact absurd hx.symm hn
    | some y => rw [hr] at hx; simp at hx; subst hx; exact ⟨id, rfl, hr⟩

theorem lsOf_of {j id : Nat} {x : LS} (hm : mv[j]? = some id) (hr : ρ[id]? = some x) : (lsOf ρ mv)[j]? = some x := by
  unfold lsOf
  rw [List.getElem?_map, hm]
  simp only [Option.map_some]
  rw [List.getD_eq_getElem?_getD, hr]
  rfl

theorem owned_ls {b : Nat} (ho : owned (lsOf ρ mv) b) : owned ρ b := by
  obtain ⟨j, L, hj, hb⟩ := ho
  obtain ⟨id, _, h2⟩ := lsOf_get hj (by simp)
  exact ⟨id, L, h2, hb⟩

/-- What leads to no object is the same to the callee. -/
theorem V.exp0 {x : AV} {cv : Value} (hv : V w ρ Z x cv) (hn : noref x = true) : V w (lsOf ρ mv) (zOf ρ Z mv) x cv := by
  induction hv with
  | v x => exact .v x
  | u cv => exact .u cv
  | nq n b h => exact .nq n b h
  | ni t x => exact .ni t x
  | nl a => exact .nl a
  | p => cases hn
  | pd => cases hn
  | sl => cases hn
  | slz => cases hn
  | slv => cases hn
  | sld => cases hn
  | pb cs f b o g hb ho hg hv hnn ih => exact .pb cs f b o g hb (fun c => ho (owned_ls c)) hg (fun k x hx => ih k x hx (hnn k x hx)) hnn
  | borE i a c => exact .borE i a c
  | bor i es b o sz c g hb ho hz hc hsz hg hv hnn hm ih =>
    exact .bor i es b o sz c g hb (fun c => ho (owned_ls c)) (fun hi c => by
      rcases c.1 with h1 | h1
      · exact hz hi h1
      · exact ho h1) hc hsz hg (fun k e j x he hx => ih k e j x he hx (hnn k e j x he hx)) hnn hm
  | agg => cases hn
  | tup => cases hn
  | fn f caps arr hl hv ih =>
    have : caps = [] := by simpa [noref] using hn
    subst this
    exact .fn f [] arr hl (fun k x hx => by simp at hx)

theorem flat_bor (r : Rel w ρ Z h) (hid : ∀ id, id ∈ mv → ∃ ob, hp h id = some ob) {id off len : Nat} {ob : Ob} (hob : hp h id = some ob) (hfl : ob.flat = true) (hni : id ∉ mv) {cv : Value} (hv : V w ρ Z (.sl id off len) cv) :
    V w (lsOf ρ mv) (zOf ρ Z mv) (.bor false ((ob.es.drop off).take len)) cv := by
  obtain ⟨base, cap, hcv, hcap, hc, hnr⟩ := rd_cells r (x := .sl id off len) (es := (ob.es.drop off).take len) (ids := [id]) (by simp only [rdSlice, hob]) hv
  rw [hcv]
  by_cases hne : (ob.es.drop off).take len = []
  · rw [hne]
    exact .borE _ _ _
  · obtain ⟨b, p, sz, c, rfl, hb, hsz, hcc, hvv⟩ := hc hne
    have hnrr := hnr (by simp [rdFlat, hob, hfl])
    have hown : ∃ L, ρ[id]? = some (.live L) ∧ L.b = b := by
      cases hv with
      | sl _ _ _ L c2 hL _ _ _ => injection hcv with h1 _ _; injection h1 with h1; injection h1 with h1; exact ⟨L, hL, h1⟩
      | slz _ _ L a hL => exact absurd (by simp) hne
      | slv _ _ a hL => exact absurd (by simp) hne
      | sld _ _ _ a c2 hd _ => rcases r.obj id ob (hp_some hob) with ⟨L, h1, _⟩ | ⟨h1, _⟩ <;> rw [hd] at h1 <;> cases h1
    obtain ⟨L, hL, hLb⟩ := hown
    have hpos : ∀ (k : Nat) (e : List AV) (j : Nat) (x : AV), ((ob.es.drop off).take len)[k]? = some e → e[j]? = some x → k * sz + j < ((ob.es.drop off).take len).length * sz := by
      intro k e j x he hx
      exact pos_mul (List.getElem?_eq_some_iff.1 he).1 (by rw [← hsz e (List.mem_of_getElem? he)]; exact (List.getElem?_eq_some_iff.1 hx).1)
    refine .bor false _ b p sz cap (fun k j => c (k * sz + j)) hb (fun ho => ?_) (fun hf => by cases hf) hcap hsz (fun k e j x he hx => hcc _ (hpos k e j x he hx))
      (fun k e j x he hx => (hvv k e j x he hx).exp0 (immc_noref (hnrr e (List.mem_of_getElem? he) x (List.mem_of_getElem? hx))))
      (fun k e j x he hx => immc_noref (hnrr e (List.mem_of_getElem? he) x (List.mem_of_getElem? hx))) (fun hf => by cases hf)
    obtain ⟨j, M, hj, hMb⟩ := ho
    obtain ⟨id2, h1, h2⟩ := lsOf_get hj (by simp)
    have := r.inj id2 id M L h2 hL (by rw [hMb, hLb])
    subst this
    exact hni (List.mem_of_getElem? h1)

theorem deep_bor (r : Rel w ρ Z h) {id off len : Nat} {ob : Ob} (hob : hp h id = some ob) (hni : id ∉ mv) {cv : Value} (hv : V w ρ Z (.sl id off len) cv) {f : AV → AV}
    (hf : ∀ (x : AV) (cv : Value), V w ρ Z x cv → V w (lsOf ρ mv) (zOf ρ Z mv) (f x) cv) (hfn : ∀ x, noref (f x) = true) :
    V w (lsOf ρ mv) (zOf ρ Z mv) (.bor false (((ob.es.drop off).take len).map (·.map f))) cv := by
  obtain ⟨base, cap, hcv, hcap, hc, hnr⟩ := rd_cells r (x := .sl id off len) (es := (ob.es.drop off).take len) (ids := [id]) (by simp only [rdSlice, hob]) hv
  rw [hcv]
  by_cases hne : (ob.es.drop off).take len = []
  · rw [hne]
    exact .borE _ _ _
  · obtain ⟨b, p, sz, c, rfl, hb, hsz, hcc, hvv⟩ := hc hne
    have hown : ∃ L, ρ[id]? = some (.live L) ∧ L.b = b := by
      cases hv with
      | sl _ _ _ L c2 hL _ _ _ => injection hcv with h1 _ _; injection h1 with h1; injection h1 with h1; exact ⟨L, hL, h1⟩
      | slz _ _ L a hL => exact absurd (by simp) hne
      | slv _ _ a hL => exact absurd (by simp) hne
      | sld _ _ _ a c2 hd _ => rcases r.obj id ob (hp_some hob) with ⟨L, h1, _⟩ | ⟨h1, _⟩ <;> rw [hd] at h1 <;> cases h1
    obtain ⟨L, hL, hLb⟩ := hown
    generalize hes : (ob.es.drop off).take len = es at *
    have hpos : ∀ (k : Nat) (e : List AV) (j : Nat) (x : AV), es[k]? = some e → e[j]? = some x → k * sz + j < es.length * sz := by
      intro k e j x he hx
      exact pos_mul (List.getElem?_eq_some_iff.1 he).1 (by rw [← hsz e (List.mem_of_getElem? he)]; exact (List.getElem?_eq_some_iff.1 hx).1)
    have inv : ∀ (k : Nat) (e : List AV) (j : Nat) (x : AV), (es.map (·.map f))[k]? = some e → e[j]? = some x → ∃ (e0 : List AV) (y : AV), es[k]? = some e0 ∧ e0[j]? = some y ∧ x = f y := by
      intro k e j x he hx
      rw [List.getElem?_map] at he
      cases hk : es[k]? with
      | none => rw [hk] at he; cases he
      | some e0 =>
        rw [hk] at he
        cases he
        rw [List.getElem?_map] at hx
        cases hj : e0[j]? with
        | none => rw [hj] at hx; cases hx
        | some y => rw [hj] at hx; cases hx; exact ⟨e0, y, rfl, hj, rfl⟩
    have key := V.bor (w := w) (ρ := lsOf ρ mv) (Z := zOf ρ Z mv) false (es.map (·.map f)) b p sz cap (fun k j => c (k * sz + j)) hb (fun ho => by
        obtain ⟨j, M, hj, hMb⟩ := ho
        obtain ⟨id2, h1, h2⟩ := lsOf_get hj (by simp)
        have := r.inj id2 id M L h2 hL (by rw [hMb, hLb])
        subst this
        exact hni (List.mem_of_getElem? h1)) (fun hf => by cases hf) (by simpa using hcap)
      (fun e he => by obtain ⟨e0, h1, rfl⟩ := List.mem_map.1 he; simpa using hsz e0 h1)
      (fun k e j x he hx => by obtain ⟨e0, y, h1, h2, rfl⟩ := inv k e j x he hx; exact hcc _ (hpos k e0 j y h1 h2))
      (fun k e j x he hx => by obtain ⟨e0, y, h1, h2, rfl⟩ := inv k e j x he hx; exact hf _ _ (hvv k e0 j y h1 h2))
      (fun k e j x he hx => by obtain ⟨e0, y, h1, h2, rfl⟩ := inv k e j x he hx; exact hfn _) (fun hf => by cases hf)
    simpa using key

theorem noref_expf (mv : List Nat) (H : Nat → Option Ob) (x : AV) : noref (expf mv H x) = true := by
  cases x <;> simp only [expf] <;> (try rfl)
  · split
    · rfl
    · split
      · split <;> rfl
      · rfl
  · split
    · rename_i h; simpa [noref] using h
    · rfl

theorem expf_V (r : Rel w ρ Z h) (hid : ∀ id, id ∈ mv → ∃ ob, hp h id = some ob) {H : Nat → Option Ob} (hH : ∀ id ob, H id = some ob → hp h id = some ob) {x : AV} {cv : Value} (hv : V w ρ Z x cv) : V w (lsOf ρ mv) (zOf ρ Z mv) (expf mv H x) cv := by
  cases x with
  | sl id off len =>
    simp only [expf]
    split
    · exact .u _
    · rename_i hp0
      split
      · rename_i ob hob
        split
        · rename_i hfl
          exact flat_bor r hid (hH _ _ hob) hfl (pos_none hp0) hv
        · exact .u _
      · exact .u _
  | p id i f => exact .u _
  | agg cs => exact .u _
  | tup cs => exact .u _
  | fn f caps =>
    simp only [expf]
    split
    · rename_i hc; exact hv.exp0 (by simpa [noref] using hc)
    · exact .u _
  | v y => exact hv.exp0 rfl
  | u => exact .u _
  | nq n => exact hv.exp0 rfl
  | ni => exact hv.exp0 rfl
  | nl => exact hv.exp0 rfl
  | pb cs f => exact hv.exp0 rfl
  | bor i es => exact hv.exp0 rfl

theorem noref_expc (mv : List Nat) (H : Nat → Option Ob) (x : AV) : noref (expc mv H x) = true := by
  cases x <;> simp only [expc] <;> (try rfl)
  · split
    · rfl
    · split
      · split <;> rfl
      · rfl
  · split
    · rename_i h; simpa [noref] using h
    · rfl

theorem expc_V (r : Rel w ρ Z h) (hid : ∀ id, id ∈ mv → ∃ ob, hp h id = some ob) {H : Nat → Option Ob} (hH : ∀ id ob, H id = some ob → hp h id = some ob) {x : AV} {cv : Value} (hv : V w ρ Z x cv) : V w (lsOf ρ mv) (zOf ρ Z mv) (expc mv H x) cv := by
  cases x with
  | sl id off len =>
    simp only [expc]
    split
    · exact .u _
    · rename_i hp0
      split
      · rename_i ob hob
        split
        · rename_i hfl
          exact flat_bor r hid (hH _ _ hob) hfl (pos_none hp0) hv
        · exact deep_bor r (hH _ _ hob) (pos_none hp0) hv (fun x cv hx => expf_V r hid hH hx) (noref_expf mv H)
      · exact .u _
  | p id i f => exact .u _
  | agg cs => exact .u _
  | tup cs => exact .u _
  | fn f caps =>
    simp only [expc]
    split
    · rename_i hc; exact hv.exp0 (by simpa [noref] using hc)
    · exact .u _
  | v y => exact hv.exp0 rfl
  | u => exact .u _
  | nq n => exact hv.exp0 rfl
  | ni => exact hv.exp0 rfl
  | nl => exact hv.exp0 rfl
  | pb cs f => exact hv.exp0 rfl
  | bor i es => exact hv.exp0 rfl

theorem exp_V (r : Rel w ρ Z h) (hid : ∀ id, id ∈ mv → ∃ ob, hp h id = some ob) {H : Nat → Option Ob} (hH : ∀ id ob, H id = some ob → hp h id = some ob) {x : AV} {cv : Value} (hv : V w ρ Z x cv) : V w (lsOf ρ mv) (zOf ρ Z mv) (exp mv H x) cv := by
  induction hv with
  | v x => exact .v x
  | u cv => exact .u cv
  | nq n b h => exact .nq n b h
  | ni t x => exact .ni t x
  | nl a => exact .nl a
  | p id i f L hL =>
    simp only [exp]
    split
    · rename_i j hj
      exact .p j i f L (lsOf_of (pos_some hj) hL)
    · rename_i hj
      split
      · rename_i ob hob
        split
        · rename_i cs hcs
          have hO := r.live (hp_some (hH _ _ hob)) hL
          obtain ⟨arr, T, a1, a2, a3⟩ := hO.ex
          have hi : i < ob.es.length := (List.getElem?_eq_some_iff.1 hcs).1
          have hel : cs.length = ob.sz := hO.el _ (List.mem_of_getElem? hcs)
          have hpos : (i + 1) * ob.sz ≤ ob.es.length * ob.sz := Nat.mul_le_mul_right _ hi
          rw [Nat.succ_mul] at hpos
          have hroom := hO.room
          rw [show L.base + (i * L.sz + f) = (L.base + i * L.sz) + f by omega]
          refine .pb _ f L.b (L.base + i * L.sz) (fun k => arr.getD (L.base + i * L.sz + k) undef) (Array.getElem?_eq_some_iff.1 a1).1 (fun ho => ?_) (fun k x hx => ?_) (fun k x hx => ?_) (fun k x hx => ?_)
          · obtain ⟨j, M, hj2, hMb⟩ := ho
            obtain ⟨id2, h1, h2⟩ := lsOf_get hj2 (by simp)
            have := r.inj id2 id M L h2 hL hMb
            subst this
            exact pos_none hj (List.mem_of_getElem? h1)
          · have hk : k < ob.sz := by
              rw [← hel]
              have := (List.getElem?_eq_some_iff.1 hx).1
              simpa using this
            simp only [World.cell?, a1]
            rw [hO.sz, Array.getD_eq_getD_getElem?]
            simp
            rw [Array.getElem?_eq_getElem (by omega)]
            simp
          · rw [List.getElem?_map] at hx
            cases hk : cs[k]? with
            | none => rw [hk] at hx; cases hx
            | some y =>
              rw [hk] at hx
              cases hx
              have := a3 i cs k y hcs hk
              rw [hO.sz, show L.base + i * ob.sz + k = L.base + (i * ob.sz + k) by omega]
              exact expc_V r hid hH this
          · rw [List.getElem?_map] at hx
            cases hk : cs[k]? with
            | none => rw [hk] at hx; cases hx
            | some y => rw [hk] at hx; cases hx; exact noref_expc _ _ _
        · exact .u _
      · exact .u _
  | pd id i f cv hd hc =>
    simp only [exp]
    split
    · rename_i j hj
      exact .pd j i f cv (lsOf_of (pos_some hj) hd) hc
    · split
      · rename_i ob hob
        rcases r.obj id ob (hp_some (hH _ _ hob)) with ⟨L, h1, _⟩ | ⟨h1, _⟩ <;> rw [hd] at h1 <;> cases h1
      · exact .u _
  | sl id off len L c hL hc hn hr =>
    simp only [exp]
    split
    · rename_i j hj
      exact .sl j off len L c (lsOf_of (pos_some hj) hL) hc hn hr
    · rename_i hj
      split
      · rename_i ob hob
        split
        · rename_i hfl
          exact flat_bor r hid (hH _ _ hob) hfl (pos_none hj) (.sl id off len L c hL hc hn hr)
        · exact deep_bor r (hH _ _ hob) (pos_none hj) (.sl id off len L c hL hc hn hr) (fun x cv hx => expc_V r hid hH hx) (noref_expc mv H)
      · exact .u _
  | slz id off L a hL =>
    simp only [exp]
    split
    · rename_i j hj
      exact .slz j off L a (lsOf_of (pos_some hj) hL)
    · split
      · split
        · simp only [List.take_zero]; exact .borE _ _ _
        · simp only [List.take_zero, List.map_nil]; exact .borE _ _ _
      · exact .u _
  | slv id off a hL =>
    simp only [exp]
    split
    · rename_i j hj
      exact .slv j off a (lsOf_of (pos_some hj) hL)
    · split
      · split
        · simp only [List.take_zero]; exact .borE _ _ _
        · simp only [List.take_zero, List.map_nil]; exact .borE _ _ _
      · exact .u _
  | sld id off len a c hd ha =>
    simp only [exp]
    split
    · rename_i j hj
      exact .sld j off len a c (lsOf_of (pos_some hj) hd) ha
    · split
      · rename_i ob hob
        rcases r.obj id ob (hp_some (hH _ _ hob)) with ⟨L, h1, _⟩ | ⟨h1, _⟩ <;> rw [hd] at h1 <;> cases h1
      · exact .u _
  | pb cs f b o g hb ho hg hv hn ih => exact (V.pb cs f b o g hb ho hg hv hn).exp0 rfl
  | borE i a c => exact .borE i a c
  | bor i es b o sz c g hb ho hz hc hsz hg hv hn hm ih => exact (V.bor i es b o sz c g hb ho hz hc hsz hg hv hn hm).exp0 rfl
  | agg cs arr hl hv ih =>
    refine .agg _ arr (by rw [expL_length]; exact hl) fun k x hx => ?_
    rw [expL_get] at hx
    cases hk : cs[k]? with
    | none => rw [hk] at hx; cases hx
    | some y => rw [hk] at hx; cases hx; exact ih k y hk
  | tup cs arr hl hv ih =>
    refine .tup _ arr (by rw [expL_length]; exact hl) fun k x hx => ?_
    rw [expL_get] at hx
    cases hk : cs[k]? with
    | none => rw [hk] at hx; cases hx
    | some y => rw [hk] at hx; cases hx; exact ih k y hk
  | fn f caps arr hl hv ih =>
    refine .fn f _ arr (by rw [expL_length]; exact hl) fun k x hx => ?_
    rw [expL_get] at hx
    cases hk : caps[k]? with
    | none => rw [hk] at hx; cases hx
    | some y => rw [hk] at hx; cases hx; exact ih k y hk

end
end Am

/- What comes back from a call. -/
namespace Am
open Go

theorem setAll_get {α : Type} (l : List α) : ∀ (mv : List Nat) (xs : List α), mv.Nodup → xs.length = mv.length → (∀ i ∈ mv, i < l.length) → ∀ i : Nat,
    ((mv.zip xs).foldl (fun h p => h.set p.1 p.2) l)[i]? = match pos mv i with
      | some j => xs[j]?
      | none => l[i]? := by
  intro mv
  induction mv generalizing l with
  | nil => intro xs _ _ _ i; simp [pos]
  | cons m mv ih =>
    intro xs hn hl hlt i
    cases xs with
    | nil => simp at hl
    | cons x xs =>
      simp only [List.zip_cons_cons, List.foldl_cons]
      have hn' := List.nodup_cons.1 hn
      rw [ih (l.set m x) xs hn'.2 (by simpa using hl) (fun i hi => by simpa using hlt i (by simp [hi])) i]
      simp only [pos]
      by_cases e : m = i
      · subst e
        rw [if_pos rfl]
        have : pos mv m = none := by
          cases hp : pos mv m with
          | none => rfl
          | some j => exact absurd (List.mem_of_getElem? (pos_some hp)) hn'.1
        rw [this]
        simp [hlt m (by simp)]
      · rw [if_neg e]
        cases hp : pos mv i with
        | none => simp only []; rw [List.getElem?_set, if_neg e]
        | some j => simp

theorem setAll_length {α : Type} (l : List α) : ∀ (ps : List (Nat × α)), (ps.foldl (fun h p => h.set p.1 p.2) l).length = l.length := by
  intro ps
  induction ps generalizing l with
  | nil => rfl
  | cons p ps ih => simp only [List.foldl_cons]; rw [ih]; simp

theorem putAll_get {α : Type} : ∀ (xs : List α) (l : List α) (s : Nat), (s = l.length ∨ s + xs.length ≤ l.length) → ∀ i : Nat,
    (putAll l s xs)[i]? = if s ≤ i ∧ i < s + xs.length then xs[i - s]? else l[i]?
  | [], l, s, _, i => by
    simp only [putAll, List.length_nil, Nat.add_zero]
    rw [if_neg (by omega)]
  | x :: xs, l, s, hs, i => by
    simp only [putAll, List.length_cons] at hs ⊢
    have hle : s ≤ l.length := by omega
    rw [putAll_get xs (putAt l s x) (s + 1) (by rw [putAt_length _ _ _ hle]; split <;> omega) i, putAt_get _ _ _ hle]
    by_cases e : i = s
    · subst e
      rw [if_neg (by omega), if_pos rfl, if_pos (by omega)]
      simp
    · by_cases e2 : s + 1 ≤ i ∧ i < s + 1 + xs.length
      · rw [if_pos e2, if_pos (by omega)]
        rw [show i - s = (i - (s + 1)) + 1 by omega]
        rfl
      · rw [if_neg e2, if_neg e, if_neg (by omega)]

theorem putAll_length {α : Type} : ∀ (xs : List α) (l : List α) (s : Nat), (s = l.length ∨ s + xs.length ≤ l.length) → (putAll l s xs).length = if s = l.length then l.length + xs.length else l.length
  | [], l, s, _ => by simp [putAll]
  | x :: xs, l, s, hs => by
    simp only [putAll, List.length_cons] at hs ⊢
    have hle : s ≤ l.length := by omega
    have h1 := putAt_length l s x hle
    rw [putAll_length xs (putAt l s x) (s + 1) (by rw [h1]; split <;> omega), h1]
    split <;> split <;> split <;> omega

section
variable {w w' : World} {ρ ρ' : List LS} {Z : Nat → Prop} {h h' : List (Option Ob)} {mv : List Nat} {s : Nat}

def backH (h : List (Option Ob)) (mv : List Nat) (s : Nat) (h' : List (Option Ob)) : List (Option Ob) :=
  putAll ((mv.zip ((h'.take mv.length).map (Option.map (impOb mv s)))).foldl (fun h p => h.set p.1 p.2) h) s ((h'.drop mv.length).map (Option.map (impOb mv s)))

def backR (ρ : List LS) (mv : List Nat) (s : Nat) (ρ' : List LS) : List LS :=
  putAll ((mv.zip (ρ'.take mv.length)).foldl (fun h p => h.set p.1 p.2) ρ) s (ρ'.drop mv.length)

/-- Room for the new objects of a call. -/
def SlotOk (ρ : List LS) (s n : Nat) : Prop := s = ρ.length ∨ (s + n ≤ ρ.length ∧ ∀ j : Nat, j < n → ρ[s + j]? = some .fresh)

theorem ren_lt {j : Nat} (hj : j < mv.length) : mv[j]? = some (ren mv s j) := by
  unfold ren
  rw [if_pos hj, List.getD_eq_getElem?_getD, List.getElem?_eq_getElem hj]
  rfl

theorem ren_ge {j : Nat} (hj : ¬ j < mv.length) : ren mv s j = s + (j - mv.length) := by
  unfold ren; rw [if_neg hj]

structure Back (w w' : World) (ρ ρ' : List LS) (Z : Nat → Prop) (h h' : List (Option Ob)) (mv : List Nat) (s : Nat) : Prop where
  r : Rel w ρ Z h
  hid : ∀ id, id ∈ mv → ∃ ob, hp h id = some ob
  nd : mv.Nodup
  r' : Rel w' ρ' (zOf ρ Z mv) h'
  m' : Mono w (lsOf ρ mv) w' ρ'
  hm : mv.length ≤ h'.length
  sl : SlotOk ρ s (h'.length - mv.length)

variable (B : Back w w' ρ ρ' Z h h' mv s)
include B

theorem Back.mv_lt {i : Nat} (hi : i ∈ mv) : i < ρ.length := by
  obtain ⟨ob, hob⟩ := B.hid i hi
  rw [B.r.len]
  exact (List.getElem?_eq_some_iff.1 (hp_some hob)).1

theorem Back.not_mv {i : Nat} (h1 : s ≤ i) (h2 : i < s + (h'.length - mv.length)) : pos mv i = none := by
  cases hp0 : pos mv i with
  | none => rfl
  | some j =>
    have hm := List.mem_of_getElem? (pos_some hp0)
    have hlt := B.mv_lt hm
    rcases B.sl with h3 | ⟨_, h4⟩
    · omega
    · have h5 := h4 (i - s) (by omega)
      rw [show s + (i - s) = i by omega] at h5
      obtain ⟨ob, hob⟩ := B.hid i hm
      rcases B.r.obj i ob (hp_some hob) with ⟨L, h6, _⟩ | ⟨h6, _⟩ <;> rw [h5] at h6 <;> cases h6

theorem Back.lenR : ρ'.length = h'.length := B.r'.len

theorem Back.getR (i : Nat) : (backR ρ mv s ρ')[i]? = match pos mv i with
    | some j => ρ'[j]?
    | none => if s ≤ i ∧ i < s + (h'.length - mv.length) then ρ'[mv.length + (i - s)]? else ρ[i]? := by
  unfold backR
  have hl := B.lenR
  have hm := B.hm
  rw [putAll_get _ _ _ (by
    rw [setAll_length, List.length_drop, hl]
    rcases B.sl with h3 | ⟨h3, _⟩
    · exact .inl h3
    · exact .inr h3)]
  rw [setAll_get _ _ _ B.nd (by simp; omega) (fun i hi => B.mv_lt hi)]
  simp only [List.length_drop, hl, List.getElem?_drop, List.getElem?_take]
  by_cases hc : s ≤ i ∧ i < s + (h'.length - mv.length)
  · rw [if_pos hc, B.not_mv hc.1 hc.2]
    simp only []
    rw [if_pos hc]
  · rw [if_neg hc]
    cases hp0 : pos mv i with
    | none => simp only []; rw [if_neg hc]
    | some j =>
      simp only []
      rw [if_pos (List.getElem?_eq_some_iff.1 (pos_some hp0)).1]

theorem Back.getH (i : Nat) : (backH h mv s h')[i]? = match pos mv i with
    | some j => (h'[j]?).map (Option.map (impOb mv s))
    | none => if s ≤ i ∧ i < s + (h'.length - mv.length) then (h'[mv.length + (i - s)]?).map (Option.map (impOb mv s)) else h[i]? := by
  unfold backH
  have hm := B.hm
  rw [putAll_get _ _ _ (by
    rw [setAll_length, List.length_map, List.length_drop, ← B.r.len]
    rcases B.sl with h3 | ⟨h3, _⟩
    · exact .inl h3
    · exact .inr h3)]
  rw [setAll_get _ _ _ B.nd (by simp; omega) (fun i hi => by rw [← B.r.len]; exact B.mv_lt hi)]
  simp only [List.length_map, List.length_drop, List.getElem?_map, List.getElem?_drop, List.getElem?_take]
  by_cases hc : s ≤ i ∧ i < s + (h'.length - mv.length)
  · rw [if_pos hc, B.not_mv hc.1 hc.2]
    simp only []
    rw [if_pos hc]
  · rw [if_neg hc]
    cases hp0 : pos mv i with
    | none => simp only []; rw [if_neg hc]
    | some j =>
      simp only []
      rw [if_pos (List.getElem?_eq_some_iff.1 (pos_some hp0)).1]

/-- A callee's object under its new name. -/
theorem Back.ren_get {j : Nat} (hj : j < h'.length) : (backR ρ mv s ρ')[ren mv s j]? = ρ'[j]? := by
  rw [B.getR]
  by_cases hlt : j < mv.length
  · rw [pos_of_get B.nd (ren_lt hlt)]
  · rw [ren_ge hlt, B.not_mv (by omega) (by omega)]
    simp only []
    rw [if_pos (by omega)]
    congr 1
    omega

/-- Where an object of the caller's comes from. -/
theorem Back.from (i : Nat) : (∃ j, j < h'.length ∧ i = ren mv s j ∧ (backR ρ mv s ρ')[i]? = ρ'[j]? ∧ (backH h mv s h')[i]? = (h'[j]?).map (Option.map (impOb mv s))) ∨
    (i ∉ mv ∧ (backR ρ mv s ρ')[i]? = ρ[i]? ∧ (backH h mv s h')[i]? = h[i]?) := by
  cases hp0 : pos mv i with
  | some j =>
    left
    have h1 := pos_some hp0
    have hj := (List.getElem?_eq_some_iff.1 h1).1
    have hm := B.hm
    refine ⟨j, by omega, ?_, by rw [B.getR, hp0], by rw [B.getH, hp0]⟩
    have := ren_lt (s := s) hj
    rw [h1] at this
    exact Option.some.inj this
  | none =>
    by_cases hc : s ≤ i ∧ i < s + (h'.length - mv.length)
    · left
      refine ⟨mv.length + (i - s), by omega, ?_, ?_, ?_⟩
      · rw [ren_ge (by omega)]; omega
      · rw [B.getR, hp0]; simp only []; rw [if_pos hc]
      · rw [B.getH, hp0]; simp only []; rw [if_pos hc]
    · right
      refine ⟨pos_none hp0, ?_, ?_⟩
      · rw [B.getR, hp0]; simp only []; rw [if_neg hc]
      · rw [B.getH, hp0]; simp only []; rw [if_neg hc]

theorem Back.own_back {b : Nat} (ho : owned (backR ρ mv s ρ') b) : owned ρ' b ∨ ∃ i L, i ∉ mv ∧ ρ[i]? = some (.live L) ∧ L.b = b := by
  obtain ⟨i, L, hL, hb⟩ := ho
  rcases B.from i with ⟨j, hj, _, h1, _⟩ | ⟨h1, h2, _⟩
  · rw [h1] at hL; exact .inl ⟨j, L, hL, hb⟩
  · rw [h2] at hL; exact .inr ⟨i, L, h1, hL, hb⟩

theorem Back.not_ls {i : Nat} {L : Loc} (hi : i ∉ mv) (hL : ρ[i]? = some (.live L)) : ¬ owned (lsOf ρ mv) L.b := by
  intro ho
  obtain ⟨j, M, hj, hMb⟩ := ho
  obtain ⟨id, h1, h2⟩ := lsOf_get hj (by simp)
  have := B.r.inj id i M L h2 hL hMb
  subst this
  exact hi (List.mem_of_getElem? h1)

theorem Back.key {b : Nat} (ho : ¬ owned ρ' b) (hzz : ¬ zOf ρ Z mv b) : ¬ Z b ∧ ¬ owned (backR ρ mv s ρ') b := by
  have key : ¬ Z b ∧ ¬ ∃ i L, i ∉ mv ∧ ρ[i]? = some (.live L) ∧ L.b = b := by
    by_cases hls : owned (lsOf ρ mv) b
    · obtain ⟨j, M, hj, hMb⟩ := hls
      obtain ⟨id, h1, h2⟩ := lsOf_get hj (by simp)
      obtain ⟨ob, hob⟩ := B.hid id (List.mem_of_getElem? h1)
      refine ⟨?_, ?_⟩
      · rw [← hMb]; exact (B.r.live (hp_some hob) h2).nz
      · rintro ⟨i, L, h3, h4, h5⟩
        have := B.r.inj id i M L h2 h4 (by rw [hMb, h5])
        subst this
        exact h3 (List.mem_of_getElem? h1)
    · refine ⟨fun hc => hzz ⟨.inl hc, hls⟩, ?_⟩
      rintro ⟨i, L, h3, h4, h5⟩
      exact hzz ⟨.inr ⟨i, L, h4, h5⟩, hls⟩
  refine ⟨key.1, fun hc => ?_⟩
  rcases B.own_back hc with h1 | h1
  · exact ho h1
  · exact key.2 h1

/-- What may stay is the same to the caller. -/
theorem Back.imp0 {x : AV} {cv : Value} (hv : V w' ρ' (zOf ρ Z mv) x cv) (hn : immc x = true) : V w' (backR ρ mv s ρ') Z x cv := by
  induction hv with
  | v x => exact .v x
  | u cv => exact .u cv
  | nq n b h => exact .nq n b h
  | ni t x => exact .ni t x
  | nl a => exact .nl a
  | borE i a c => exact .borE i a c
  | bor i es b o sz c g hb ho hz hc hsz hg hv hnn hm ih =>
    have hi : i = true := hn
    obtain ⟨k1, k2⟩ := B.key ho (hz hi)
    exact .bor i es b o sz c g hb k2 (fun _ => k1) hc hsz hg (fun k e j x he hx => ih k e j x he hx (hm hi k e j x he hx)) hnn hm
  | fn f caps arr hl hv ih =>
    have : caps = [] := by simpa [immc] using hn
    subst this
    exact .fn f [] arr hl (fun k x hx => by simp at hx)
  | _ => cases hn

theorem Back.imp_V {x : AV} {cv : Value} (hv : V w' ρ' (zOf ρ Z mv) x cv) : V w' (backR ρ mv s ρ') Z (imp mv s x) cv := by
  have hlt : ∀ {j : Nat} {x : LS}, ρ'[j]? = some x → j < h'.length := fun hx => by rw [← B.lenR]; exact (List.getElem?_eq_some_iff.1 hx).1
  induction hv with
  | v x => exact .v x
  | u cv => exact .u cv
  | nq n b h => exact .nq n b h
  | ni t x => exact .ni t x
  | nl a => exact .nl a
  | p id i f L hL => exact .p _ i f L (by rw [B.ren_get (hlt hL)]; exact hL)
  | pd id i f cv hd hc => exact .pd _ i f cv (by rw [B.ren_get (hlt hd)]; exact hd) hc
  | sl id off len L c hL hc hn hr => exact .sl _ off len L c (by rw [B.ren_get (hlt hL)]; exact hL) hc hn hr
  | slz id off L a hL => exact .slz _ off L a (by rw [B.ren_get (hlt hL)]; exact hL)
  | slv id off a hL => exact .slv _ off a (by rw [B.ren_get (hlt hL)]; exact hL)
  | sld id off len a c hd ha => exact .sld _ off len a c (by rw [B.ren_get (hlt hd)]; exact hd) ha
  | pb cs f b o g hb ho hg hv hn ih => exact .u _
  | borE i a c =>
    cases i with
    | true => exact .borE true a c
    | false => exact .u _
  | bor i es b o sz c g hb ho hz hc hsz hg hv hn hm ih =>
    cases i with
    | false => exact .u _
    | true => exact B.imp0 (V.bor true es b o sz c g hb ho hz hc hsz hg hv hn hm) rfl
  | agg cs arr hl hv ih =>
    refine .agg _ arr (by rw [impL_length]; exact hl) fun k x hx => ?_
    rw [impL_get] at hx
    cases hk : cs[k]? with
    | none => rw [hk] at hx; cases hx
    | some y => rw [hk] at hx; cases hx; exact ih k y hk
  | tup cs arr hl hv ih =>
    refine .tup _ arr (by rw [impL_length]; exact hl) fun k x hx => ?_
    rw [impL_get] at hx
    cases hk : cs[k]? with
    | none => rw [hk] at hx; cases hx
    | some y => rw [hk] at hx; cases hx; exact ih k y hk
  | fn f caps arr hl hv ih =>
    refine .fn f _ arr (by rw [impL_length]; exact hl) fun k x hx => ?_
    rw [impL_get] at hx
    cases hk : caps[k]? with
    | none => rw [hk] at hx; cases hx
    | some y => rw [hk] at hx; cases hx; exact ih k y hk

end
end Am

/- The caller's heap behind a call; what the callee starts with. -/
namespace Am
open Go

section
variable {w w' : World} {ρ ρ' : List LS} {Z : Nat → Prop} {h h' : List (Option Ob)} {mv : List Nat} {s : Nat}

def objsOf (H : Nat → Option Ob) (mv : List Nat) : List (Option Ob) := mv.map fun id => (H id).map (expOb mv H)

theorem callee_rel (r : Rel w ρ Z h) {H : Nat → Option Ob} (hH : ∀ id ob, H id = some ob → hp h id = some ob) (hid : ∀ id, id ∈ mv → ∃ ob, H id = some ob) (nd : mv.Nodup) : Rel w (lsOf ρ mv) (zOf ρ Z mv) (objsOf H mv) where
  len := by simp [lsOf, objsOf]
  obj := by
    intro j ob hj
    unfold objsOf at hj
    rw [List.getElem?_map] at hj
    cases hm : mv[j]? with
    | none => rw [hm] at hj; cases hj
    | some id =>
      rw [hm] at hj
      obtain ⟨ob0, hob⟩ := hid id (List.mem_of_getElem? hm)
      simp only [Option.map_some, hob, Option.some.injEq] at hj
      subst hj
      rcases r.obj id ob0 (hp_some (hH _ _ hob)) with ⟨L, h1, h2⟩ | ⟨h1, h2⟩
      · left
        refine ⟨L, lsOf_of hm h1, ?_⟩
        obtain ⟨arr, T, a1, a2, a3⟩ := h2.ex
        have hnz : ¬ zOf ρ Z mv L.b := fun c => c.2 ⟨j, L, lsOf_of hm h1, rfl⟩
        unfold expOb
        split
        · rename_i hfl
          exact ⟨⟨arr, T, a1, a2, fun k e i x he hx => (a3 k e i x he hx).exp0 (immc_noref (h2.fl hfl e (List.mem_of_getElem? he) x (List.mem_of_getElem? hx)))⟩, h2.sz, h2.ln, h2.room, hnz, h2.el, h2.fl⟩
        · rename_i hfl
          refine ⟨⟨arr, T, a1, a2, fun k e i x he hx => ?_⟩, h2.sz, by simpa using h2.ln, by simpa using h2.room, hnz, fun e he => ?_, fun c => absurd c hfl⟩
          · simp only at he ⊢
            rw [List.getElem?_map] at he
            cases hk : ob0.es[k]? with
            | none => rw [hk] at he; cases he
            | some e0 =>
              rw [hk] at he
              cases he
              rw [expL_get] at hx
              cases hi : e0[i]? with
              | none => rw [hi] at hx; cases hx
              | some y => rw [hi] at hx; cases hx; exact exp_V r (fun id hm => (hid id hm).imp fun ob ho => hH _ _ ho) hH (a3 k e0 i y hk hi)
          · obtain ⟨e0, h3, rfl⟩ := List.mem_map.1 he
            rw [expL_length]
            exact h2.el e0 h3
      · right
        refine ⟨lsOf_of hm h1, ?_⟩
        unfold expOb
        split
        · exact h2
        · simp [h2]
  non := by
    intro j hj
    unfold objsOf at hj
    rw [List.getElem?_map] at hj
    cases hm : mv[j]? with
    | none => rw [hm] at hj; cases hj
    | some id =>
      obtain ⟨ob0, hob⟩ := hid id (List.mem_of_getElem? hm)
      rw [hm] at hj
      simp [hob] at hj
  inj := by
    intro i j L M hL hM hb
    obtain ⟨a, a1, a2⟩ := lsOf_get hL (by simp)
    obtain ⟨b, b1, b2⟩ := lsOf_get hM (by simp)
    have := r.inj a b L M a2 b2 hb
    subst this
    have h1 := pos_of_get nd a1
    have h2 := pos_of_get nd b1
    rw [h1] at h2
    exact Option.some.inj h2
  zlt := by
    intro b hb
    rcases hb.1 with h1 | h1
    · exact r.zlt b h1
    · exact not_owned_size r h1

variable (B : Back w w' ρ ρ' Z h h' mv s)
include B

theorem Back.mono : Mono w ρ w' (backR ρ mv s ρ') where
  os := B.m'.os
  tape := B.m'.tape
  out := B.m'.out
  hs := B.m'.hs
  hb b hb ho := B.m'.hb b hb (fun c => ho (owned_ls c))
  ho b hb ho := by
    rcases B.own_back ho with h1 | ⟨i, L, _, h2, h3⟩
    · exact owned_ls (B.m'.ho b hb h1)
    · exact ⟨i, L, h2, h3⟩
  hl id L hL := by
    rw [B.getR]
    cases hp0 : pos mv id with
    | some j => exact B.m'.hl j L (lsOf_of (pos_some hp0) hL)
    | none =>
      left
      simp only []
      rw [if_neg]
      · exact hL
      · intro hc
        rcases B.sl with h1 | ⟨_, h1⟩
        · have := (List.getElem?_eq_some_iff.1 hL).1; omega
        · have := h1 (id - s) (by omega)
          rw [show s + (id - s) = id by omega, hL] at this
          cases this
  hd id hd := by
    rw [B.getR]
    cases hp0 : pos mv id with
    | some j => exact B.m'.hd j (lsOf_of (pos_some hp0) hd)
    | none =>
      simp only []
      rw [if_neg]
      · exact hd
      · intro hc
        rcases B.sl with h1 | ⟨_, h1⟩
        · have := (List.getElem?_eq_some_iff.1 hd).1; omega
        · have := h1 (id - s) (by omega)
          rw [show s + (id - s) = id by omega, hd] at this
          cases this
  hv id hv := by
    rw [B.getR]
    cases hp0 : pos mv id with
    | some j => exact B.m'.hv j (lsOf_of (pos_some hp0) hv)
    | none =>
      left
      simp only []
      rw [if_neg]
      · exact hv
      · intro hc
        rcases B.sl with h1 | ⟨_, h1⟩
        · have := (List.getElem?_eq_some_iff.1 hv).1; omega
        · have := h1 (id - s) (by omega)
          rw [show s + (id - s) = id by omega, hv] at this
          cases this

theorem Back.ob {ob : Ob} {L : Loc} (hO : ObR w' ρ' (zOf ρ Z mv) ob L) (hL : owned ρ' L.b) : ObR w' (backR ρ mv s ρ') Z (impOb mv s ob) L := by
  obtain ⟨arr, T, a1, a2, a3⟩ := hO.ex
  have hnz : ¬ Z L.b := by
    intro hc
    have hlt := B.r.zlt _ hc
    have h1 : owned (lsOf ρ mv) L.b := B.m'.ho _ hlt hL
    obtain ⟨j, M, hj, hMb⟩ := h1
    obtain ⟨id, h2, h3⟩ := lsOf_get hj (by simp)
    obtain ⟨ob0, hob⟩ := B.hid id (List.mem_of_getElem? h2)
    exact (B.r.live (hp_some hob) h3).nz (by rw [hMb]; exact hc)
  unfold impOb
  split
  · rename_i hfl
    exact ⟨⟨arr, T, a1, a2, fun k e i x he hx => B.imp0 (a3 k e i x he hx) (hO.fl hfl e (List.mem_of_getElem? he) x (List.mem_of_getElem? hx))⟩, hO.sz, hO.ln, hO.room, hnz, hO.el, hO.fl⟩
  · rename_i hfl
    refine ⟨⟨arr, T, a1, a2, fun k e i x he hx => ?_⟩, hO.sz, by simpa using hO.ln, by simpa using hO.room, hnz, fun e he => ?_, fun c => absurd c hfl⟩
    · simp only at he ⊢
      rw [List.getElem?_map] at he
      cases hk : ob.es[k]? with
      | none => rw [hk] at he; cases he
      | some e0 =>
        rw [hk] at he
        cases he
        rw [impL_get] at hx
        cases hi : e0[i]? with
        | none => rw [hi] at hx; cases hx
        | some y => rw [hi] at hx; cases hx; exact B.imp_V (a3 k e0 i y hk hi)
    · obtain ⟨e0, h3, rfl⟩ := List.mem_map.1 he
      rw [impL_length]
      exact hO.el e0 h3

theorem Back.rel : Rel w' (backR ρ mv s ρ') Z (backH h mv s h') where
  len := by
    have hm := B.hm
    unfold backR backH
    rw [putAll_length _ _ _ (by
      rw [setAll_length, List.length_drop, B.lenR]
      rcases B.sl with h3 | ⟨h3, _⟩
      · exact .inl h3
      · exact .inr h3), putAll_length _ _ _ (by
      rw [setAll_length, List.length_map, List.length_drop, ← B.r.len]
      rcases B.sl with h3 | ⟨h3, _⟩
      · exact .inl h3
      · exact .inr h3)]
    simp only [setAll_length, List.length_drop, List.length_map, B.lenR, B.r.len]
  obj := by
    intro i ob hi
    rcases B.from i with ⟨j, hj, hij, h1, h2⟩ | ⟨h1, h2, h3⟩
    · rw [h2] at hi
      rw [h1]
      have hj2 := List.getElem?_eq_getElem hj
      rw [hj2] at hi
      simp only [Option.map_some, Option.some.injEq] at hi
      cases hob : h'[j] with
      | none => rw [hob] at hi; cases hi
      | some ob0 =>
        rw [hob] at hi hj2
        cases hi
        rcases B.r'.obj j ob0 hj2 with ⟨L, h4, h5⟩ | ⟨h4, h5⟩
        · exact .inl ⟨L, h4, B.ob h5 ⟨j, L, h4, rfl⟩⟩
        · refine .inr ⟨h4, ?_⟩
          unfold impOb
          split
          · exact h5
          · simp [h5]
    · rw [h3] at hi
      rw [h2]
      rcases B.r.obj i ob hi with ⟨L, h4, h5⟩ | h4
      · left
        refine ⟨L, h4, h5.mono B.mono ?_⟩
        exact B.m'.hb _ (not_owned_size B.r ⟨i, L, h4, rfl⟩) (B.not_ls h1 h4)
      · exact .inr h4
  non := by
    intro i hi
    rcases B.from i with ⟨j, hj, hij, h1, h2⟩ | ⟨h1, h2, h3⟩
    · rw [h2] at hi
      rw [h1]
      have hj2 := List.getElem?_eq_getElem hj
      rw [hj2] at hi
      simp only [Option.map_some, Option.some.injEq] at hi
      cases hob : h'[j] with
      | none => rw [hob] at hj2; exact B.r'.non j hj2
      | some ob0 => rw [hob] at hi; cases hi
    · rw [h3] at hi
      rw [h2]
      exact B.r.non i hi
  inj := by
    intro i k L M hL hM hb
    have cross : ∀ (j k : Nat) (L M : Loc), ρ'[j]? = some (.live L) → k ∉ mv → ρ[k]? = some (.live M) → L.b ≠ M.b := by
      intro j k L M hL hk hM hb
      have hlt := not_owned_size B.r ⟨k, M, hM, rfl⟩
      have h1 := B.m'.ho M.b hlt ⟨j, L, hL, hb⟩
      exact B.not_ls hk hM h1
    rcases B.from i with ⟨j1, hj1, hi1, h1, _⟩ | ⟨h1, h2, _⟩ <;> rcases B.from k with ⟨j2, hj2, hi2, h3, _⟩ | ⟨h3, h4, _⟩
    · rw [h1] at hL
      rw [h3] at hM
      rw [hi1, hi2, B.r'.inj j1 j2 L M hL hM hb]
    · rw [h1] at hL
      rw [h4] at hM
      exact absurd hb (cross j1 k L M hL h3 hM)
    · rw [h2] at hL
      rw [h3] at hM
      exact absurd hb.symm (cross j2 i M L hM h1 hL)
    · rw [h2] at hL
      rw [h4] at hM
      exact B.r.inj i k L M hL hM hb
  zlt b hb := Nat.lt_of_lt_of_le (B.r.zlt b hb) B.m'.hs

theorem Back.fresh {i : Nat} (hi : ¬ (s ≤ i ∧ i < s + (h'.length - mv.length))) (hf : ρ[i]? = some .fresh) : (backR ρ mv s ρ')[i]? = some .fresh := by
  rw [B.getR]
  cases hp0 : pos mv i with
  | some j =>
    obtain ⟨ob, hob⟩ := B.hid i (List.mem_of_getElem? (pos_some hp0))
    rcases B.r.obj i ob (hp_some hob) with ⟨L, h6, _⟩ | ⟨h6, _⟩ <;> rw [hf] at h6 <;> cases h6
  | none =>
    simp only []
    rw [if_neg hi]
    exact hf

end
end Am
