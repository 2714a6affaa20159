/- The table of types, printed by ty.py. -/
import Derived.Test.YtokpejlicanbmaaProg
import Derived.Test.YtokpejlicanbmaaAmD
set_option linter.all false
namespace TyA
open Go Am

def tyNo : TI := { ok := false, eqs := false, agg := false, size := 1, bytes := 0, zero := [], k := .other }
def ty3 : TI := { ok := true, eqs := false, agg := false, size := 1, bytes := 8, zero := [.v (.int .i64 0)], k := .int .i64 }
def ty4 : TI := { ok := true, eqs := false, agg := false, size := 1, bytes := 1, zero := [.v (.bool false)], k := .bool }
def ty5 : TI := { ok := true, eqs := false, agg := false, size := 1, bytes := 1, zero := [.v (.int .u8 0)], k := .int .u8 }
def ty9 : TI := { ok := true, eqs := false, agg := false, size := 1, bytes := 16, zero := [.v (.string ByteArray.empty)], k := .str }
def ty22 : TI := { ok := true, eqs := false, agg := false, size := 1, bytes := 24, zero := [.nl], k := .sl 5 }
def ty25 : TI := { ok := true, eqs := false, agg := false, size := 1, bytes := 24, zero := [.nl], k := .sl 90 }
def ty27 : TI := { ok := true, eqs := false, agg := true, size := 3, bytes := 40, zero := [.v (.int .i64 0), .v (.int .i64 0), .nl], k := .st [(0, 1, false), (1, 1, false), (2, 1, false)] }
def ty30 : TI := { ok := true, eqs := false, agg := false, size := 1, bytes := 24, zero := [.nl], k := .sl 3 }
def ty43 : TI := { ok := true, eqs := false, agg := true, size := 2, bytes := 32, zero := [.v (.int .i64 0), .nl], k := .st [(0, 1, false), (1, 1, false)] }
def ty45 : TI := { ok := true, eqs := false, agg := true, size := 5, bytes := 56, zero := [.v (.int .i64 0), .v (.int .i64 0), .v (.int .i64 0), .v (.int .i64 0), .nl], k := .st [(0, 1, false), (1, 1, false), (2, 1, false), (3, 2, true)] }
def ty48 : TI := { ok := true, eqs := false, agg := true, size := 2, bytes := 32, zero := [.v (.int .i64 0), .nl], k := .st [(0, 1, false), (1, 1, false)] }
def ty50 : TI := { ok := true, eqs := false, agg := true, size := 5, bytes := 56, zero := [.v (.int .i64 0), .v (.int .i64 0), .v (.int .i64 0), .v (.int .i64 0), .nl], k := .st [(0, 1, false), (1, 1, false), (2, 1, false), (3, 2, true)] }
def ty57 : TI := { ok := true, eqs := false, agg := false, size := 1, bytes := 24, zero := [.nl], k := .sl 106 }
def ty59 : TI := { ok := true, eqs := false, agg := true, size := 1, bytes := 24, zero := [.nl], k := .st [(0, 1, false)] }
def ty61 : TI := { ok := true, eqs := false, agg := false, size := 1, bytes := 24, zero := [.nl], k := .sl 105 }
def ty63 : TI := { ok := true, eqs := false, agg := true, size := 1, bytes := 24, zero := [.nl], k := .st [(0, 1, false)] }
def ty74 : TI := { ok := true, eqs := false, agg := false, size := 1, bytes := 24, zero := [.nl], k := .sl 50 }
def ty82 : TI := { ok := true, eqs := false, agg := false, size := 1, bytes := 24, zero := [.nl], k := .sl 45 }
def ty90 : TI := { ok := true, eqs := true, agg := true, size := 2, bytes := 16, zero := [.v (.int .i64 0), .v (.int .i64 0)], k := .st [(0, 1, false), (1, 1, false)] }
def ty92 : TI := { ok := true, eqs := false, agg := false, size := 1, bytes := 8, zero := [.v (.pointer none)], k := .other }
def ty105 : TI := { ok := true, eqs := true, agg := true, size := 4, bytes := 32, zero := [.v (.int .i64 0), .v (.int .i64 0), .v (.int .i64 0), .v (.int .i64 0)], k := .st [(0, 1, false), (1, 1, false), (2, 1, false), (3, 1, false)] }
def ty106 : TI := { ok := true, eqs := false, agg := false, size := 1, bytes := 4, zero := [.v (.int .u32 0)], k := .int .u32 }
def ty108 : TI := { ok := true, eqs := true, agg := true, size := 4, bytes := 32, zero := [.v (.int .i64 0), .v (.int .i64 0), .v (.int .u32 0), .v (.int .i64 0)], k := .st [(0, 1, false), (1, 1, false), (2, 1, false), (3, 1, false)] }
def ty122 : TI := { ok := true, eqs := false, agg := false, size := 1, bytes := 8, zero := [.v .nilFunc], k := .other }
def ty127 : TI := { ok := true, eqs := false, agg := true, size := 3, bytes := 40, zero := [.nl, .v (.int .i64 0), .v (.int .i64 0)], k := .st [(0, 1, false), (1, 1, false), (2, 1, false)] }
def ty129 : TI := { ok := true, eqs := false, agg := false, size := 1, bytes := 8, zero := [.v (.int .u64 0)], k := .int .u64 }
def ty130 : TI := { ok := true, eqs := false, agg := false, size := 1, bytes := 8, zero := [.v .nilFunc], k := .other }
def ty139 : TI := { ok := true, eqs := false, agg := false, size := 1, bytes := 8, zero := [.v (.int .u64 0)], k := .int .u64 }
def tab : List TI := [tyNo, tyNo, tyNo, ty3, ty4, ty5, tyNo, tyNo, tyNo, ty9, tyNo, tyNo, tyNo, tyNo, tyNo, tyNo, tyNo, tyNo, tyNo, tyNo, tyNo, tyNo, ty22, tyNo, tyNo, ty25, tyNo, ty27, tyNo, tyNo, ty30, tyNo, tyNo, tyNo, tyNo, tyNo, tyNo, tyNo, tyNo, tyNo, tyNo, tyNo, tyNo, ty43, tyNo, ty45, tyNo, tyNo, ty48, tyNo, ty50, tyNo, tyNo, tyNo, tyNo, tyNo, tyNo, ty57, tyNo, ty59, tyNo, ty61, tyNo, ty63, tyNo, tyNo, tyNo, tyNo, tyNo, tyNo, tyNo, tyNo, tyNo, tyNo, ty74, tyNo, tyNo, tyNo, tyNo, tyNo, tyNo, tyNo, ty82, tyNo, tyNo, tyNo, tyNo, tyNo, tyNo, tyNo, ty90, tyNo, ty92, tyNo, tyNo, tyNo, tyNo, tyNo, tyNo, tyNo, tyNo, tyNo, tyNo, tyNo, tyNo, ty105, ty106, tyNo, ty108, tyNo, tyNo, tyNo, tyNo, tyNo, tyNo, tyNo, tyNo, tyNo, tyNo, tyNo, tyNo, tyNo, ty122, tyNo, tyNo, tyNo, tyNo, ty127, tyNo, ty129, ty130, tyNo, tyNo, tyNo, tyNo, tyNo, tyNo, tyNo, tyNo, ty139, tyNo, tyNo, tyNo, tyNo, tyNo, tyNo, tyNo, tyNo, tyNo, tyNo, tyNo, tyNo, tyNo, tyNo, tyNo, tyNo, tyNo, tyNo, tyNo]
def ti (T : Nat) : TI := tab.getD T tyNo
def cxOf (P : Program) : Cx := { P := P, ti := ti }
theorem t3 (P : Program) : (cxOf P).ti 3 = ty3 := rfl
theorem t4 (P : Program) : (cxOf P).ti 4 = ty4 := rfl
theorem t5 (P : Program) : (cxOf P).ti 5 = ty5 := rfl
theorem t9 (P : Program) : (cxOf P).ti 9 = ty9 := rfl
theorem t22 (P : Program) : (cxOf P).ti 22 = ty22 := rfl
theorem t25 (P : Program) : (cxOf P).ti 25 = ty25 := rfl
theorem t27 (P : Program) : (cxOf P).ti 27 = ty27 := rfl
theorem t30 (P : Program) : (cxOf P).ti 30 = ty30 := rfl
theorem t43 (P : Program) : (cxOf P).ti 43 = ty43 := rfl
theorem t45 (P : Program) : (cxOf P).ti 45 = ty45 := rfl
theorem t48 (P : Program) : (cxOf P).ti 48 = ty48 := rfl
theorem t50 (P : Program) : (cxOf P).ti 50 = ty50 := rfl
theorem t57 (P : Program) : (cxOf P).ti 57 = ty57 := rfl
theorem t59 (P : Program) : (cxOf P).ti 59 = ty59 := rfl
theorem t61 (P : Program) : (cxOf P).ti 61 = ty61 := rfl
theorem t63 (P : Program) : (cxOf P).ti 63 = ty63 := rfl
theorem t74 (P : Program) : (cxOf P).ti 74 = ty74 := rfl
theorem t82 (P : Program) : (cxOf P).ti 82 = ty82 := rfl
theorem t90 (P : Program) : (cxOf P).ti 90 = ty90 := rfl
theorem t92 (P : Program) : (cxOf P).ti 92 = ty92 := rfl
theorem t105 (P : Program) : (cxOf P).ti 105 = ty105 := rfl
theorem t106 (P : Program) : (cxOf P).ti 106 = ty106 := rfl
theorem t108 (P : Program) : (cxOf P).ti 108 = ty108 := rfl
theorem t122 (P : Program) : (cxOf P).ti 122 = ty122 := rfl
theorem t127 (P : Program) : (cxOf P).ti 127 = ty127 := rfl
theorem t129 (P : Program) : (cxOf P).ti 129 = ty129 := rfl
theorem t130 (P : Program) : (cxOf P).ti 130 = ty130 := rfl
theorem t139 (P : Program) : (cxOf P).ti 139 = ty139 := rfl
theorem cxP (P : Program) : (cxOf P).P = P := rfl
attribute [go_sem] t3 ty3 t4 ty4 t5 ty5 t9 ty9 t22 ty22 t25 ty25 t27 ty27 t30 ty30 t43 ty43 t45 ty45 t48 ty48 t50 ty50 t57 ty57 t59 ty59 t61 ty61 t63 ty63 t74 ty74 t82 ty82 t90 ty90 t92 ty92 t105 ty105 t106 ty106 t108 ty108 t122 ty122 t127 ty127 t129 ty129 t130 ty130 t139 ty139 cxP
theorem cxOk : CxOk (cxOf Go.Proofs.Try.prog) := CxOk.of_list 159 (fun T hT => by
    have h : (cxOf Go.Proofs.Try.prog).ti T = tyNo := by
      show tab.getD T tyNo = tyNo
      rw [List.getD_eq_getElem?_getD, List.getElem?_eq_none (by simpa [tab] using hT)]
      rfl
    rw [h]
    exact ⟨rfl, rfl, rfl⟩) (by decide +kernel) (by decide +kernel)
end TyA
