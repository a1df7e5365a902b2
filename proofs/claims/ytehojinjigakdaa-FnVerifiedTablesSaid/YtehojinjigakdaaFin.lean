/- The given statement FnVerifiedTables is proved, for every input, without a condition. -/
import Derived.Test.YtehojinjigakdaaE
import Derived.Test.YtehojinjigakdaaRows
namespace Go.Proofs.Ytehojinjigakdaa
open Go.ChangeShapes Go.WideShapes Go.ChangeAt Go.RowKit
theorem own_knob : ownKnob Try.prog.godebug = none := by kernel_rfl
theorem cells_u8 : Try.prog.cellsOf 5 = 1 := by kernel_rfl
theorem under_S : Try.prog.underlying 22 = some (.slice 5) := by kernel_rfl
theorem under_u8 : Try.prog.underlying 5 = some (.int .u8) := by kernel_rfl
theorem under_bool : Try.prog.underlying 4 = some .bool := by kernel_rfl
theorem verifiedTables_lifted (os : Os) (started : os.Started) (H : Type) (enc : TypeId × Value → H) :
    ReturnsInHanded {} Try.checked os 3 .any (Rows.fnVerifiedTablesSpec.pre6 enc Try.prog Try.f3 Rows.fnVerifiedTablesRow.domain false) (Rows.fnVerifiedTablesSpec.post enc Try.prog Try.f3 false true false false) :=
  Go.Am.law_lifted (C := Try.checked) (s := Rows.fnVerifiedTablesSpec) (tS := 22) (tb := 5) (tB := 4) own_knob started (by kernel_rfl) Try.func3
    (ChangeSpec.witness6 (enc := enc) (C := Try.checked) false ⟨#[], #[.slice none 0 0], []⟩ 8 (by kernel_rfl) (by kernel_rfl) (by kernel_rfl) (by kernel_rfl))
    (by kernel_rfl) rfl under_S under_u8 cells_u8 (by kernel_rfl) under_bool (fun _ => rfl) Go.Am.ok_s_lw_FnVerifiedTables (fun _ _ hp h => Go.Am.law_VerifiedTables hp h)
theorem fnVerifiedTables_holds : Rows.FnVerifiedTablesSaid :=
  OpenClaim.holds_of_wide 3 Try.f3 rfl rfl rfl rfl rfl rfl rfl ⟨rfl, rfl, rfl, rfl, rfl⟩ rfl rfl rfl rfl rfl (by kernel_rfl) Try.func3 (by kernel_rfl)
    (of_decide_eq_true (by kernel_rfl)) (by unfold Func.isWrapper; rw [if_neg (of_decide_eq_false (by kernel_rfl))]; exact ⟨rfl, rfl⟩)
    (fun os started H enc _ => verifiedTables_lifted os started H enc)
#print axioms fnVerifiedTables_holds
end Go.Proofs.Ytehojinjigakdaa
