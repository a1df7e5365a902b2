/- The given statement FnAdmissibleTables is proved, for every input, without a condition. -/
import Derived.Test.YtaacdlikhkfacaaGreatF
import Derived.Test.YtaacdlikhkfacaaGreatRows
namespace Go.Proofs.YtaacdlikhkfacaaGreat
open Go.ChangeShapes Go.WideShapes Go.ChangeAt Go.RowKit
theorem own_knob : ownKnob Tryz.prog.godebug = none := by kernel_rfl
theorem cells_u8 : Tryz.prog.cellsOf 5 = 1 := by kernel_rfl
theorem under_S : Tryz.prog.underlying 47 = some (.slice 5) := by kernel_rfl
theorem under_u8 : Tryz.prog.underlying 5 = some (.int .u8) := by kernel_rfl
theorem under_bool : Tryz.prog.underlying 4 = some .bool := by kernel_rfl
theorem admissibleTables_lifted (os : Os) (started : os.Started) (H : Type) (enc : TypeId × Value → H) :
    ReturnsInHanded {} Tryz.checked os 5 .any (Rows.fnAdmissibleTablesSpec.pre6 enc Tryz.prog Tryz.f5 Rows.fnAdmissibleTablesRow.domain false) (Rows.fnAdmissibleTablesSpec.post enc Tryz.prog Tryz.f5 false true false false) :=
  Go.Am.law_lifted (C := Tryz.checked) (s := Rows.fnAdmissibleTablesSpec) (tS := 47) (tb := 5) (tB := 4) own_knob started (by kernel_rfl) Tryz.func5
    (ChangeSpec.witness6 (enc := enc) (C := Tryz.checked) false ⟨#[], #[.slice none 0 0], []⟩ 8 (by kernel_rfl) (by kernel_rfl) (by kernel_rfl) (by kernel_rfl))
    (by kernel_rfl) rfl under_S under_u8 cells_u8 (by kernel_rfl) under_bool (fun _ => rfl) Go.Am.ok_s_lw_FnAdmissibleTables (fun _ _ hp h => Go.Am.law_AdmissibleTables hp h)
theorem adm_named : Tryz.pinned.checked.prog.funcNamed Rows.fnAdmissibleTablesRow.func = some 5 := by kernel_rfl
theorem adm_closed : joinedFacts Tryz.pinned.checked.prog 5 Tryz.f5 Rows.fnAdmissibleTablesSpec Rows.fnAdmissibleTablesRow = true := by kernel_rfl
theorem adm_inst : Tryz.f5.isInstance Tryz.pinned.checked.prog Rows.fnAdmissibleTablesRow.origin Rows.fnAdmissibleTablesRow.targs := of_decide_eq_true (by kernel_rfl)
theorem adm_wrap : Tryz.f5.isWrapper Tryz.pinned.checked.prog Rows.fnAdmissibleTablesRow.wrapper Rows.fnAdmissibleTablesRow.mainSum := by
  unfold Func.isWrapper; rw [if_neg (of_decide_eq_false (by kernel_rfl))]; exact ⟨rfl, rfl⟩
theorem fnAdmissibleTables_holds : Rows.FnAdmissibleTablesSaid :=
  OpenClaim.holds_of_wide 5 Tryz.f5 rfl rfl rfl rfl rfl rfl rfl ⟨rfl, rfl, rfl, rfl, rfl⟩ rfl rfl rfl rfl rfl adm_named Tryz.func5 adm_closed adm_inst adm_wrap
    (fun os started H enc _ => admissibleTables_lifted os started H enc)
end Go.Proofs.YtaacdlikhkfacaaGreat
