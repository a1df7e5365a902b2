/- Steps of the proof of FnAdmissibleTables: an abstract machine, its runs, and the plain law. -/
import Derived.Test.YtaacdlikhkfacaaGreatB
import Derived.Test.YtaacdlikhkfacaaGreatChecked
section
set_option maxRecDepth 100000
set_option linter.unusedVariables false
-- made by wip/gen.py: each function of the program runs as its abstract program says
namespace Go.Am
open Go.Proofs
def h_s_lw_big : Hint := .leaf
noncomputable def l_s_lw_big : List (Nat × (List AVal → AM AVal)) := []
theorem e_s_lw_big (a0 : AVal) : runF Tryz.prog (tab l_s_lw_big) Tryz.f29 h_s_lw_big [a0] = s_lw_big a0 := by kernel_rfl
theorem ok_s_lw_big : FnOK Tryz.prog k_s_lw_big (ap1 s_lw_big) := fn_ok1 (l := l_s_lw_big) Tryz.checked.mixed trivial Tryz.func29 Tryz.call29 e_s_lw_big
def h_s_sp_newSource : Hint := (.pair .leaf (.pair .leaf (.pair (.pair .leaf (.loop [3, 4] [3] [.exit 0] .leaf)) .leaf)))
noncomputable def l_s_sp_newSource : List (Nat × (List AVal → AM AVal)) := []
theorem e_s_sp_newSource (a0 : AVal) : runF Tryz.prog (tab l_s_sp_newSource) Tryz.f75 h_s_sp_newSource [a0] = s_sp_newSource a0 := by kernel_rfl
theorem ok_s_sp_newSource : FnOK Tryz.prog k_s_sp_newSource (ap1 s_sp_newSource) := fn_ok1 (l := l_s_sp_newSource) Tryz.checked.mixed trivial Tryz.func75 Tryz.call75 e_s_sp_newSource
def h_s_sp_nextByte : Hint := (.pair .leaf (.pair .leaf (.pair (.draw [0, 1, 2, 3, 5, 6, 7, 8, 4, 9, 10, 11, 12]) (.pair (.pair (.draw [0, 1, 2, 3, 4, 5, 6, 7, 8, 9]) (.join [3] [.normal] (.pair (.draw [1, 2, 3, 4, 5, 6, 7, 8, 9, 10, 0, 11, 12, 13, 14]) .leaf) .leaf)) .leaf))))
noncomputable def l_s_sp_nextByte : List (Nat × (List AVal → AM AVal)) := []
theorem e_s_sp_nextByte (a0 : AVal) : runF Tryz.prog (tab l_s_sp_nextByte) Tryz.f238 h_s_sp_nextByte [a0] = s_sp_nextByte a0 := by kernel_rfl
theorem ok_s_sp_nextByte : FnOK Tryz.prog k_s_sp_nextByte (ap1 s_sp_nextByte) := fn_ok1 (l := l_s_sp_nextByte) Tryz.checked.mixed trivial Tryz.func238 Tryz.call238 e_s_sp_nextByte
def h_s_sp_below : Hint := .leaf
noncomputable def l_s_sp_below : List (Nat × (List AVal → AM AVal)) := [(k_s_sp_nextByte, ap1 s_sp_nextByte)]
theorem e_s_sp_below (a0 a1 : AVal) : runF Tryz.prog (tab l_s_sp_below) Tryz.f153 h_s_sp_below [a0, a1] = s_sp_below a0 a1 := by kernel_rfl
theorem ok_s_sp_below : FnOK Tryz.prog k_s_sp_below (ap2 s_sp_below) := fn_ok2 (l := l_s_sp_below) Tryz.checked.mixed (And.intro ok_s_sp_nextByte trivial) Tryz.func153 Tryz.call153 e_s_sp_below
def h_s_sp_copyInts : Hint := .leaf
noncomputable def l_s_sp_copyInts : List (Nat × (List AVal → AM AVal)) := []
theorem e_s_sp_copyInts (a0 : AVal) : runF Tryz.prog (tab l_s_sp_copyInts) Tryz.f133 h_s_sp_copyInts [a0] = s_sp_copyInts a0 := by kernel_rfl
theorem ok_s_sp_copyInts : FnOK Tryz.prog k_s_sp_copyInts (ap1 s_sp_copyInts) := fn_ok1 (l := l_s_sp_copyInts) Tryz.checked.mixed trivial Tryz.func133 Tryz.call133 e_s_sp_copyInts
def h_s_sp_drawPermutation : Hint := (.pair .leaf (.pair .leaf (.pair (.pair .leaf (.loop [5, 6] [5] [.exit 0] (.pair .leaf (.pair (.pair .leaf (.draw [0, 1, 2, 3, 4, 5, 6, 7, 8, 9, 10, 11])) .leaf)))) .leaf)))
noncomputable def l_s_sp_drawPermutation : List (Nat × (List AVal → AM AVal)) := [(k_s_sp_below, ap2 s_sp_below), (k_s_sp_copyInts, ap1 s_sp_copyInts)]
theorem e_s_sp_drawPermutation (a0 a1 : AVal) : runF Tryz.prog (tab l_s_sp_drawPermutation) Tryz.f285 h_s_sp_drawPermutation [a0, a1] = s_sp_drawPermutation a0 a1 := by kernel_rfl
theorem ok_s_sp_drawPermutation : FnOK Tryz.prog k_s_sp_drawPermutation (ap2 s_sp_drawPermutation) := fn_ok2 (l := l_s_sp_drawPermutation) Tryz.checked.mixed (And.intro ok_s_sp_below (And.intro ok_s_sp_copyInts trivial)) Tryz.func285 Tryz.call285 e_s_sp_drawPermutation
def h_s_sp_oneIn : Hint := .leaf
noncomputable def l_s_sp_oneIn : List (Nat × (List AVal → AM AVal)) := [(k_s_sp_below, ap2 s_sp_below)]
theorem e_s_sp_oneIn (a0 a1 : AVal) : runF Tryz.prog (tab l_s_sp_oneIn) Tryz.f152 h_s_sp_oneIn [a0, a1] = s_sp_oneIn a0 a1 := by kernel_rfl
theorem ok_s_sp_oneIn : FnOK Tryz.prog k_s_sp_oneIn (ap2 s_sp_oneIn) := fn_ok2 (l := l_s_sp_oneIn) Tryz.checked.mixed (And.intro ok_s_sp_below trivial) Tryz.func152 Tryz.call152 e_s_sp_oneIn
def h_s_sp_extremeInt : Hint := .leaf
noncomputable def l_s_sp_extremeInt : List (Nat × (List AVal → AM AVal)) := [(k_s_sp_below, ap2 s_sp_below)]
theorem e_s_sp_extremeInt (a0 : AVal) : runF Tryz.prog (tab l_s_sp_extremeInt) Tryz.f202 h_s_sp_extremeInt [a0] = s_sp_extremeInt a0 := by kernel_rfl
theorem ok_s_sp_extremeInt : FnOK Tryz.prog k_s_sp_extremeInt (ap1 s_sp_extremeInt) := fn_ok1 (l := l_s_sp_extremeInt) Tryz.checked.mixed (And.intro ok_s_sp_below trivial) Tryz.func202 Tryz.call202 e_s_sp_extremeInt
def h_s_sp_numberUpTo : Hint := .leaf
noncomputable def l_s_sp_numberUpTo : List (Nat × (List AVal → AM AVal)) := [(k_s_sp_oneIn, ap2 s_sp_oneIn), (k_s_sp_extremeInt, ap1 s_sp_extremeInt), (k_s_sp_below, ap2 s_sp_below)]
theorem e_s_sp_numberUpTo (a0 a1 : AVal) : runF Tryz.prog (tab l_s_sp_numberUpTo) Tryz.f107 h_s_sp_numberUpTo [a0, a1] = s_sp_numberUpTo a0 a1 := by kernel_rfl
theorem ok_s_sp_numberUpTo : FnOK Tryz.prog k_s_sp_numberUpTo (ap2 s_sp_numberUpTo) := fn_ok2 (l := l_s_sp_numberUpTo) Tryz.checked.mixed (And.intro ok_s_sp_oneIn (And.intro ok_s_sp_extremeInt (And.intro ok_s_sp_below trivial))) Tryz.func107 Tryz.call107 e_s_sp_numberUpTo
def h_s_sp_drawAnyPermutation : Hint := (.pair .leaf (.pair .leaf (.pair (.pair .leaf (.join [5] [.normal] (.pair .leaf (.pair .leaf (.join [5] [.normal] .leaf (.pair .leaf (.join [5] [.normal] .leaf (.pair .leaf (.join [5] [.normal] .leaf .leaf))))))) .leaf)) (.pair (.pair .leaf (.join [5] [.normal] .leaf .leaf)) .leaf))))
noncomputable def l_s_sp_drawAnyPermutation : List (Nat × (List AVal → AM AVal)) := [(k_s_sp_drawPermutation, ap2 s_sp_drawPermutation), (k_s_sp_oneIn, ap2 s_sp_oneIn), (k_s_sp_below, ap2 s_sp_below), (k_s_sp_numberUpTo, ap2 s_sp_numberUpTo)]
theorem e_s_sp_drawAnyPermutation (a0 a1 : AVal) : runF Tryz.prog (tab l_s_sp_drawAnyPermutation) Tryz.f266 h_s_sp_drawAnyPermutation [a0, a1] = s_sp_drawAnyPermutation a0 a1 := by kernel_rfl
theorem ok_s_sp_drawAnyPermutation : FnOK Tryz.prog k_s_sp_drawAnyPermutation (ap2 s_sp_drawAnyPermutation) := fn_ok2 (l := l_s_sp_drawAnyPermutation) Tryz.checked.mixed (And.intro ok_s_sp_drawPermutation (And.intro ok_s_sp_oneIn (And.intro ok_s_sp_below (And.intro ok_s_sp_numberUpTo trivial)))) Tryz.func266 Tryz.call266 e_s_sp_drawAnyPermutation
def h_s_sp_l24DrawPuzzle : Hint := (.pair .leaf (.pair .leaf (.pair .leaf (.pair (.pair .leaf (.loop [5] [] [.exit 0] (.pair .leaf (.pair (.draw [2, 3, 4, 0, 1, 5, 6, 7, 8]) .leaf)))) (.pair (.pair .leaf (.join [] [.normal] (.pair .leaf (.pair .leaf (.join [] [.normal] .leaf (.pair .leaf (.join [] [.normal] .leaf (.pair .leaf (.join [] [.normal] (.draw [2, 3, 4, 0, 1, 5, 6]) .leaf))))))) .leaf)) .leaf)))))
noncomputable def l_s_sp_l24DrawPuzzle : List (Nat × (List AVal → AM AVal)) := [(k_s_sp_below, ap2 s_sp_below), (k_s_sp_drawPermutation, ap2 s_sp_drawPermutation), (k_s_sp_oneIn, ap2 s_sp_oneIn), (k_s_sp_numberUpTo, ap2 s_sp_numberUpTo), (k_s_sp_drawAnyPermutation, ap2 s_sp_drawAnyPermutation)]
theorem e_s_sp_l24DrawPuzzle (a0 : AVal) : runF Tryz.prog (tab l_s_sp_l24DrawPuzzle) Tryz.f234 h_s_sp_l24DrawPuzzle [a0] = s_sp_l24DrawPuzzle a0 := by kernel_rfl
theorem ok_s_sp_l24DrawPuzzle : FnOK Tryz.prog k_s_sp_l24DrawPuzzle (ap1 s_sp_l24DrawPuzzle) := fn_ok1 (l := l_s_sp_l24DrawPuzzle) Tryz.checked.mixed (And.intro ok_s_sp_below (And.intro ok_s_sp_drawPermutation (And.intro ok_s_sp_oneIn (And.intro ok_s_sp_numberUpTo (And.intro ok_s_sp_drawAnyPermutation trivial))))) Tryz.func234 Tryz.call234 e_s_sp_l24DrawPuzzle
def h_s_sp_inRange : Hint := .leaf
noncomputable def l_s_sp_inRange : List (Nat × (List AVal → AM AVal)) := []
theorem e_s_sp_inRange (a0 a1 a2 : AVal) : runF Tryz.prog (tab l_s_sp_inRange) Tryz.f113 h_s_sp_inRange [a0, a1, a2] = s_sp_inRange a0 a1 a2 := by kernel_rfl
theorem ok_s_sp_inRange : FnOK Tryz.prog k_s_sp_inRange (ap3 s_sp_inRange) := fn_ok3 (l := l_s_sp_inRange) Tryz.checked.mixed trivial Tryz.func113 Tryz.call113 e_s_sp_inRange
def h_s_sp_containsInt : Hint := (.pair .leaf (.pair (.pair .leaf (.loop [5] [4] [.exit 0, .ret] .leaf)) .leaf))
noncomputable def l_s_sp_containsInt : List (Nat × (List AVal → AM AVal)) := []
theorem e_s_sp_containsInt (a0 a1 : AVal) : runF Tryz.prog (tab l_s_sp_containsInt) Tryz.f250 h_s_sp_containsInt [a0, a1] = s_sp_containsInt a0 a1 := by kernel_rfl
theorem ok_s_sp_containsInt : FnOK Tryz.prog k_s_sp_containsInt (ap2 s_sp_containsInt) := fn_ok2 (l := l_s_sp_containsInt) Tryz.checked.mixed trivial Tryz.func250 Tryz.call250 e_s_sp_containsInt
def h_s_sp_IsPermutation : Hint := (.pair .leaf (.pair .leaf (.pair .leaf (.pair (.pair .leaf (.loop [4] [2] [.exit 0, .ret] (.pair .leaf (.pair (.pair (.draw [0, 1, 2, 3, 4, 5, 6, 7, 8, 9, 10, 11, 12, 13, 14, 15, 16, 17]) .leaf) .leaf)))) .leaf))))
noncomputable def l_s_sp_IsPermutation : List (Nat × (List AVal → AM AVal)) := [(k_s_sp_inRange, ap3 s_sp_inRange), (k_s_sp_containsInt, ap2 s_sp_containsInt)]
theorem e_s_sp_IsPermutation (a0 : AVal) : runF Tryz.prog (tab l_s_sp_IsPermutation) Tryz.f212 h_s_sp_IsPermutation [a0] = s_sp_IsPermutation a0 := by kernel_rfl
theorem ok_s_sp_IsPermutation : FnOK Tryz.prog k_s_sp_IsPermutation (ap1 s_sp_IsPermutation) := fn_ok1 (l := l_s_sp_IsPermutation) Tryz.checked.mixed (And.intro ok_s_sp_inRange (And.intro ok_s_sp_containsInt trivial)) Tryz.func212 Tryz.call212 e_s_sp_IsPermutation
def h_s_sp_IsGeneratorSet : Hint := (.pair .leaf (.pair .leaf (.pair (.pair .leaf (.loop [5] [4] [.exit 0, .ret] .leaf)) .leaf)))
noncomputable def l_s_sp_IsGeneratorSet : List (Nat × (List AVal → AM AVal)) := [(k_s_sp_inRange, ap3 s_sp_inRange), (k_s_sp_IsPermutation, ap1 s_sp_IsPermutation)]
theorem e_s_sp_IsGeneratorSet (a0 a1 : AVal) : runF Tryz.prog (tab l_s_sp_IsGeneratorSet) Tryz.f170 h_s_sp_IsGeneratorSet [a0, a1] = s_sp_IsGeneratorSet a0 a1 := by kernel_rfl
theorem ok_s_sp_IsGeneratorSet : FnOK Tryz.prog k_s_sp_IsGeneratorSet (ap2 s_sp_IsGeneratorSet) := fn_ok2 (l := l_s_sp_IsGeneratorSet) Tryz.checked.mixed (And.intro ok_s_sp_inRange (And.intro ok_s_sp_IsPermutation trivial)) Tryz.func170 Tryz.call170 e_s_sp_IsGeneratorSet
def h_s_sp_isMoveName : Hint := (.pair .leaf (.pair .leaf (.pair (.pair .leaf (.loop [5] [4] [.exit 0, .ret] (.pair .leaf (.pair (.pair (.draw [0, 1, 2, 3, 4, 5, 6]) .leaf) .leaf)))) .leaf)))
noncomputable def l_s_sp_isMoveName : List (Nat × (List AVal → AM AVal)) := []
theorem e_s_sp_isMoveName (a0 a1 : AVal) : runF Tryz.prog (tab l_s_sp_isMoveName) Tryz.f171 h_s_sp_isMoveName [a0, a1] = s_sp_isMoveName a0 a1 := by kernel_rfl
theorem ok_s_sp_isMoveName : FnOK Tryz.prog k_s_sp_isMoveName (ap2 s_sp_isMoveName) := fn_ok2 (l := l_s_sp_isMoveName) Tryz.checked.mixed trivial Tryz.func171 Tryz.call171 e_s_sp_isMoveName
def h_s_sp_IsValidPuzzle : Hint := (.pair .leaf (.pair .leaf (.pair (.pair .leaf (.loop [3] [2] [.exit 0, .ret] .leaf)) .leaf)))
noncomputable def l_s_sp_IsValidPuzzle : List (Nat × (List AVal → AM AVal)) := [(k_s_sp_IsGeneratorSet, ap2 s_sp_IsGeneratorSet), (k_s_sp_isMoveName, ap2 s_sp_isMoveName)]
theorem e_s_sp_IsValidPuzzle (a0 : AVal) : runF Tryz.prog (tab l_s_sp_IsValidPuzzle) Tryz.f81 h_s_sp_IsValidPuzzle [a0] = s_sp_IsValidPuzzle a0 := by kernel_rfl
theorem ok_s_sp_IsValidPuzzle : FnOK Tryz.prog k_s_sp_IsValidPuzzle (ap1 s_sp_IsValidPuzzle) := fn_ok1 (l := l_s_sp_IsValidPuzzle) Tryz.checked.mixed (And.intro ok_s_sp_IsGeneratorSet (And.intro ok_s_sp_isMoveName trivial)) Tryz.func81 Tryz.call81 e_s_sp_IsValidPuzzle
def h_s_sp_isPointList : Hint := (.pair .leaf (.pair .leaf (.pair (.pair .leaf (.loop [5] [4] [.exit 0, .ret] (.pair .leaf (.pair (.pair (.draw [0, 1, 2, 3, 4, 5, 6, 7, 8, 9, 10, 11, 12, 13, 14, 15, 16, 17, 18, 19, 20, 21, 22, 23]) .leaf) .leaf)))) .leaf)))
noncomputable def l_s_sp_isPointList : List (Nat × (List AVal → AM AVal)) := [(k_s_sp_inRange, ap3 s_sp_inRange)]
theorem e_s_sp_isPointList (a0 a1 : AVal) : runF Tryz.prog (tab l_s_sp_isPointList) Tryz.f178 h_s_sp_isPointList [a0, a1] = s_sp_isPointList a0 a1 := by kernel_rfl
theorem ok_s_sp_isPointList : FnOK Tryz.prog k_s_sp_isPointList (ap2 s_sp_isPointList) := fn_ok2 (l := l_s_sp_isPointList) Tryz.checked.mixed (And.intro ok_s_sp_inRange trivial) Tryz.func178 Tryz.call178 e_s_sp_isPointList
def h_s_sp_IsTrackedSet : Hint := .leaf
noncomputable def l_s_sp_IsTrackedSet : List (Nat × (List AVal → AM AVal)) := [(k_s_sp_IsValidPuzzle, ap1 s_sp_IsValidPuzzle), (k_s_sp_isPointList, ap2 s_sp_isPointList)]
theorem e_s_sp_IsTrackedSet (a0 a1 : AVal) : runF Tryz.prog (tab l_s_sp_IsTrackedSet) Tryz.f88 h_s_sp_IsTrackedSet [a0, a1] = s_sp_IsTrackedSet a0 a1 := by kernel_rfl
theorem ok_s_sp_IsTrackedSet : FnOK Tryz.prog k_s_sp_IsTrackedSet (ap2 s_sp_IsTrackedSet) := fn_ok2 (l := l_s_sp_IsTrackedSet) Tryz.checked.mixed (And.intro ok_s_sp_IsValidPuzzle (And.intro ok_s_sp_isPointList trivial)) Tryz.func88 Tryz.call88 e_s_sp_IsTrackedSet
def h_s_sp_listPrecedes : Hint := (.pair .leaf (.pair (.pair .leaf (.loop [5] [4] [.exit 0, .ret] (.pair .leaf (.pair (.pair (.draw [0, 1, 2, 3, 4, 5, 6, 7, 8]) (.pair (.pair (.draw [0, 1, 2, 3, 4, 5, 6, 7, 8, 9]) .leaf) .leaf)) .leaf)))) .leaf))
noncomputable def l_s_sp_listPrecedes : List (Nat × (List AVal → AM AVal)) := []
theorem e_s_sp_listPrecedes (a0 a1 : AVal) : runF Tryz.prog (tab l_s_sp_listPrecedes) Tryz.f305 h_s_sp_listPrecedes [a0, a1] = s_sp_listPrecedes a0 a1 := by kernel_rfl
theorem ok_s_sp_listPrecedes : FnOK Tryz.prog k_s_sp_listPrecedes (ap2 s_sp_listPrecedes) := fn_ok2 (l := l_s_sp_listPrecedes) Tryz.checked.mixed trivial Tryz.func305 Tryz.call305 e_s_sp_listPrecedes
def h_s_sp_searchSlot : Hint := (.pair .leaf (.pair .leaf (.pair .leaf (.pair (.loop [5, 6] [5] [.exit 0] (.pair .leaf (.pair .leaf (.pair (.draw [0, 1, 2, 3, 4, 5, 6, 7, 8, 9, 10]) (.join [5, 6] [.normal] .leaf .leaf))))) .leaf))))
noncomputable def l_s_sp_searchSlot : List (Nat × (List AVal → AM AVal)) := [(k_s_sp_listPrecedes, ap2 s_sp_listPrecedes)]
theorem e_s_sp_searchSlot (a0 a1 : AVal) : runF Tryz.prog (tab l_s_sp_searchSlot) Tryz.f280 h_s_sp_searchSlot [a0, a1] = s_sp_searchSlot a0 a1 := by kernel_rfl
theorem ok_s_sp_searchSlot : FnOK Tryz.prog k_s_sp_searchSlot (ap2 s_sp_searchSlot) := fn_ok2 (l := l_s_sp_searchSlot) Tryz.checked.mixed (And.intro ok_s_sp_listPrecedes trivial) Tryz.func280 Tryz.call280 e_s_sp_searchSlot
def h_s_sp_searchAdd : Hint := (.pair .leaf (.pair .leaf (.pair .leaf (.pair (.draw [0, 1, 2, 3, 4, 5, 6, 7, 8, 9]) .leaf))))
noncomputable def l_s_sp_searchAdd : List (Nat × (List AVal → AM AVal)) := [(k_s_sp_searchSlot, ap2 s_sp_searchSlot)]
theorem e_s_sp_searchAdd (a0 a1 a2 : AVal) : runF Tryz.prog (tab l_s_sp_searchAdd) Tryz.f293 h_s_sp_searchAdd [a0, a1, a2] = s_sp_searchAdd a0 a1 a2 := by kernel_rfl
theorem ok_s_sp_searchAdd : FnOK Tryz.prog k_s_sp_searchAdd (ap3 s_sp_searchAdd) := fn_ok3 (l := l_s_sp_searchAdd) Tryz.checked.mixed (And.intro ok_s_sp_searchSlot trivial) Tryz.func293 Tryz.call293 e_s_sp_searchAdd
def h_s_sp_lettersOf : Hint := (.pair .leaf (.pair .leaf (.pair (.pair .leaf (.loop [3, 4] [3] [.exit 0] .leaf)) .leaf)))
noncomputable def l_s_sp_lettersOf : List (Nat × (List AVal → AM AVal)) := []
theorem e_s_sp_lettersOf (a0 : AVal) : runF Tryz.prog (tab l_s_sp_lettersOf) Tryz.f230 h_s_sp_lettersOf [a0] = s_sp_lettersOf a0 := by kernel_rfl
theorem ok_s_sp_lettersOf : FnOK Tryz.prog k_s_sp_lettersOf (ap1 s_sp_lettersOf) := fn_ok1 (l := l_s_sp_lettersOf) Tryz.checked.mixed trivial Tryz.func230 Tryz.call230 e_s_sp_lettersOf
def h_s_sp_inverse : Hint := (.pair .leaf (.pair .leaf (.pair (.pair .leaf (.loop [4] [] [.exit 0] .leaf)) .leaf)))
noncomputable def l_s_sp_inverse : List (Nat × (List AVal → AM AVal)) := []
theorem e_s_sp_inverse (a0 : AVal) : runF Tryz.prog (tab l_s_sp_inverse) Tryz.f249 h_s_sp_inverse [a0] = s_sp_inverse a0 := by kernel_rfl
theorem ok_s_sp_inverse : FnOK Tryz.prog k_s_sp_inverse (ap1 s_sp_inverse) := fn_ok1 (l := l_s_sp_inverse) Tryz.checked.mixed trivial Tryz.func249 Tryz.call249 e_s_sp_inverse
def h_s_sp_Inverse : Hint := .leaf
noncomputable def l_s_sp_Inverse : List (Nat × (List AVal → AM AVal)) := [(k_s_sp_IsPermutation, ap1 s_sp_IsPermutation), (k_s_sp_inverse, ap1 s_sp_inverse)]
theorem e_s_sp_Inverse (a0 : AVal) : runF Tryz.prog (tab l_s_sp_Inverse) Tryz.f281 h_s_sp_Inverse [a0] = s_sp_Inverse a0 := by kernel_rfl
theorem ok_s_sp_Inverse : FnOK Tryz.prog k_s_sp_Inverse (ap1 s_sp_Inverse) := fn_ok1 (l := l_s_sp_Inverse) Tryz.checked.mixed (And.intro ok_s_sp_IsPermutation (And.intro ok_s_sp_inverse trivial)) Tryz.func281 Tryz.call281 e_s_sp_Inverse
def h_s_sp_applyLetter : Hint := (.pair .leaf (.pair .leaf (.pair (.pair .leaf (.join [7] [.normal] .leaf .leaf)) (.pair .leaf (.pair (.pair .leaf (.loop [8, 9] [8] [.exit 0] .leaf)) .leaf)))))
noncomputable def l_s_sp_applyLetter : List (Nat × (List AVal → AM AVal)) := [(k_s_sp_Inverse, ap1 s_sp_Inverse)]
theorem e_s_sp_applyLetter (a0 a1 a2 : AVal) : runF Tryz.prog (tab l_s_sp_applyLetter) Tryz.f231 h_s_sp_applyLetter [a0, a1, a2] = s_sp_applyLetter a0 a1 a2 := by kernel_rfl
theorem ok_s_sp_applyLetter : FnOK Tryz.prog k_s_sp_applyLetter (ap3 s_sp_applyLetter) := fn_ok3 (l := l_s_sp_applyLetter) Tryz.checked.mixed (And.intro ok_s_sp_Inverse trivial) Tryz.func231 Tryz.call231 e_s_sp_applyLetter
def h_s_sp_equalInts : Hint := (.pair .leaf (.pair .leaf (.pair (.pair .leaf (.loop [5] [4] [.exit 0, .ret] (.pair .leaf (.pair (.pair (.draw [0, 1, 2, 3, 4, 5, 6, 7, 8]) .leaf) .leaf)))) .leaf)))
noncomputable def l_s_sp_equalInts : List (Nat × (List AVal → AM AVal)) := []
theorem e_s_sp_equalInts (a0 a1 : AVal) : runF Tryz.prog (tab l_s_sp_equalInts) Tryz.f116 h_s_sp_equalInts [a0, a1] = s_sp_equalInts a0 a1 := by kernel_rfl
theorem ok_s_sp_equalInts : FnOK Tryz.prog k_s_sp_equalInts (ap2 s_sp_equalInts) := fn_ok2 (l := l_s_sp_equalInts) Tryz.checked.mixed trivial Tryz.func116 Tryz.call116 e_s_sp_equalInts
def h_s_sp_searchIndex : Hint := (.pair .leaf (.pair .leaf (.pair (.pair (.draw [0, 1, 2, 3, 4, 5, 6, 7, 8, 9, 10, 11, 12, 13, 14, 15, 16, 17]) .leaf) .leaf)))
noncomputable def l_s_sp_searchIndex : List (Nat × (List AVal → AM AVal)) := [(k_s_sp_searchSlot, ap2 s_sp_searchSlot), (k_s_sp_equalInts, ap2 s_sp_equalInts)]
theorem e_s_sp_searchIndex (a0 a1 : AVal) : runF Tryz.prog (tab l_s_sp_searchIndex) Tryz.f229 h_s_sp_searchIndex [a0, a1] = s_sp_searchIndex a0 a1 := by kernel_rfl
theorem ok_s_sp_searchIndex : FnOK Tryz.prog k_s_sp_searchIndex (ap2 s_sp_searchIndex) := fn_ok2 (l := l_s_sp_searchIndex) Tryz.checked.mixed (And.intro ok_s_sp_searchSlot (And.intro ok_s_sp_equalInts trivial)) Tryz.func229 Tryz.call229 e_s_sp_searchIndex
def h_s_sp_searchFrom : Hint := (.pair .leaf (.pair .leaf (.pair .leaf (.pair (.pair .leaf (.loop [7] [] [.exit 0, .ret] (.pair .leaf (.pair (.pair .leaf (.loop [8] [] [.exit 2, .ret] (.pair .leaf (.pair (.pair (.draw [0, 1, 2, 3, 4, 5, 6, 7, 8, 9, 10, 11]) (.pair .leaf (.pair .leaf (.draw [0, 1, 2, 3, 4, 5, 6, 7, 8, 9])))) .leaf)))) .leaf)))) .leaf))))
noncomputable def l_s_sp_searchFrom : List (Nat × (List AVal → AM AVal)) := [(k_s_sp_copyInts, ap1 s_sp_copyInts), (k_s_sp_searchAdd, ap3 s_sp_searchAdd), (k_s_sp_lettersOf, ap1 s_sp_lettersOf), (k_s_sp_applyLetter, ap3 s_sp_applyLetter), (k_s_sp_searchIndex, ap2 s_sp_searchIndex)]
theorem e_s_sp_searchFrom (a0 a1 : AVal) : runF Tryz.prog (tab l_s_sp_searchFrom) Tryz.f251 h_s_sp_searchFrom [a0, a1] = s_sp_searchFrom a0 a1 := by kernel_rfl
theorem ok_s_sp_searchFrom : FnOK Tryz.prog k_s_sp_searchFrom (ap2 s_sp_searchFrom) := fn_ok2 (l := l_s_sp_searchFrom) Tryz.checked.mixed (And.intro ok_s_sp_copyInts (And.intro ok_s_sp_searchAdd (And.intro ok_s_sp_lettersOf (And.intro ok_s_sp_applyLetter (And.intro ok_s_sp_searchIndex trivial))))) Tryz.func251 Tryz.call251 e_s_sp_searchFrom
def h_s_sp_searchPatterns : Hint := (.pair .leaf (.pair .leaf (.pair .leaf (.pair (.draw [0, 3, 1, 2, 4]) .leaf))))
noncomputable def l_s_sp_searchPatterns : List (Nat × (List AVal → AM AVal)) := [(k_s_sp_IsTrackedSet, ap2 s_sp_IsTrackedSet), (k_s_sp_searchFrom, ap2 s_sp_searchFrom)]
theorem e_s_sp_searchPatterns (a0 a1 : AVal) : runF Tryz.prog (tab l_s_sp_searchPatterns) Tryz.f204 h_s_sp_searchPatterns [a0, a1] = s_sp_searchPatterns a0 a1 := by kernel_rfl
theorem ok_s_sp_searchPatterns : FnOK Tryz.prog k_s_sp_searchPatterns (ap2 s_sp_searchPatterns) := fn_ok2 (l := l_s_sp_searchPatterns) Tryz.checked.mixed (And.intro ok_s_sp_IsTrackedSet (And.intro ok_s_sp_searchFrom trivial)) Tryz.func204 Tryz.call204 e_s_sp_searchPatterns
def h_s_sp_copyLists : Hint := (.pair .leaf (.pair .leaf (.pair (.pair .leaf (.loop [3, 4] [3] [.exit 0] .leaf)) .leaf)))
noncomputable def l_s_sp_copyLists : List (Nat × (List AVal → AM AVal)) := [(k_s_sp_copyInts, ap1 s_sp_copyInts)]
theorem e_s_sp_copyLists (a0 : AVal) : runF Tryz.prog (tab l_s_sp_copyLists) Tryz.f205 h_s_sp_copyLists [a0] = s_sp_copyLists a0 := by kernel_rfl
theorem ok_s_sp_copyLists : FnOK Tryz.prog k_s_sp_copyLists (ap1 s_sp_copyLists) := fn_ok1 (l := l_s_sp_copyLists) Tryz.checked.mixed (And.intro ok_s_sp_copyInts trivial) Tryz.func205 Tryz.call205 e_s_sp_copyLists
def h_s_sp_BuildTable : Hint := (.pair .leaf (.pair .leaf (.pair .leaf (.pair (.draw [0, 1, 2, 3, 4, 5, 6, 7, 8, 9, 10]) .leaf))))
noncomputable def l_s_sp_BuildTable : List (Nat × (List AVal → AM AVal)) := [(k_s_sp_searchPatterns, ap2 s_sp_searchPatterns), (k_s_sp_copyInts, ap1 s_sp_copyInts), (k_s_sp_copyLists, ap1 s_sp_copyLists)]
theorem e_s_sp_BuildTable (a0 a1 : AVal) : runF Tryz.prog (tab l_s_sp_BuildTable) Tryz.f114 h_s_sp_BuildTable [a0, a1] = s_sp_BuildTable a0 a1 := by kernel_rfl
theorem ok_s_sp_BuildTable : FnOK Tryz.prog k_s_sp_BuildTable (ap2 s_sp_BuildTable) := fn_ok2 (l := l_s_sp_BuildTable) Tryz.checked.mixed (And.intro ok_s_sp_searchPatterns (And.intro ok_s_sp_copyInts (And.intro ok_s_sp_copyLists trivial))) Tryz.func114 Tryz.call114 e_s_sp_BuildTable
def h_s_sp_l28Start : Hint := .leaf
noncomputable def l_s_sp_l28Start : List (Nat × (List AVal → AM AVal)) := [(k_s_sp_copyInts, ap1 s_sp_copyInts)]
theorem e_s_sp_l28Start (a0 : AVal) : runF Tryz.prog (tab l_s_sp_l28Start) Tryz.f286 h_s_sp_l28Start [a0] = s_sp_l28Start a0 := by kernel_rfl
theorem ok_s_sp_l28Start : FnOK Tryz.prog k_s_sp_l28Start (ap1 s_sp_l28Start) := fn_ok1 (l := l_s_sp_l28Start) Tryz.checked.mixed (And.intro ok_s_sp_copyInts trivial) Tryz.func286 Tryz.call286 e_s_sp_l28Start
def h_s_sp_StartFill : Hint := .leaf
noncomputable def l_s_sp_StartFill : List (Nat × (List AVal → AM AVal)) := [(k_s_sp_BuildTable, ap2 s_sp_BuildTable), (k_s_sp_l28Start, ap1 s_sp_l28Start)]
theorem e_s_sp_StartFill (a0 a1 : AVal) : runF Tryz.prog (tab l_s_sp_StartFill) Tryz.f235 h_s_sp_StartFill [a0, a1] = s_sp_StartFill a0 a1 := by kernel_rfl
theorem ok_s_sp_StartFill : FnOK Tryz.prog k_s_sp_StartFill (ap2 s_sp_StartFill) := fn_ok2 (l := l_s_sp_StartFill) Tryz.checked.mixed (And.intro ok_s_sp_BuildTable (And.intro ok_s_sp_l28Start trivial)) Tryz.func235 Tryz.call235 e_s_sp_StartFill
def h_s_sp_l28CopyTable : Hint := (.pair .leaf (.pair (.draw [0, 1, 2, 3, 4, 5, 6, 7, 8, 9, 10]) .leaf))
noncomputable def l_s_sp_l28CopyTable : List (Nat × (List AVal → AM AVal)) := [(k_s_sp_copyInts, ap1 s_sp_copyInts), (k_s_sp_copyLists, ap1 s_sp_copyLists)]
theorem e_s_sp_l28CopyTable (a0 : AVal) : runF Tryz.prog (tab l_s_sp_l28CopyTable) Tryz.f317 h_s_sp_l28CopyTable [a0] = s_sp_l28CopyTable a0 := by kernel_rfl
theorem ok_s_sp_l28CopyTable : FnOK Tryz.prog k_s_sp_l28CopyTable (ap1 s_sp_l28CopyTable) := fn_ok1 (l := l_s_sp_l28CopyTable) Tryz.checked.mixed (And.intro ok_s_sp_copyInts (And.intro ok_s_sp_copyLists trivial)) Tryz.func317 Tryz.call317 e_s_sp_l28CopyTable
def h_s_sp_l28Copy : Hint := (.pair .leaf (.pair (.draw [0, 1, 2, 3, 4, 5, 6, 7, 8, 9, 10]) .leaf))
noncomputable def l_s_sp_l28Copy : List (Nat × (List AVal → AM AVal)) := [(k_s_sp_l28CopyTable, ap1 s_sp_l28CopyTable)]
theorem e_s_sp_l28Copy (a0 : AVal) : runF Tryz.prog (tab l_s_sp_l28Copy) Tryz.f308 h_s_sp_l28Copy [a0] = s_sp_l28Copy a0 := by kernel_rfl
theorem ok_s_sp_l28Copy : FnOK Tryz.prog k_s_sp_l28Copy (ap1 s_sp_l28Copy) := fn_ok1 (l := l_s_sp_l28Copy) Tryz.checked.mixed (And.intro ok_s_sp_l28CopyTable trivial) Tryz.func308 Tryz.call308 e_s_sp_l28Copy
def h_s_sp_Letters : Hint := .leaf
noncomputable def l_s_sp_Letters : List (Nat × (List AVal → AM AVal)) := [(k_s_sp_IsValidPuzzle, ap1 s_sp_IsValidPuzzle), (k_s_sp_lettersOf, ap1 s_sp_lettersOf)]
theorem e_s_sp_Letters (a0 : AVal) : runF Tryz.prog (tab l_s_sp_Letters) Tryz.f167 h_s_sp_Letters [a0] = s_sp_Letters a0 := by kernel_rfl
theorem ok_s_sp_Letters : FnOK Tryz.prog k_s_sp_Letters (ap1 s_sp_Letters) := fn_ok1 (l := l_s_sp_Letters) Tryz.checked.mixed (And.intro ok_s_sp_IsValidPuzzle (And.intro ok_s_sp_lettersOf trivial)) Tryz.func167 Tryz.call167 e_s_sp_Letters
def h_s_sp_isDistinctList : Hint := (.pair .leaf (.pair .leaf (.pair (.pair .leaf (.loop [7] [6] [.exit 0, .ret] (.pair .leaf (.pair (.pair (.draw [0, 1, 2, 3, 4, 5, 6, 7, 8, 9, 10, 11, 12, 13, 14, 15, 16, 17]) .leaf) .leaf)))) .leaf)))
noncomputable def l_s_sp_isDistinctList : List (Nat × (List AVal → AM AVal)) := [(k_s_sp_inRange, ap3 s_sp_inRange), (k_s_sp_containsInt, ap2 s_sp_containsInt)]
theorem e_s_sp_isDistinctList (a0 a1 a2 : AVal) : runF Tryz.prog (tab l_s_sp_isDistinctList) Tryz.f179 h_s_sp_isDistinctList [a0, a1, a2] = s_sp_isDistinctList a0 a1 a2 := by kernel_rfl
theorem ok_s_sp_isDistinctList : FnOK Tryz.prog k_s_sp_isDistinctList (ap3 s_sp_isDistinctList) := fn_ok3 (l := l_s_sp_isDistinctList) Tryz.checked.mixed (And.intro ok_s_sp_inRange (And.intro ok_s_sp_containsInt trivial)) Tryz.func179 Tryz.call179 e_s_sp_isDistinctList
def h_s_sp_IsPattern : Hint := .leaf
noncomputable def l_s_sp_IsPattern : List (Nat × (List AVal → AM AVal)) := [(k_s_sp_IsTrackedSet, ap2 s_sp_IsTrackedSet), (k_s_sp_isDistinctList, ap3 s_sp_isDistinctList)]
theorem e_s_sp_IsPattern (a0 a1 a2 : AVal) : runF Tryz.prog (tab l_s_sp_IsPattern) Tryz.f165 h_s_sp_IsPattern [a0, a1, a2] = s_sp_IsPattern a0 a1 a2 := by kernel_rfl
theorem ok_s_sp_IsPattern : FnOK Tryz.prog k_s_sp_IsPattern (ap3 s_sp_IsPattern) := fn_ok3 (l := l_s_sp_IsPattern) Tryz.checked.mixed (And.intro ok_s_sp_IsTrackedSet (And.intro ok_s_sp_isDistinctList trivial)) Tryz.func165 Tryz.call165 e_s_sp_IsPattern
def h_s_sp_isWordOf : Hint := (.pair .leaf (.pair .leaf (.pair (.pair .leaf (.loop [5] [4] [.exit 0, .ret] .leaf)) .leaf)))
noncomputable def l_s_sp_isWordOf : List (Nat × (List AVal → AM AVal)) := [(k_s_sp_inRange, ap3 s_sp_inRange)]
theorem e_s_sp_isWordOf (a0 a1 : AVal) : runF Tryz.prog (tab l_s_sp_isWordOf) Tryz.f125 h_s_sp_isWordOf [a0, a1] = s_sp_isWordOf a0 a1 := by kernel_rfl
theorem ok_s_sp_isWordOf : FnOK Tryz.prog k_s_sp_isWordOf (ap2 s_sp_isWordOf) := fn_ok2 (l := l_s_sp_isWordOf) Tryz.checked.mixed (And.intro ok_s_sp_inRange trivial) Tryz.func125 Tryz.call125 e_s_sp_isWordOf
def h_s_sp_IsValidWord : Hint := .leaf
noncomputable def l_s_sp_IsValidWord : List (Nat × (List AVal → AM AVal)) := [(k_s_sp_isWordOf, ap2 s_sp_isWordOf)]
theorem e_s_sp_IsValidWord (a0 a1 : AVal) : runF Tryz.prog (tab l_s_sp_IsValidWord) Tryz.f290 h_s_sp_IsValidWord [a0, a1] = s_sp_IsValidWord a0 a1 := by kernel_rfl
theorem ok_s_sp_IsValidWord : FnOK Tryz.prog k_s_sp_IsValidWord (ap2 s_sp_IsValidWord) := fn_ok2 (l := l_s_sp_IsValidWord) Tryz.checked.mixed (And.intro ok_s_sp_isWordOf trivial) Tryz.func290 Tryz.call290 e_s_sp_IsValidWord
def h_s_sp_applyLetters : Hint := (.pair .leaf (.pair .leaf (.pair (.pair .leaf (.loop [7, 8] [7] [.exit 0] (.pair .leaf (.pair (.draw [0, 1, 2, 3, 4, 5, 6, 7]) .leaf)))) .leaf)))
noncomputable def l_s_sp_applyLetters : List (Nat × (List AVal → AM AVal)) := [(k_s_sp_copyInts, ap1 s_sp_copyInts), (k_s_sp_applyLetter, ap3 s_sp_applyLetter)]
theorem e_s_sp_applyLetters (a0 a1 a2 : AVal) : runF Tryz.prog (tab l_s_sp_applyLetters) Tryz.f146 h_s_sp_applyLetters [a0, a1, a2] = s_sp_applyLetters a0 a1 a2 := by kernel_rfl
theorem ok_s_sp_applyLetters : FnOK Tryz.prog k_s_sp_applyLetters (ap3 s_sp_applyLetters) := fn_ok3 (l := l_s_sp_applyLetters) Tryz.checked.mixed (And.intro ok_s_sp_copyInts (And.intro ok_s_sp_applyLetter trivial)) Tryz.func146 Tryz.call146 e_s_sp_applyLetters
def h_s_sp_PatternAfter : Hint := .leaf
noncomputable def l_s_sp_PatternAfter : List (Nat × (List AVal → AM AVal)) := [(k_s_sp_IsPattern, ap3 s_sp_IsPattern), (k_s_sp_IsValidWord, ap2 s_sp_IsValidWord), (k_s_sp_applyLetters, ap3 s_sp_applyLetters)]
theorem e_s_sp_PatternAfter (a0 a1 a2 a3 : AVal) : runF Tryz.prog (tab l_s_sp_PatternAfter) Tryz.f244 h_s_sp_PatternAfter [a0, a1, a2, a3] = s_sp_PatternAfter a0 a1 a2 a3 := by kernel_rfl
theorem ok_s_sp_PatternAfter : FnOK Tryz.prog k_s_sp_PatternAfter (ap4 s_sp_PatternAfter) := fn_ok4 (l := l_s_sp_PatternAfter) Tryz.checked.mixed (And.intro ok_s_sp_IsPattern (And.intro ok_s_sp_IsValidWord (And.intro ok_s_sp_applyLetters trivial))) Tryz.func244 Tryz.call244 e_s_sp_PatternAfter
def h_s_sp_indexOfList : Hint := (.pair .leaf (.pair (.pair .leaf (.loop [5] [4] [.exit 0, .ret] .leaf)) .leaf))
noncomputable def l_s_sp_indexOfList : List (Nat × (List AVal → AM AVal)) := [(k_s_sp_equalInts, ap2 s_sp_equalInts)]
theorem e_s_sp_indexOfList (a0 a1 : AVal) : runF Tryz.prog (tab l_s_sp_indexOfList) Tryz.f166 h_s_sp_indexOfList [a0, a1] = s_sp_indexOfList a0 a1 := by kernel_rfl
theorem ok_s_sp_indexOfList : FnOK Tryz.prog k_s_sp_indexOfList (ap2 s_sp_indexOfList) := fn_ok2 (l := l_s_sp_indexOfList) Tryz.checked.mixed (And.intro ok_s_sp_equalInts trivial) Tryz.func166 Tryz.call166 e_s_sp_indexOfList
def h_s_sp_l28Record : Hint := (.pair .leaf (.pair .leaf (.pair (.pair .leaf (.loop [5, 6] [5] [.exit 0] (.pair .leaf (.pair (.pair .leaf (.loop [5, 7] [5] [.exit 2] .leaf)) .leaf)))) .leaf)))
noncomputable def l_s_sp_l28Record : List (Nat × (List AVal → AM AVal)) := []
theorem e_s_sp_l28Record (a0 a1 : AVal) : runF Tryz.prog (tab l_s_sp_l28Record) Tryz.f309 h_s_sp_l28Record [a0, a1] = s_sp_l28Record a0 a1 := by kernel_rfl
theorem ok_s_sp_l28Record : FnOK Tryz.prog k_s_sp_l28Record (ap2 s_sp_l28Record) := fn_ok2 (l := l_s_sp_l28Record) Tryz.checked.mixed trivial Tryz.func309 Tryz.call309 e_s_sp_l28Record
def h_s_sp_Checksum : Hint := (.pair .leaf (.pair .leaf (.pair .leaf (.pair (.pair .leaf (.loop [3, 4, 5] [3, 4] [.exit 0] .leaf)) .leaf))))
noncomputable def l_s_sp_Checksum : List (Nat × (List AVal → AM AVal)) := []
theorem e_s_sp_Checksum (a0 : AVal) : runF Tryz.prog (tab l_s_sp_Checksum) Tryz.f311 h_s_sp_Checksum [a0] = s_sp_Checksum a0 := by kernel_rfl
theorem ok_s_sp_Checksum : FnOK Tryz.prog k_s_sp_Checksum (ap1 s_sp_Checksum) := fn_ok1 (l := l_s_sp_Checksum) Tryz.checked.mixed trivial Tryz.func311 Tryz.call311 e_s_sp_Checksum
def h_s_sp_l29Uint32 : Hint := .leaf
noncomputable def l_s_sp_l29Uint32 : List (Nat × (List AVal → AM AVal)) := []
theorem e_s_sp_l29Uint32 (a0 : AVal) : runF Tryz.prog (tab l_s_sp_l29Uint32) Tryz.f310 h_s_sp_l29Uint32 [a0] = s_sp_l29Uint32 a0 := by kernel_rfl
theorem ok_s_sp_l29Uint32 : FnOK Tryz.prog k_s_sp_l29Uint32 (ap1 s_sp_l29Uint32) := fn_ok1 (l := l_s_sp_l29Uint32) Tryz.checked.mixed trivial Tryz.func310 Tryz.call310 e_s_sp_l29Uint32
def h_s_sp_l28Expand : Hint := (.pair .leaf (.pair .leaf (.pair .leaf (.pair .leaf (.pair .leaf (.pair (.pair .leaf (.loop [8, 9] [8] [.exit 0] (.pair .leaf (.pair (.pair (.draw [0, 1, 2, 3, 4, 5, 6, 7, 8, 9, 10, 11, 12, 13, 14, 15]) (.pair .leaf (.join [8] [.normal] (.pair .leaf (.pair (.draw [0, 1, 2, 3, 4, 5, 6, 7, 8, 9, 10, 11, 12, 13, 14, 15]) .leaf)) .leaf))) .leaf)))) (.pair .leaf (.pair (.draw [4, 5, 6, 0, 1, 2, 3, 7, 8, 9]) .leaf))))))))
noncomputable def l_s_sp_l28Expand : List (Nat × (List AVal → AM AVal)) := [(k_s_sp_l28Copy, ap1 s_sp_l28Copy), (k_s_sp_Letters, ap1 s_sp_Letters), (k_s_sp_PatternAfter, ap4 s_sp_PatternAfter), (k_s_sp_indexOfList, ap2 s_sp_indexOfList), (k_s_sp_l28Record, ap2 s_sp_l28Record), (k_s_sp_Checksum, ap1 s_sp_Checksum), (k_s_sp_l29Uint32, ap1 s_sp_l29Uint32)]
theorem e_s_sp_l28Expand (a0 a1 : AVal) : runF Tryz.prog (tab l_s_sp_l28Expand) Tryz.f287 h_s_sp_l28Expand [a0, a1] = s_sp_l28Expand a0 a1 := by kernel_rfl
theorem ok_s_sp_l28Expand : FnOK Tryz.prog k_s_sp_l28Expand (ap2 s_sp_l28Expand) := fn_ok2 (l := l_s_sp_l28Expand) Tryz.checked.mixed (And.intro ok_s_sp_l28Copy (And.intro ok_s_sp_Letters (And.intro ok_s_sp_PatternAfter (And.intro ok_s_sp_indexOfList (And.intro ok_s_sp_l28Record (And.intro ok_s_sp_Checksum (And.intro ok_s_sp_l29Uint32 trivial))))))) Tryz.func287 Tryz.call287 e_s_sp_l28Expand
def h_s_sp_l28Step : Hint := .leaf
noncomputable def l_s_sp_l28Step : List (Nat × (List AVal → AM AVal)) := [(k_s_sp_l28Expand, ap2 s_sp_l28Expand)]
theorem e_s_sp_l28Step (a0 a1 : AVal) : runF Tryz.prog (tab l_s_sp_l28Step) Tryz.f236 h_s_sp_l28Step [a0, a1] = s_sp_l28Step a0 a1 := by kernel_rfl
theorem ok_s_sp_l28Step : FnOK Tryz.prog k_s_sp_l28Step (ap2 s_sp_l28Step) := fn_ok2 (l := l_s_sp_l28Step) Tryz.checked.mixed (And.intro ok_s_sp_l28Expand trivial) Tryz.func236 Tryz.call236 e_s_sp_l28Step
def h_s_sp_between : Hint := .leaf
noncomputable def l_s_sp_between : List (Nat × (List AVal → AM AVal)) := [(k_s_sp_below, ap2 s_sp_below)]
theorem e_s_sp_between (a0 a1 a2 : AVal) : runF Tryz.prog (tab l_s_sp_between) Tryz.f154 h_s_sp_between [a0, a1, a2] = s_sp_between a0 a1 a2 := by kernel_rfl
theorem ok_s_sp_between : FnOK Tryz.prog k_s_sp_between (ap3 s_sp_between) := fn_ok3 (l := l_s_sp_between) Tryz.checked.mixed (And.intro ok_s_sp_below trivial) Tryz.func154 Tryz.call154 e_s_sp_between
def h_s_sp_corrupt : Hint := (.pair .leaf (.pair .leaf (.pair (.pair .leaf (.loop [7, 8] [7] [.exit 0] (.pair .leaf (.pair (.pair .leaf (.pair .leaf (.pair .leaf (.join [7] [.normal] .leaf (.pair .leaf (.join [7] [.normal] .leaf (.pair .leaf (.join [7] [.normal] (.draw [0, 1, 2, 3, 4, 5, 6, 7, 8, 9, 10]) (.pair .leaf (.join [7] [.normal] (.draw [0, 1, 2, 3, 4, 6, 7, 8, 9, 5, 10, 11, 12, 13, 14, 15, 16, 17]) .leaf)))))))))) .leaf)))) .leaf)))
noncomputable def l_s_sp_corrupt : List (Nat × (List AVal → AM AVal)) := [(k_s_sp_below, ap2 s_sp_below)]
theorem e_s_sp_corrupt (a0 a1 a2 : AVal) : runF Tryz.prog (tab l_s_sp_corrupt) Tryz.f237 h_s_sp_corrupt [a0, a1, a2] = s_sp_corrupt a0 a1 a2 := by kernel_rfl
theorem ok_s_sp_corrupt : FnOK Tryz.prog k_s_sp_corrupt (ap3 s_sp_corrupt) := fn_ok3 (l := l_s_sp_corrupt) Tryz.checked.mixed (And.intro ok_s_sp_below trivial) Tryz.func237 Tryz.call237 e_s_sp_corrupt
def h_s_sp_l28Draw : Hint := (.pair .leaf (.pair .leaf (.pair .leaf (.pair (.pair .leaf (.join [5] [.normal] .leaf .leaf)) (.pair .leaf (.pair (.pair .leaf (.pair (.pair (.draw [0, 2, 1, 3]) .leaf) .leaf)) (.pair (.pair .leaf (.loop [8] [] [.exit 0] (.pair .leaf (.pair (.pair .leaf (.pair .leaf (.join [] [.normal] .leaf .leaf))) .leaf)))) (.pair (.pair .leaf (.join [] [.normal] (.pair .leaf (.pair .leaf (.join [] [.normal] (.draw [2, 3, 0, 1, 4, 5, 6]) (.pair .leaf (.join [] [.normal] .leaf (.pair .leaf (.join [] [.normal] .leaf (.pair .leaf (.join [] [.normal] (.draw [3, 4, 0, 1, 2, 5, 6]) (.pair .leaf (.join [] [.normal] (.draw [3, 4, 0, 1, 2, 5, 6, 7, 8, 9]) (.pair .leaf (.join [] [.normal] (.draw [3, 4, 0, 1, 2, 5, 6]) .leaf))))))))))))) .leaf)) (.pair (.draw [0, 2, 1, 3]) .leaf)))))))))
noncomputable def l_s_sp_l28Draw : List (Nat × (List AVal → AM AVal)) := [(k_s_sp_l24DrawPuzzle, ap1 s_sp_l24DrawPuzzle), (k_s_sp_below, ap2 s_sp_below), (k_s_sp_oneIn, ap2 s_sp_oneIn), (k_s_sp_StartFill, ap2 s_sp_StartFill), (k_s_sp_l28Step, ap2 s_sp_l28Step), (k_s_sp_between, ap3 s_sp_between), (k_s_sp_corrupt, ap3 s_sp_corrupt), (k_s_sp_copyInts, ap1 s_sp_copyInts)]
theorem e_s_sp_l28Draw (a0 : AVal) : runF Tryz.prog (tab l_s_sp_l28Draw) Tryz.f151 h_s_sp_l28Draw [a0] = s_sp_l28Draw a0 := by kernel_rfl
theorem ok_s_sp_l28Draw : FnOK Tryz.prog k_s_sp_l28Draw (ap1 s_sp_l28Draw) := fn_ok1 (l := l_s_sp_l28Draw) Tryz.checked.mixed (And.intro ok_s_sp_l24DrawPuzzle (And.intro ok_s_sp_below (And.intro ok_s_sp_oneIn (And.intro ok_s_sp_StartFill (And.intro ok_s_sp_l28Step (And.intro ok_s_sp_between (And.intro ok_s_sp_corrupt (And.intro ok_s_sp_copyInts trivial)))))))) Tryz.func151 Tryz.call151 e_s_sp_l28Draw
def h_s_sp_l30Draw : Hint := (.pair .leaf (.pair .leaf (.pair .leaf (.pair (.pair .leaf (.pair (.pair (.draw [0, 3, 1, 2, 4]) .leaf) .leaf)) (.pair (.pair .leaf (.pair .leaf (.join [] [.normal] (.pair .leaf (.pair .leaf (.pair .leaf (.pair (.draw [0, 1, 2, 3, 4, 5, 6, 7, 8, 9]) (.pair .leaf (.pair .leaf (.join [] [.normal] (.pair .leaf (.pair (.draw [0, 1, 2, 3, 4, 5, 6, 7, 8, 9]) .leaf)) .leaf))))))) .leaf))) (.pair .leaf (.pair (.pair .leaf (.pair .leaf (.join [] [.normal] (.draw [8, 9, 0, 1, 2, 3, 4, 5, 6, 7, 10, 11, 12]) (.pair .leaf (.join [] [.normal] .leaf (.pair .leaf (.join [] [.normal] (.pair (.draw [2, 3, 4, 5, 6, 7, 0, 1, 8, 9, 10, 11]) (.draw [7, 8, 0, 1, 2, 3, 4, 5, 6, 9, 10, 11, 12, 13])) (.pair .leaf (.join [] [.normal] (.pair .leaf (.loop [14] [] [.exit 1] (.pair .leaf (.pair (.draw [0, 1, 2, 3, 4, 5, 6, 7, 8, 9, 10]) .leaf)))) (.pair .leaf (.join [] [.normal] (.pair .leaf (.join [] [.normal] (.draw [3, 4, 0, 1, 2, 5, 6, 7]) .leaf)) .leaf))))))))))) (.pair (.draw [0, 2, 1, 3]) .leaf))))))))
noncomputable def l_s_sp_l30Draw : List (Nat × (List AVal → AM AVal)) := [(k_s_sp_l28Draw, ap1 s_sp_l28Draw), (k_s_sp_BuildTable, ap2 s_sp_BuildTable), (k_s_sp_oneIn, ap2 s_sp_oneIn), (k_s_sp_below, ap2 s_sp_below), (k_s_sp_between, ap3 s_sp_between), (k_s_sp_copyInts, ap1 s_sp_copyInts)]
theorem e_s_sp_l30Draw (a0 : AVal) : runF Tryz.prog (tab l_s_sp_l30Draw) Tryz.f76 h_s_sp_l30Draw [a0] = s_sp_l30Draw a0 := by kernel_rfl
theorem ok_s_sp_l30Draw : FnOK Tryz.prog k_s_sp_l30Draw (ap1 s_sp_l30Draw) := fn_ok1 (l := l_s_sp_l30Draw) Tryz.checked.mixed (And.intro ok_s_sp_l28Draw (And.intro ok_s_sp_BuildTable (And.intro ok_s_sp_oneIn (And.intro ok_s_sp_below (And.intro ok_s_sp_between (And.intro ok_s_sp_copyInts trivial)))))) Tryz.func76 Tryz.call76 e_s_sp_l30Draw
def h_s_sp_DrawIsAdmissibleTable : Hint := .leaf
noncomputable def l_s_sp_DrawIsAdmissibleTable : List (Nat × (List AVal → AM AVal)) := [(k_s_sp_newSource, ap1 s_sp_newSource), (k_s_sp_l30Draw, ap1 s_sp_l30Draw)]
theorem e_s_sp_DrawIsAdmissibleTable (a0 : AVal) : runF Tryz.prog (tab l_s_sp_DrawIsAdmissibleTable) Tryz.f30 h_s_sp_DrawIsAdmissibleTable [a0] = s_sp_DrawIsAdmissibleTable a0 := by kernel_rfl
theorem ok_s_sp_DrawIsAdmissibleTable : FnOK Tryz.prog k_s_sp_DrawIsAdmissibleTable (ap1 s_sp_DrawIsAdmissibleTable) := fn_ok1 (l := l_s_sp_DrawIsAdmissibleTable) Tryz.checked.mixed (And.intro ok_s_sp_newSource (And.intro ok_s_sp_l30Draw trivial)) Tryz.func30 Tryz.call30 e_s_sp_DrawIsAdmissibleTable
def h_s_im_within : Hint := .leaf
noncomputable def l_s_im_within : List (Nat × (List AVal → AM AVal)) := []
theorem e_s_im_within (a0 a1 a2 : AVal) : runF Tryz.prog (tab l_s_im_within) Tryz.f110 h_s_im_within [a0, a1, a2] = s_im_within a0 a1 a2 := by kernel_rfl
theorem ok_s_im_within : FnOK Tryz.prog k_s_im_within (ap3 s_im_within) := fn_ok3 (l := l_s_im_within) Tryz.checked.mixed trivial Tryz.func110 Tryz.call110 e_s_im_within
def h_s_im_length_int64 : Hint := .leaf
noncomputable def l_s_im_length_int64 : List (Nat × (List AVal → AM AVal)) := []
theorem e_s_im_length_int64 (a0 : AVal) : runF Tryz.prog (tab l_s_im_length_int64) Tryz.f96 h_s_im_length_int64 [a0] = s_im_length_int64 a0 := by kernel_rfl
theorem ok_s_im_length_int64 : FnOK Tryz.prog k_s_im_length_int64 (ap1 s_im_length_int64) := fn_ok1 (l := l_s_im_length_int64) Tryz.checked.mixed trivial Tryz.func96 Tryz.call96 e_s_im_length_int64
def h_s_im_IsPermutation : Hint := (.pair .leaf (.pair .leaf (.pair .leaf (.pair (.pair .leaf (.loop [3, 12] [2, 3] [.exit 0, .ret] .leaf)) .leaf))))
noncomputable def l_s_im_IsPermutation : List (Nat × (List AVal → AM AVal)) := [(k_s_im_length_int64, ap1 s_im_length_int64), (k_s_im_within, ap3 s_im_within)]
theorem e_s_im_IsPermutation (a0 : AVal) : runF Tryz.prog (tab l_s_im_IsPermutation) Tryz.f252 h_s_im_IsPermutation [a0] = s_im_IsPermutation a0 := by kernel_rfl
theorem ok_s_im_IsPermutation : FnOK Tryz.prog k_s_im_IsPermutation (ap1 s_im_IsPermutation) := fn_ok1 (l := l_s_im_IsPermutation) Tryz.checked.mixed (And.intro ok_s_im_length_int64 (And.intro ok_s_im_within trivial)) Tryz.func252 Tryz.call252 e_s_im_IsPermutation
def h_s_im_IsGeneratorSet_1 : Hint := (.pair .leaf (.pair (.draw [0, 1, 2, 3, 4, 5, 6, 7, 8, 9]) .leaf))
noncomputable def l_s_im_IsGeneratorSet_1 : List (Nat × (List AVal → AM AVal)) := [(k_s_im_length_int64, ap1 s_im_length_int64), (k_s_im_IsPermutation, ap1 s_im_IsPermutation)]
theorem e_s_im_IsGeneratorSet_1 (a0 a1 : AVal) : runF Tryz.prog (tab l_s_im_IsGeneratorSet_1) Tryz.f289 h_s_im_IsGeneratorSet_1 [a0, a1] = s_im_IsGeneratorSet_1 a0 a1 := by kernel_rfl
theorem ok_s_im_IsGeneratorSet_1 : FnOK Tryz.prog k_s_im_IsGeneratorSet_1 (ap2 s_im_IsGeneratorSet_1) := fn_ok2 (l := l_s_im_IsGeneratorSet_1) Tryz.checked.mixed (And.intro ok_s_im_length_int64 (And.intro ok_s_im_IsPermutation trivial)) Tryz.func289 Tryz.call289 e_s_im_IsGeneratorSet_1
def h_s_Pim_proof_entryFaults_1 : Hint := (.pair .leaf (.join [] [.normal] .leaf .leaf))
noncomputable def l_s_Pim_proof_entryFaults_1 : List (Nat × (List AVal → AM AVal)) := []
theorem e_s_Pim_proof_entryFaults_1 (a0 a1 a2 a3 a4 : AVal) : runF Tryz.prog (tab l_s_Pim_proof_entryFaults_1) Tryz.f162 h_s_Pim_proof_entryFaults_1 [a0, a1, a2, a3, a4] = s_Pim_proof_entryFaults_1 a0 a1 a2 a3 a4 := by kernel_rfl
theorem ok_s_Pim_proof_entryFaults_1 : FnOK Tryz.prog k_s_Pim_proof_entryFaults_1 (ap5 s_Pim_proof_entryFaults_1) := fn_ok5 (l := l_s_Pim_proof_entryFaults_1) Tryz.checked.mixed trivial Tryz.func162 Tryz.call162 e_s_Pim_proof_entryFaults_1
def h_s_slices_IndexFunc_SSint64_Sint64 : Hint := (.pair .leaf (.pair (.pair .leaf (.loop [8] [4] [.exit 0, .ret] .leaf)) .leaf))
noncomputable def l_s_slices_IndexFunc_SSint64_Sint64 : List (Nat × (List AVal → AM AVal)) := [(k_s_Pim_proof_entryFaults_1, ap5 s_Pim_proof_entryFaults_1), (k_s_im_IsGeneratorSet_1, ap2 s_im_IsGeneratorSet_1)]
theorem e_s_slices_IndexFunc_SSint64_Sint64 (a0 a1 : AVal) : runF Tryz.prog (tab l_s_slices_IndexFunc_SSint64_Sint64) Tryz.f312 h_s_slices_IndexFunc_SSint64_Sint64 [a0, a1] = s_slices_IndexFunc_SSint64_Sint64 a0 a1 := by kernel_rfl
theorem ok_s_slices_IndexFunc_SSint64_Sint64 : FnOK Tryz.prog k_s_slices_IndexFunc_SSint64_Sint64 (ap2 s_slices_IndexFunc_SSint64_Sint64) := fn_ok2 (l := l_s_slices_IndexFunc_SSint64_Sint64) Tryz.checked.mixed (And.intro ok_s_Pim_proof_entryFaults_1 (And.intro ok_s_im_IsGeneratorSet_1 trivial)) Tryz.func312 Tryz.call312 e_s_slices_IndexFunc_SSint64_Sint64
def h_s_slices_ContainsFunc_SSint64_Sint64 : Hint := .leaf
noncomputable def l_s_slices_ContainsFunc_SSint64_Sint64 : List (Nat × (List AVal → AM AVal)) := [(k_s_slices_IndexFunc_SSint64_Sint64, ap2 s_slices_IndexFunc_SSint64_Sint64)]
theorem e_s_slices_ContainsFunc_SSint64_Sint64 (a0 a1 : AVal) : runF Tryz.prog (tab l_s_slices_ContainsFunc_SSint64_Sint64) Tryz.f288 h_s_slices_ContainsFunc_SSint64_Sint64 [a0, a1] = s_slices_ContainsFunc_SSint64_Sint64 a0 a1 := by kernel_rfl
theorem ok_s_slices_ContainsFunc_SSint64_Sint64 : FnOK Tryz.prog k_s_slices_ContainsFunc_SSint64_Sint64 (ap2 s_slices_ContainsFunc_SSint64_Sint64) := fn_ok2 (l := l_s_slices_ContainsFunc_SSint64_Sint64) Tryz.checked.mixed (And.intro ok_s_slices_IndexFunc_SSint64_Sint64 trivial) Tryz.func288 Tryz.call288 e_s_slices_ContainsFunc_SSint64_Sint64
def h_s_im_IsGeneratorSet : Hint := .leaf
noncomputable def l_s_im_IsGeneratorSet : List (Nat × (List AVal → AM AVal)) := [(k_s_im_within, ap3 s_im_within), (k_s_im_IsGeneratorSet_1, ap2 s_im_IsGeneratorSet_1), (k_s_slices_ContainsFunc_SSint64_Sint64, ap2 s_slices_ContainsFunc_SSint64_Sint64)]
theorem e_s_im_IsGeneratorSet (a0 a1 : AVal) : runF Tryz.prog (tab l_s_im_IsGeneratorSet) Tryz.f239 h_s_im_IsGeneratorSet [a0, a1] = s_im_IsGeneratorSet a0 a1 := by kernel_rfl
theorem ok_s_im_IsGeneratorSet : FnOK Tryz.prog k_s_im_IsGeneratorSet (ap2 s_im_IsGeneratorSet) := fn_ok2 (l := l_s_im_IsGeneratorSet) Tryz.checked.mixed (And.intro ok_s_im_within (And.intro ok_s_im_IsGeneratorSet_1 (And.intro ok_s_slices_ContainsFunc_SSint64_Sint64 trivial))) Tryz.func239 Tryz.call239 e_s_im_IsGeneratorSet
def h_s_im_isNames : Hint := (.pair .leaf (.pair (.pair .leaf (.loop [7] [2] [.exit 0, .ret] (.pair .leaf (.pair .leaf (.pair (.pair .leaf (.pair .leaf (.pair .leaf (.loop [17] [2] [.exit 2, .ret] (.pair .leaf (.pair .leaf (.pair (.pair .leaf (.pair (.draw [0, 1, 2, 3, 4, 5, 6]) .leaf)) .leaf))))))) .leaf))))) .leaf))
noncomputable def l_s_im_isNames : List (Nat × (List AVal → AM AVal)) := [(k_s_im_within, ap3 s_im_within)]
theorem e_s_im_isNames (a0 : AVal) : runF Tryz.prog (tab l_s_im_isNames) Tryz.f240 h_s_im_isNames [a0] = s_im_isNames a0 := by kernel_rfl
theorem ok_s_im_isNames : FnOK Tryz.prog k_s_im_isNames (ap1 s_im_isNames) := fn_ok1 (l := l_s_im_isNames) Tryz.checked.mixed (And.intro ok_s_im_within trivial) Tryz.func240 Tryz.call240 e_s_im_isNames
def h_s_im_IsValidPuzzle : Hint := .leaf
noncomputable def l_s_im_IsValidPuzzle : List (Nat × (List AVal → AM AVal)) := [(k_s_im_IsGeneratorSet, ap2 s_im_IsGeneratorSet), (k_s_im_isNames, ap1 s_im_isNames)]
theorem e_s_im_IsValidPuzzle (a0 : AVal) : runF Tryz.prog (tab l_s_im_IsValidPuzzle) Tryz.f155 h_s_im_IsValidPuzzle [a0] = s_im_IsValidPuzzle a0 := by kernel_rfl
theorem ok_s_im_IsValidPuzzle : FnOK Tryz.prog k_s_im_IsValidPuzzle (ap1 s_im_IsValidPuzzle) := fn_ok1 (l := l_s_im_IsValidPuzzle) Tryz.checked.mixed (And.intro ok_s_im_IsGeneratorSet (And.intro ok_s_im_isNames trivial)) Tryz.func155 Tryz.call155 e_s_im_IsValidPuzzle
def h_s_im_isPoint : Hint := .leaf
noncomputable def l_s_im_isPoint : List (Nat × (List AVal → AM AVal)) := [(k_s_im_within, ap3 s_im_within)]
theorem e_s_im_isPoint (a0 a1 : AVal) : runF Tryz.prog (tab l_s_im_isPoint) Tryz.f241 h_s_im_isPoint [a0, a1] = s_im_isPoint a0 a1 := by kernel_rfl
theorem ok_s_im_isPoint : FnOK Tryz.prog k_s_im_isPoint (ap2 s_im_isPoint) := fn_ok2 (l := l_s_im_isPoint) Tryz.checked.mixed (And.intro ok_s_im_within trivial) Tryz.func241 Tryz.call241 e_s_im_isPoint
def h_s_im_isTracked : Hint := (.pair .leaf (.pair (.pair .leaf (.loop [9] [4] [.exit 0, .ret] .leaf)) .leaf))
noncomputable def l_s_im_isTracked : List (Nat × (List AVal → AM AVal)) := [(k_s_im_isPoint, ap2 s_im_isPoint)]
theorem e_s_im_isTracked (a0 a1 : AVal) : runF Tryz.prog (tab l_s_im_isTracked) Tryz.f157 h_s_im_isTracked [a0, a1] = s_im_isTracked a0 a1 := by kernel_rfl
theorem ok_s_im_isTracked : FnOK Tryz.prog k_s_im_isTracked (ap2 s_im_isTracked) := fn_ok2 (l := l_s_im_isTracked) Tryz.checked.mixed (And.intro ok_s_im_isPoint trivial) Tryz.func157 Tryz.call157 e_s_im_isTracked
def h_s_im_length_Sint64 : Hint := .leaf
noncomputable def l_s_im_length_Sint64 : List (Nat × (List AVal → AM AVal)) := []
theorem e_s_im_length_Sint64 (a0 : AVal) : runF Tryz.prog (tab l_s_im_length_Sint64) Tryz.f111 h_s_im_length_Sint64 [a0] = s_im_length_Sint64 a0 := by kernel_rfl
theorem ok_s_im_length_Sint64 : FnOK Tryz.prog k_s_im_length_Sint64 (ap1 s_im_length_Sint64) := fn_ok1 (l := l_s_im_length_Sint64) Tryz.checked.mixed trivial Tryz.func111 Tryz.call111 e_s_im_length_Sint64
def h_s_slices_Index_Sint64_int64 : Hint := (.pair .leaf (.pair (.pair .leaf (.loop [8] [4] [.exit 0, .ret] .leaf)) .leaf))
noncomputable def l_s_slices_Index_Sint64_int64 : List (Nat × (List AVal → AM AVal)) := []
theorem e_s_slices_Index_Sint64_int64 (a0 a1 : AVal) : runF Tryz.prog (tab l_s_slices_Index_Sint64_int64) Tryz.f278 h_s_slices_Index_Sint64_int64 [a0, a1] = s_slices_Index_Sint64_int64 a0 a1 := by kernel_rfl
theorem ok_s_slices_Index_Sint64_int64 : FnOK Tryz.prog k_s_slices_Index_Sint64_int64 (ap2 s_slices_Index_Sint64_int64) := fn_ok2 (l := l_s_slices_Index_Sint64_int64) Tryz.checked.mixed trivial Tryz.func278 Tryz.call278 e_s_slices_Index_Sint64_int64
def h_s_slices_Contains_Sint64_int64 : Hint := .leaf
noncomputable def l_s_slices_Contains_Sint64_int64 : List (Nat × (List AVal → AM AVal)) := [(k_s_slices_Index_Sint64_int64, ap2 s_slices_Index_Sint64_int64)]
theorem e_s_slices_Contains_Sint64_int64 (a0 a1 : AVal) : runF Tryz.prog (tab l_s_slices_Contains_Sint64_int64) Tryz.f221 h_s_slices_Contains_Sint64_int64 [a0, a1] = s_slices_Contains_Sint64_int64 a0 a1 := by kernel_rfl
theorem ok_s_slices_Contains_Sint64_int64 : FnOK Tryz.prog k_s_slices_Contains_Sint64_int64 (ap2 s_slices_Contains_Sint64_int64) := fn_ok2 (l := l_s_slices_Contains_Sint64_int64) Tryz.checked.mixed (And.intro ok_s_slices_Index_Sint64_int64 trivial) Tryz.func221 Tryz.call221 e_s_slices_Contains_Sint64_int64
def h_s_im_isPattern : Hint := (.pair .leaf (.pair (.pair .leaf (.loop [11] [6] [.exit 0, .ret] .leaf)) .leaf))
noncomputable def l_s_im_isPattern : List (Nat × (List AVal → AM AVal)) := [(k_s_im_isPoint, ap2 s_im_isPoint), (k_s_slices_Contains_Sint64_int64, ap2 s_slices_Contains_Sint64_int64)]
theorem e_s_im_isPattern (a0 a1 a2 : AVal) : runF Tryz.prog (tab l_s_im_isPattern) Tryz.f159 h_s_im_isPattern [a0, a1, a2] = s_im_isPattern a0 a1 a2 := by kernel_rfl
theorem ok_s_im_isPattern : FnOK Tryz.prog k_s_im_isPattern (ap3 s_im_isPattern) := fn_ok3 (l := l_s_im_isPattern) Tryz.checked.mixed (And.intro ok_s_im_isPoint (And.intro ok_s_slices_Contains_Sint64_int64 trivial)) Tryz.func159 Tryz.call159 e_s_im_isPattern
def h_s_im_IsWellFormedTable : Hint := (.pair .leaf (.pair .leaf (.pair (.pair .leaf (.loop [28] [2] [.exit 0, .ret] .leaf)) .leaf)))
noncomputable def l_s_im_IsWellFormedTable : List (Nat × (List AVal → AM AVal)) := [(k_s_im_isTracked, ap2 s_im_isTracked), (k_s_im_length_Sint64, ap1 s_im_length_Sint64), (k_s_im_within, ap3 s_im_within), (k_s_im_isPattern, ap3 s_im_isPattern)]
theorem e_s_im_IsWellFormedTable (a0 : AVal) : runF Tryz.prog (tab l_s_im_IsWellFormedTable) Tryz.f156 h_s_im_IsWellFormedTable [a0] = s_im_IsWellFormedTable a0 := by kernel_rfl
theorem ok_s_im_IsWellFormedTable : FnOK Tryz.prog k_s_im_IsWellFormedTable (ap1 s_im_IsWellFormedTable) := fn_ok1 (l := l_s_im_IsWellFormedTable) Tryz.checked.mixed (And.intro ok_s_im_isTracked (And.intro ok_s_im_length_Sint64 (And.intro ok_s_im_within (And.intro ok_s_im_isPattern trivial)))) Tryz.func156 Tryz.call156 e_s_im_IsWellFormedTable
def h_s_im_letters : Hint := (.pair .leaf (.pair .leaf (.pair (.pair .leaf (.loop [3, 6] [3] [.exit 0] .leaf)) .leaf)))
noncomputable def l_s_im_letters : List (Nat × (List AVal → AM AVal)) := []
theorem e_s_im_letters (a0 : AVal) : runF Tryz.prog (tab l_s_im_letters) Tryz.f158 h_s_im_letters [a0] = s_im_letters a0 := by kernel_rfl
theorem ok_s_im_letters : FnOK Tryz.prog k_s_im_letters (ap1 s_im_letters) := fn_ok1 (l := l_s_im_letters) Tryz.checked.mixed trivial Tryz.func158 Tryz.call158 e_s_im_letters
def h_s_im_stateKey : Hint := (.pair .leaf (.pair .leaf (.pair (.pair .leaf (.loop [11] [] [.exit 0] .leaf)) .leaf)))
noncomputable def l_s_im_stateKey : List (Nat × (List AVal → AM AVal)) := []
theorem e_s_im_stateKey (a0 : AVal) : runF Tryz.prog (tab l_s_im_stateKey) Tryz.f160 h_s_im_stateKey [a0] = s_im_stateKey a0 := by kernel_rfl
theorem ok_s_im_stateKey : FnOK Tryz.prog k_s_im_stateKey (ap1 s_im_stateKey) := fn_ok1 (l := l_s_im_stateKey) Tryz.checked.mixed trivial Tryz.func160 Tryz.call160 e_s_im_stateKey
def h_s_im_inverse : Hint := (.pair .leaf (.pair .leaf (.pair (.pair .leaf (.loop [11] [] [.exit 0] .leaf)) .leaf)))
noncomputable def l_s_im_inverse : List (Nat × (List AVal → AM AVal)) := []
theorem e_s_im_inverse (a0 : AVal) : runF Tryz.prog (tab l_s_im_inverse) Tryz.f242 h_s_im_inverse [a0] = s_im_inverse a0 := by kernel_rfl
theorem ok_s_im_inverse : FnOK Tryz.prog k_s_im_inverse (ap1 s_im_inverse) := fn_ok1 (l := l_s_im_inverse) Tryz.checked.mixed trivial Tryz.func242 Tryz.call242 e_s_im_inverse
def h_s_im_letterOf : Hint := .leaf
noncomputable def l_s_im_letterOf : List (Nat × (List AVal → AM AVal)) := [(k_s_im_inverse, ap1 s_im_inverse)]
theorem e_s_im_letterOf (a0 a1 : AVal) : runF Tryz.prog (tab l_s_im_letterOf) Tryz.f161 h_s_im_letterOf [a0, a1] = s_im_letterOf a0 a1 := by kernel_rfl
theorem ok_s_im_letterOf : FnOK Tryz.prog k_s_im_letterOf (ap2 s_im_letterOf) := fn_ok2 (l := l_s_im_letterOf) Tryz.checked.mixed (And.intro ok_s_im_inverse trivial) Tryz.func161 Tryz.call161 e_s_im_letterOf
def h_s_im_newProof : Hint := (.pair .leaf (.pair .leaf (.pair (.draw [1, 2, 3, 4, 0, 5, 6, 7, 8]) (.pair (.pair .leaf (.loop [40] [4, 5] [.exit 0, .ret] (.pair .leaf (.pair .leaf (.pair (.pair .leaf (.pair .leaf (.pair (.draw [4, 5, 0, 1, 2, 3, 6, 7, 8, 9, 10, 11]) (.pair .leaf (.join [] [.normal] (.draw [4, 5, 0, 1, 2, 3, 6, 7]) .leaf))))) .leaf))))) (.pair (.pair .leaf (.loop [78] [] [.exit 2] (.pair .leaf (.pair .leaf (.pair (.pair .leaf (.draw [5, 6, 7, 8, 1, 2, 3, 4, 9, 10, 0, 11, 12, 13])) .leaf))))) .leaf)))))
noncomputable def l_s_im_newProof : List (Nat × (List AVal → AM AVal)) := [(k_s_im_IsValidPuzzle, ap1 s_im_IsValidPuzzle), (k_s_im_IsWellFormedTable, ap1 s_im_IsWellFormedTable), (k_s_im_isTracked, ap2 s_im_isTracked), (k_s_im_letters, ap1 s_im_letters), (k_s_im_isPattern, ap3 s_im_isPattern), (k_s_im_stateKey, ap1 s_im_stateKey), (k_s_im_letterOf, ap2 s_im_letterOf)]
theorem e_s_im_newProof (a0 a1 : AVal) : runF Tryz.prog (tab l_s_im_newProof) Tryz.f77 h_s_im_newProof [a0, a1] = s_im_newProof a0 a1 := by kernel_rfl
theorem ok_s_im_newProof : FnOK Tryz.prog k_s_im_newProof (ap2 s_im_newProof) := fn_ok2 (l := l_s_im_newProof) Tryz.checked.mixed (And.intro ok_s_im_IsValidPuzzle (And.intro ok_s_im_IsWellFormedTable (And.intro ok_s_im_isTracked (And.intro ok_s_im_letters (And.intro ok_s_im_isPattern (And.intro ok_s_im_stateKey (And.intro ok_s_im_letterOf trivial))))))) Tryz.func77 Tryz.call77 e_s_im_newProof
def h_s_slices_Equal_Sint64_int64 : Hint := (.pair .leaf (.pair .leaf (.pair (.pair .leaf (.loop [13] [4] [.exit 0, .ret] (.pair .leaf (.pair .leaf (.pair (.pair .leaf (.pair (.draw [0, 1, 2, 3, 4, 5, 6, 7, 8]) .leaf)) .leaf))))) .leaf)))
noncomputable def l_s_slices_Equal_Sint64_int64 : List (Nat × (List AVal → AM AVal)) := []
theorem e_s_slices_Equal_Sint64_int64 (a0 a1 : AVal) : runF Tryz.prog (tab l_s_slices_Equal_Sint64_int64) Tryz.f163 h_s_slices_Equal_Sint64_int64 [a0, a1] = s_slices_Equal_Sint64_int64 a0 a1 := by kernel_rfl
theorem ok_s_slices_Equal_Sint64_int64 : FnOK Tryz.prog k_s_slices_Equal_Sint64_int64 (ap2 s_slices_Equal_Sint64_int64) := fn_ok2 (l := l_s_slices_Equal_Sint64_int64) Tryz.checked.mixed trivial Tryz.func163 Tryz.call163 e_s_slices_Equal_Sint64_int64
def h_s_im_picked : Hint := (.pair .leaf (.pair .leaf (.pair (.pair .leaf (.loop [13] [] [.exit 0] .leaf)) .leaf)))
noncomputable def l_s_im_picked : List (Nat × (List AVal → AM AVal)) := []
theorem e_s_im_picked (a0 a1 : AVal) : runF Tryz.prog (tab l_s_im_picked) Tryz.f243 h_s_im_picked [a0, a1] = s_im_picked a0 a1 := by kernel_rfl
theorem ok_s_im_picked : FnOK Tryz.prog k_s_im_picked (ap2 s_im_picked) := fn_ok2 (l := l_s_im_picked) Tryz.checked.mixed trivial Tryz.func243 Tryz.call243 e_s_im_picked
def h_s_Pim_proof_to : Hint := (.pair .leaf (.pair (.draw [4, 5, 6, 7, 8, 9, 10, 11, 12, 13, 0, 1, 2, 3, 14, 15, 16, 17, 18, 19]) .leaf))
noncomputable def l_s_Pim_proof_to : List (Nat × (List AVal → AM AVal)) := [(k_s_im_picked, ap2 s_im_picked), (k_s_im_stateKey, ap1 s_im_stateKey)]
theorem e_s_Pim_proof_to (a0 a1 a2 : AVal) : runF Tryz.prog (tab l_s_Pim_proof_to) Tryz.f164 h_s_Pim_proof_to [a0, a1, a2] = s_Pim_proof_to a0 a1 a2 := by kernel_rfl
theorem ok_s_Pim_proof_to : FnOK Tryz.prog k_s_Pim_proof_to (ap3 s_Pim_proof_to) := fn_ok3 (l := l_s_Pim_proof_to) Tryz.checked.mixed (And.intro ok_s_im_picked (And.intro ok_s_im_stateKey trivial)) Tryz.func164 Tryz.call164 e_s_Pim_proof_to
def h_s_Pim_proof_entryFaults : Hint := (.pair .leaf (.pair .leaf (.pair .leaf (.pair (.draw [0, 1, 2, 3, 4, 5, 6, 7, 8, 9, 10, 11, 12, 13, 14, 15, 16, 17]) (.pair .leaf (.pair (.draw [5, 6, 0, 1, 2, 3, 4, 7, 8, 9, 10]) (.pair .leaf (.pair .leaf (.pair (.pair .leaf (.loop [9, 73] [9] [.exit 0] .leaf)) .leaf)))))))))
noncomputable def l_s_Pim_proof_entryFaults : List (Nat × (List AVal → AM AVal)) := [(k_s_Pim_proof_entryFaults_1, ap5 s_Pim_proof_entryFaults_1), (k_s_slices_Equal_Sint64_int64, ap2 s_slices_Equal_Sint64_int64), (k_s_im_stateKey, ap1 s_im_stateKey), (k_s_Pim_proof_to, ap3 s_Pim_proof_to), (k_s_im_within, ap3 s_im_within), (k_s_im_IsGeneratorSet_1, ap2 s_im_IsGeneratorSet_1)]
theorem e_s_Pim_proof_entryFaults (a0 a1 : AVal) : runF Tryz.prog (tab l_s_Pim_proof_entryFaults) Tryz.f78 h_s_Pim_proof_entryFaults [a0, a1] = s_Pim_proof_entryFaults a0 a1 := by kernel_rfl
theorem ok_s_Pim_proof_entryFaults : FnOK Tryz.prog k_s_Pim_proof_entryFaults (ap2 s_Pim_proof_entryFaults) := fn_ok2 (l := l_s_Pim_proof_entryFaults) Tryz.checked.mixed (And.intro ok_s_Pim_proof_entryFaults_1 (And.intro ok_s_slices_Equal_Sint64_int64 (And.intro ok_s_im_stateKey (And.intro ok_s_Pim_proof_to (And.intro ok_s_im_within (And.intro ok_s_im_IsGeneratorSet_1 trivial)))))) Tryz.func78 Tryz.call78 e_s_Pim_proof_entryFaults
def h_s_im_IsAdmissibleTable : Hint := (.pair .leaf (.pair .leaf (.pair .leaf (.pair (.pair .leaf (.loop [21] [4] [.exit 0, .ret] (.pair .leaf (.pair .leaf (.pair (.pair .leaf (.pair .leaf (.loop [28] [4] [.exit 2, .ret] .leaf))) .leaf))))) .leaf))))
noncomputable def l_s_im_IsAdmissibleTable : List (Nat × (List AVal → AM AVal)) := [(k_s_im_newProof, ap2 s_im_newProof), (k_s_Pim_proof_entryFaults, ap2 s_Pim_proof_entryFaults)]
theorem e_s_im_IsAdmissibleTable (a0 a1 : AVal) : runF Tryz.prog (tab l_s_im_IsAdmissibleTable) Tryz.f31 h_s_im_IsAdmissibleTable [a0, a1] = s_im_IsAdmissibleTable a0 a1 := by kernel_rfl
theorem ok_s_im_IsAdmissibleTable : FnOK Tryz.prog k_s_im_IsAdmissibleTable (ap2 s_im_IsAdmissibleTable) := fn_ok2 (l := l_s_im_IsAdmissibleTable) Tryz.checked.mixed (And.intro ok_s_im_newProof (And.intro ok_s_Pim_proof_entryFaults trivial)) Tryz.func31 Tryz.call31 e_s_im_IsAdmissibleTable
def h_s_sp_IsWellFormedTable : Hint := (.pair .leaf (.pair .leaf (.pair .leaf (.pair (.pair .leaf (.loop [4] [2] [.exit 0, .ret] (.pair .leaf (.pair (.pair (.draw [0, 1, 2, 3, 4, 5, 6, 7, 8, 9, 10, 11, 12, 13, 14, 15, 16, 17, 18]) .leaf) .leaf)))) .leaf))))
noncomputable def l_s_sp_IsWellFormedTable : List (Nat × (List AVal → AM AVal)) := [(k_s_sp_isPointList, ap2 s_sp_isPointList), (k_s_sp_inRange, ap3 s_sp_inRange), (k_s_sp_isDistinctList, ap3 s_sp_isDistinctList)]
theorem e_s_sp_IsWellFormedTable (a0 : AVal) : runF Tryz.prog (tab l_s_sp_IsWellFormedTable) Tryz.f86 h_s_sp_IsWellFormedTable [a0] = s_sp_IsWellFormedTable a0 := by kernel_rfl
theorem ok_s_sp_IsWellFormedTable : FnOK Tryz.prog k_s_sp_IsWellFormedTable (ap1 s_sp_IsWellFormedTable) := fn_ok1 (l := l_s_sp_IsWellFormedTable) Tryz.checked.mixed (And.intro ok_s_sp_isPointList (And.intro ok_s_sp_inRange (And.intro ok_s_sp_isDistinctList trivial))) Tryz.func86 Tryz.call86 e_s_sp_IsWellFormedTable
def h_s_sp_l30Checkable : Hint := (.pair .leaf (.pair .leaf (.pair (.pair .leaf (.loop [5] [4] [.exit 0, .ret] (.pair .leaf (.pair (.pair (.draw [0, 1, 2, 3, 4, 5, 6, 7, 8, 9]) .leaf) .leaf)))) .leaf)))
noncomputable def l_s_sp_l30Checkable : List (Nat × (List AVal → AM AVal)) := [(k_s_sp_IsValidPuzzle, ap1 s_sp_IsValidPuzzle), (k_s_sp_IsWellFormedTable, ap1 s_sp_IsWellFormedTable), (k_s_sp_IsTrackedSet, ap2 s_sp_IsTrackedSet), (k_s_sp_IsPattern, ap3 s_sp_IsPattern)]
theorem e_s_sp_l30Checkable (a0 a1 : AVal) : runF Tryz.prog (tab l_s_sp_l30Checkable) Tryz.f79 h_s_sp_l30Checkable [a0, a1] = s_sp_l30Checkable a0 a1 := by kernel_rfl
theorem ok_s_sp_l30Checkable : FnOK Tryz.prog k_s_sp_l30Checkable (ap2 s_sp_l30Checkable) := fn_ok2 (l := l_s_sp_l30Checkable) Tryz.checked.mixed (And.intro ok_s_sp_IsValidPuzzle (And.intro ok_s_sp_IsWellFormedTable (And.intro ok_s_sp_IsTrackedSet (And.intro ok_s_sp_IsPattern trivial)))) Tryz.func79 Tryz.call79 e_s_sp_l30Checkable
def h_s_sp_l30Next : Hint := .leaf
noncomputable def l_s_sp_l30Next : List (Nat × (List AVal → AM AVal)) := [(k_s_sp_PatternAfter, ap4 s_sp_PatternAfter), (k_s_sp_indexOfList, ap2 s_sp_indexOfList)]
theorem e_s_sp_l30Next (a0 a1 a2 a3 : AVal) : runF Tryz.prog (tab l_s_sp_l30Next) Tryz.f168 h_s_sp_l30Next [a0, a1, a2, a3] = s_sp_l30Next a0 a1 a2 a3 := by kernel_rfl
theorem ok_s_sp_l30Next : FnOK Tryz.prog k_s_sp_l30Next (ap4 s_sp_l30Next) := fn_ok4 (l := l_s_sp_l30Next) Tryz.checked.mixed (And.intro ok_s_sp_PatternAfter (And.intro ok_s_sp_indexOfList trivial)) Tryz.func168 Tryz.call168 e_s_sp_l30Next
def h_s_sp_l30Descent : Hint := (.pair .leaf (.pair .leaf (.pair (.pair .leaf (.loop [10] [8] [.exit 0, .ret] (.pair .leaf (.pair (.pair (.draw [0, 1, 2, 3, 4, 5, 6, 7, 8]) .leaf) .leaf)))) .leaf)))
noncomputable def l_s_sp_l30Descent : List (Nat × (List AVal → AM AVal)) := [(k_s_sp_Letters, ap1 s_sp_Letters), (k_s_sp_l30Next, ap4 s_sp_l30Next)]
theorem e_s_sp_l30Descent (a0 a1 a2 a3 : AVal) : runF Tryz.prog (tab l_s_sp_l30Descent) Tryz.f169 h_s_sp_l30Descent [a0, a1, a2, a3] = s_sp_l30Descent a0 a1 a2 a3 := by kernel_rfl
theorem ok_s_sp_l30Descent : FnOK Tryz.prog k_s_sp_l30Descent (ap4 s_sp_l30Descent) := fn_ok4 (l := l_s_sp_l30Descent) Tryz.checked.mixed (And.intro ok_s_sp_Letters (And.intro ok_s_sp_l30Next trivial)) Tryz.func169 Tryz.call169 e_s_sp_l30Descent
def h_s_sp_l30Entry : Hint := (.pair .leaf (.pair .leaf (.pair .leaf (.pair (.pair (.draw [0, 1, 2, 3, 4, 5, 6, 7, 8, 9, 10, 11, 12, 13, 14, 15]) (.join [7] [.normal] .leaf .leaf)) (.pair (.pair (.draw [0, 1, 2, 3, 4, 5, 6, 7, 8, 9]) (.join [7] [.normal] .leaf .leaf)) (.pair (.pair .leaf (.join [7] [.normal] .leaf .leaf)) (.pair .leaf (.pair (.pair .leaf (.loop [7, 10] [7] [.exit 0] (.pair .leaf (.pair (.pair (.draw [0, 1, 2, 3, 4, 5, 6, 7, 8, 9, 10, 11, 12]) (.pair .leaf (.join [7] [.normal] .leaf (.pair .leaf (.join [7] [.normal] .leaf .leaf))))) .leaf)))) (.pair (.pair (.draw [0, 1, 2, 3, 4, 5, 6, 7, 8, 9, 10, 11, 12, 13, 14]) (.join [7] [.normal] .leaf .leaf)) .leaf)))))))))
noncomputable def l_s_sp_l30Entry : List (Nat × (List AVal → AM AVal)) := [(k_s_sp_equalInts, ap2 s_sp_equalInts), (k_s_sp_indexOfList, ap2 s_sp_indexOfList), (k_s_sp_Letters, ap1 s_sp_Letters), (k_s_sp_l30Next, ap4 s_sp_l30Next), (k_s_sp_inRange, ap3 s_sp_inRange), (k_s_sp_l30Descent, ap4 s_sp_l30Descent)]
theorem e_s_sp_l30Entry (a0 a1 a2 : AVal) : runF Tryz.prog (tab l_s_sp_l30Entry) Tryz.f80 h_s_sp_l30Entry [a0, a1, a2] = s_sp_l30Entry a0 a1 a2 := by kernel_rfl
theorem ok_s_sp_l30Entry : FnOK Tryz.prog k_s_sp_l30Entry (ap3 s_sp_l30Entry) := fn_ok3 (l := l_s_sp_l30Entry) Tryz.checked.mixed (And.intro ok_s_sp_equalInts (And.intro ok_s_sp_indexOfList (And.intro ok_s_sp_Letters (And.intro ok_s_sp_l30Next (And.intro ok_s_sp_inRange (And.intro ok_s_sp_l30Descent trivial)))))) Tryz.func80 Tryz.call80 e_s_sp_l30Entry
def h_s_sp_IsAdmissibleTable : Hint := (.pair .leaf (.pair .leaf (.pair (.pair .leaf (.loop [5] [4] [.exit 0, .ret] (.pair .leaf (.pair (.pair .leaf (.pair .leaf (.loop [7] [4] [.exit 2, .ret] .leaf))) .leaf)))) .leaf)))
noncomputable def l_s_sp_IsAdmissibleTable : List (Nat × (List AVal → AM AVal)) := [(k_s_sp_l30Checkable, ap2 s_sp_l30Checkable), (k_s_sp_l30Entry, ap3 s_sp_l30Entry)]
theorem e_s_sp_IsAdmissibleTable (a0 a1 : AVal) : runF Tryz.prog (tab l_s_sp_IsAdmissibleTable) Tryz.f32 h_s_sp_IsAdmissibleTable [a0, a1] = s_sp_IsAdmissibleTable a0 a1 := by kernel_rfl
theorem ok_s_sp_IsAdmissibleTable : FnOK Tryz.prog k_s_sp_IsAdmissibleTable (ap2 s_sp_IsAdmissibleTable) := fn_ok2 (l := l_s_sp_IsAdmissibleTable) Tryz.checked.mixed (And.intro ok_s_sp_l30Checkable (And.intro ok_s_sp_l30Entry trivial)) Tryz.func32 Tryz.call32 e_s_sp_IsAdmissibleTable
def h_s_lw_roll : Hint := (.pair .leaf (.pair .leaf (.pair (.pair .leaf (.loop [6] [] [.exit 0] (.pair .leaf (.pair (.draw [0, 1, 2, 3, 4, 5, 6, 7, 8, 9, 10, 11, 12, 13, 14, 15]) .leaf)))) .leaf)))
noncomputable def l_s_lw_roll : List (Nat × (List AVal → AM AVal)) := []
theorem e_s_lw_roll (a0 a1 : AVal) : runF Tryz.prog (tab l_s_lw_roll) Tryz.f34 h_s_lw_roll [a0, a1] = s_lw_roll a0 a1 := by kernel_rfl
theorem ok_s_lw_roll : FnOK Tryz.prog k_s_lw_roll (ap2 s_lw_roll) := fn_ok2 (l := l_s_lw_roll) Tryz.checked.mixed trivial Tryz.func34 Tryz.call34 e_s_lw_roll
def h_s_Plw_dice_below : Hint := (.pair .leaf (.pair .leaf (.pair .leaf (.pair (.pair (.draw [0, 1, 2, 3, 4, 5, 6, 7, 8, 9]) (.join [5] [.normal] (.pair (.draw [1, 2, 3, 4, 5, 6, 7, 8, 9, 10, 0, 11, 12, 13]) .leaf) .leaf)) .leaf))))
noncomputable def l_s_Plw_dice_below : List (Nat × (List AVal → AM AVal)) := []
theorem e_s_Plw_dice_below (a0 a1 : AVal) : runF Tryz.prog (tab l_s_Plw_dice_below) Tryz.f35 h_s_Plw_dice_below [a0, a1] = s_Plw_dice_below a0 a1 := by kernel_rfl
theorem ok_s_Plw_dice_below : FnOK Tryz.prog k_s_Plw_dice_below (ap2 s_Plw_dice_below) := fn_ok2 (l := l_s_Plw_dice_below) Tryz.checked.mixed trivial Tryz.func35 Tryz.call35 e_s_Plw_dice_below
def h_s_sp_l24IsSeed : Hint := .leaf
noncomputable def l_s_sp_l24IsSeed : List (Nat × (List AVal → AM AVal)) := [(k_s_sp_inRange, ap3 s_sp_inRange)]
theorem e_s_sp_l24IsSeed (a0 : AVal) : runF Tryz.prog (tab l_s_sp_l24IsSeed) Tryz.f82 h_s_sp_l24IsSeed [a0] = s_sp_l24IsSeed a0 := by kernel_rfl
theorem ok_s_sp_l24IsSeed : FnOK Tryz.prog k_s_sp_l24IsSeed (ap1 s_sp_l24IsSeed) := fn_ok1 (l := l_s_sp_l24IsSeed) Tryz.checked.mixed (And.intro ok_s_sp_inRange trivial) Tryz.func82 Tryz.call82 e_s_sp_l24IsSeed
def h_s_sp_NextRandom : Hint := (.pair .leaf (.pair .leaf (.pair (.pair .leaf (.join [3] [.normal] .leaf .leaf)) .leaf)))
noncomputable def l_s_sp_NextRandom : List (Nat × (List AVal → AM AVal)) := []
theorem e_s_sp_NextRandom (a0 : AVal) : runF Tryz.prog (tab l_s_sp_NextRandom) Tryz.f83 h_s_sp_NextRandom [a0] = s_sp_NextRandom a0 := by kernel_rfl
theorem ok_s_sp_NextRandom : FnOK Tryz.prog k_s_sp_NextRandom (ap1 s_sp_NextRandom) := fn_ok1 (l := l_s_sp_NextRandom) Tryz.checked.mixed trivial Tryz.func83 Tryz.call83 e_s_sp_NextRandom
def h_s_sp_identity : Hint := (.pair .leaf (.pair .leaf (.pair (.pair .leaf (.loop [3, 4] [3] [.exit 0] .leaf)) .leaf)))
noncomputable def l_s_sp_identity : List (Nat × (List AVal → AM AVal)) := []
theorem e_s_sp_identity (a0 : AVal) : runF Tryz.prog (tab l_s_sp_identity) Tryz.f121 h_s_sp_identity [a0] = s_sp_identity a0 := by kernel_rfl
theorem ok_s_sp_identity : FnOK Tryz.prog k_s_sp_identity (ap1 s_sp_identity) := fn_ok1 (l := l_s_sp_identity) Tryz.checked.mixed trivial Tryz.func121 Tryz.call121 e_s_sp_identity
def h_s_sp_emptyChain : Hint := (.pair .leaf (.pair .leaf (.pair (.pair .leaf (.loop [4] [] [.exit 0] .leaf)) .leaf)))
noncomputable def l_s_sp_emptyChain : List (Nat × (List AVal → AM AVal)) := [(k_s_sp_identity, ap1 s_sp_identity)]
theorem e_s_sp_emptyChain (a0 : AVal) : runF Tryz.prog (tab l_s_sp_emptyChain) Tryz.f245 h_s_sp_emptyChain [a0] = s_sp_emptyChain a0 := by kernel_rfl
theorem ok_s_sp_emptyChain : FnOK Tryz.prog k_s_sp_emptyChain (ap1 s_sp_emptyChain) := fn_ok1 (l := l_s_sp_emptyChain) Tryz.checked.mixed (And.intro ok_s_sp_identity trivial) Tryz.func245 Tryz.call245 e_s_sp_emptyChain
def h_s_sp_compose : Hint := (.pair .leaf (.pair .leaf (.pair (.pair .leaf (.loop [5, 6] [5] [.exit 0] .leaf)) .leaf)))
noncomputable def l_s_sp_compose : List (Nat × (List AVal → AM AVal)) := []
theorem e_s_sp_compose (a0 a1 : AVal) : runF Tryz.prog (tab l_s_sp_compose) Tryz.f126 h_s_sp_compose [a0, a1] = s_sp_compose a0 a1 := by kernel_rfl
theorem ok_s_sp_compose : FnOK Tryz.prog k_s_sp_compose (ap2 s_sp_compose) := fn_ok2 (l := l_s_sp_compose) Tryz.checked.mixed trivial Tryz.func126 Tryz.call126 e_s_sp_compose
def h_s_sp_sift : Hint := (.pair .leaf (.pair (.pair .leaf (.loop [2, 8] [2, 6, 7] [.exit 0, .ret] (.pair .leaf (.pair (.pair (.draw [0, 1, 2, 3, 4, 5, 6, 7, 8, 9, 10, 11, 12, 13]) .leaf) .leaf)))) (.pair (.draw [1, 2, 3, 4, 0, 5, 6]) .leaf)))
noncomputable def l_s_sp_sift : List (Nat × (List AVal → AM AVal)) := [(k_s_sp_inverse, ap1 s_sp_inverse), (k_s_sp_compose, ap2 s_sp_compose)]
theorem e_s_sp_sift (a0 a1 a2 : AVal) : runF Tryz.prog (tab l_s_sp_sift) Tryz.f275 h_s_sp_sift [a0, a1, a2] = s_sp_sift a0 a1 a2 := by kernel_rfl
theorem ok_s_sp_sift : FnOK Tryz.prog k_s_sp_sift (ap3 s_sp_sift) := fn_ok3 (l := l_s_sp_sift) Tryz.checked.mixed (And.intro ok_s_sp_inverse (And.intro ok_s_sp_compose trivial)) Tryz.func275 Tryz.call275 e_s_sp_sift
def h_s_sp_addProduct : Hint := (.pair (.draw [0, 1, 2, 3, 4, 5, 6, 7, 8, 9, 10, 11, 12, 13]) (.pair .leaf (.pair (.draw [0, 1, 2, 3, 4, 5, 6, 7, 8, 9, 10, 11, 12, 13]) (.pair .leaf (.loop [7] [] [.exit 0] .leaf)))))
noncomputable def l_s_sp_addProduct (r_sp_addProduct : AVal → AVal → AVal → AM AVal) (r_sp_addGenerator : AVal → AVal → AVal → AM AVal) : List (Nat × (List AVal → AM AVal)) := [(k_s_sp_inverse, ap1 s_sp_inverse), (k_s_sp_compose, ap2 s_sp_compose), (k_s_sp_addGenerator, ap3 r_sp_addGenerator), (k_s_sp_addProduct, ap3 r_sp_addProduct)]
theorem e_s_sp_addProduct (r_sp_addProduct : AVal → AVal → AVal → AM AVal) (r_sp_addGenerator : AVal → AVal → AVal → AM AVal) (a0 a1 a2 : AVal) : runF Tryz.prog (tab (l_s_sp_addProduct r_sp_addProduct r_sp_addGenerator)) Tryz.f291 h_s_sp_addProduct [a0, a1, a2] = b_sp_addProduct r_sp_addProduct r_sp_addGenerator a0 a1 a2 := by kernel_rfl
def h_s_sp_addGenerator : Hint := (.pair .leaf (.pair .leaf (.pair .leaf (.pair (.draw [5, 6, 7, 8, 9, 10, 11, 12, 13, 14, 0, 1, 2, 3, 4, 15, 16]) (.pair .leaf (.pair (.pair .leaf (.loop [8, 9] [8] [.exit 0] (.pair .leaf (.pair (.pair .leaf (.join [8] [.normal] .leaf .leaf)) .leaf)))) (.pair .leaf (.loop [10] [] [.exit 2] .leaf))))))))
noncomputable def l_s_sp_addGenerator (r_sp_addProduct : AVal → AVal → AVal → AM AVal) (r_sp_addGenerator : AVal → AVal → AVal → AM AVal) : List (Nat × (List AVal → AM AVal)) := [(k_s_sp_sift, ap3 s_sp_sift), (k_s_sp_compose, ap2 s_sp_compose), (k_s_sp_addProduct, ap3 r_sp_addProduct)]
theorem e_s_sp_addGenerator (r_sp_addProduct : AVal → AVal → AVal → AM AVal) (r_sp_addGenerator : AVal → AVal → AVal → AM AVal) (a0 a1 a2 : AVal) : runF Tryz.prog (tab (l_s_sp_addGenerator r_sp_addProduct r_sp_addGenerator)) Tryz.f246 h_s_sp_addGenerator [a0, a1, a2] = b_sp_addGenerator r_sp_addProduct r_sp_addGenerator a0 a1 a2 := by kernel_rfl
theorem okr_s_sp_addProduct : ∀ d, FnOK Tryz.prog k_s_sp_addProduct (ap3 (s_sp_addProduct d)) ∧ FnOK Tryz.prog k_s_sp_addGenerator (ap3 (s_sp_addGenerator d))
  | 0 => ⟨fn_fail (k := k_s_sp_addProduct) Tryz.call291 (fun args H => by unfold ap3; split <;> rfl), fn_fail (k := k_s_sp_addGenerator) Tryz.call246 (fun args H => by unfold ap3; split <;> rfl)⟩
  | d + 1 => by
    have ⟨i0, i1⟩ := okr_s_sp_addProduct d
    exact ⟨fn_ok3 (l := l_s_sp_addProduct (s_sp_addProduct d) (s_sp_addGenerator d)) Tryz.checked.mixed (And.intro ok_s_sp_inverse (And.intro ok_s_sp_compose (And.intro i1 (And.intro i0 trivial)))) Tryz.func291 Tryz.call291 (e_s_sp_addProduct (s_sp_addProduct d) (s_sp_addGenerator d)), fn_ok3 (l := l_s_sp_addGenerator (s_sp_addProduct d) (s_sp_addGenerator d)) Tryz.checked.mixed (And.intro ok_s_sp_sift (And.intro ok_s_sp_compose (And.intro i0 trivial))) Tryz.func246 Tryz.call246 (e_s_sp_addGenerator (s_sp_addProduct d) (s_sp_addGenerator d))⟩
theorem ok_s_sp_addProduct : FnOK Tryz.prog k_s_sp_addProduct (ap3 (s_sp_addProduct deep)) := (okr_s_sp_addProduct deep).1
theorem ok_s_sp_addGenerator : FnOK Tryz.prog k_s_sp_addGenerator (ap3 (s_sp_addGenerator deep)) := (okr_s_sp_addProduct deep).2
def h_s_sp_buildChain : Hint := (.pair .leaf (.pair .leaf (.pair (.pair .leaf (.loop [6] [] [.exit 0] .leaf)) .leaf)))
noncomputable def l_s_sp_buildChain : List (Nat × (List AVal → AM AVal)) := [(k_s_sp_emptyChain, ap1 s_sp_emptyChain), (k_s_sp_copyInts, ap1 s_sp_copyInts), (k_s_sp_addGenerator, ap3 (s_sp_addGenerator deep))]
theorem e_s_sp_buildChain (a0 a1 : AVal) : runF Tryz.prog (tab l_s_sp_buildChain) Tryz.f173 h_s_sp_buildChain [a0, a1] = s_sp_buildChain a0 a1 := by kernel_rfl
theorem ok_s_sp_buildChain : FnOK Tryz.prog k_s_sp_buildChain (ap2 s_sp_buildChain) := fn_ok2 (l := l_s_sp_buildChain) Tryz.checked.mixed (And.intro ok_s_sp_emptyChain (And.intro ok_s_sp_copyInts (And.intro ok_s_sp_addGenerator trivial))) Tryz.func173 Tryz.call173 e_s_sp_buildChain
def h_s_sp_boolToInt : Hint := .leaf
noncomputable def l_s_sp_boolToInt : List (Nat × (List AVal → AM AVal)) := []
theorem e_s_sp_boolToInt (a0 : AVal) : runF Tryz.prog (tab l_s_sp_boolToInt) Tryz.f292 h_s_sp_boolToInt [a0] = s_sp_boolToInt a0 := by kernel_rfl
theorem ok_s_sp_boolToInt : FnOK Tryz.prog k_s_sp_boolToInt (ap1 s_sp_boolToInt) := fn_ok1 (l := l_s_sp_boolToInt) Tryz.checked.mixed trivial Tryz.func292 Tryz.call292 e_s_sp_boolToInt
def h_s_sp_orbitSizes : Hint := (.pair .leaf (.pair .leaf (.pair (.pair .leaf (.loop [3, 4] [3] [.exit 0] (.pair .leaf (.pair (.pair .leaf (.pair (.pair .leaf (.loop [5, 6] [5] [.exit 2] .leaf)) .leaf)) .leaf)))) .leaf)))
noncomputable def l_s_sp_orbitSizes : List (Nat × (List AVal → AM AVal)) := [(k_s_sp_boolToInt, ap1 s_sp_boolToInt)]
theorem e_s_sp_orbitSizes (a0 : AVal) : runF Tryz.prog (tab l_s_sp_orbitSizes) Tryz.f247 h_s_sp_orbitSizes [a0] = s_sp_orbitSizes a0 := by kernel_rfl
theorem ok_s_sp_orbitSizes : FnOK Tryz.prog k_s_sp_orbitSizes (ap1 s_sp_orbitSizes) := fn_ok1 (l := l_s_sp_orbitSizes) Tryz.checked.mixed (And.intro ok_s_sp_boolToInt trivial) Tryz.func247 Tryz.call247 e_s_sp_orbitSizes
def h_s_sp_chainOrder : Hint := (.pair .leaf (.pair .leaf (.pair .leaf (.pair (.pair .leaf (.loop [3, 5] [3] [.exit 0] .leaf)) .leaf))))
noncomputable def l_s_sp_chainOrder : List (Nat × (List AVal → AM AVal)) := [(k_s_sp_orbitSizes, ap1 s_sp_orbitSizes)]
theorem e_s_sp_chainOrder (a0 : AVal) : runF Tryz.prog (tab l_s_sp_chainOrder) Tryz.f174 h_s_sp_chainOrder [a0] = s_sp_chainOrder a0 := by kernel_rfl
theorem ok_s_sp_chainOrder : FnOK Tryz.prog k_s_sp_chainOrder (ap1 s_sp_chainOrder) := fn_ok1 (l := l_s_sp_chainOrder) Tryz.checked.mixed (And.intro ok_s_sp_orbitSizes trivial) Tryz.func174 Tryz.call174 e_s_sp_chainOrder
def h_s_sp_GroupOrder : Hint := .leaf
noncomputable def l_s_sp_GroupOrder : List (Nat × (List AVal → AM AVal)) := [(k_s_sp_IsGeneratorSet, ap2 s_sp_IsGeneratorSet), (k_s_sp_buildChain, ap2 s_sp_buildChain), (k_s_sp_chainOrder, ap1 s_sp_chainOrder)]
theorem e_s_sp_GroupOrder (a0 a1 : AVal) : runF Tryz.prog (tab l_s_sp_GroupOrder) Tryz.f172 h_s_sp_GroupOrder [a0, a1] = s_sp_GroupOrder a0 a1 := by kernel_rfl
theorem ok_s_sp_GroupOrder : FnOK Tryz.prog k_s_sp_GroupOrder (ap2 s_sp_GroupOrder) := fn_ok2 (l := l_s_sp_GroupOrder) Tryz.checked.mixed (And.intro ok_s_sp_IsGeneratorSet (And.intro ok_s_sp_buildChain (And.intro ok_s_sp_chainOrder trivial))) Tryz.func172 Tryz.call172 e_s_sp_GroupOrder
def h_s_sp_StateCount : Hint := .leaf
noncomputable def l_s_sp_StateCount : List (Nat × (List AVal → AM AVal)) := [(k_s_sp_IsValidPuzzle, ap1 s_sp_IsValidPuzzle), (k_s_sp_GroupOrder, ap2 s_sp_GroupOrder)]
theorem e_s_sp_StateCount (a0 : AVal) : runF Tryz.prog (tab l_s_sp_StateCount) Tryz.f84 h_s_sp_StateCount [a0] = s_sp_StateCount a0 := by kernel_rfl
theorem ok_s_sp_StateCount : FnOK Tryz.prog k_s_sp_StateCount (ap1 s_sp_StateCount) := fn_ok1 (l := l_s_sp_StateCount) Tryz.checked.mixed (And.intro ok_s_sp_IsValidPuzzle (And.intro ok_s_sp_GroupOrder trivial)) Tryz.func84 Tryz.call84 e_s_sp_StateCount
def h_s_sp_membersPerChoice : Hint := (.pair .leaf (.pair .leaf (.pair .leaf (.pair .leaf (.pair (.pair .leaf (.loop [5, 6] [] [.exit 0] .leaf)) .leaf)))))
noncomputable def l_s_sp_membersPerChoice : List (Nat × (List AVal → AM AVal)) := [(k_s_sp_orbitSizes, ap1 s_sp_orbitSizes)]
theorem e_s_sp_membersPerChoice (a0 : AVal) : runF Tryz.prog (tab l_s_sp_membersPerChoice) Tryz.f175 h_s_sp_membersPerChoice [a0] = s_sp_membersPerChoice a0 := by kernel_rfl
theorem ok_s_sp_membersPerChoice : FnOK Tryz.prog k_s_sp_membersPerChoice (ap1 s_sp_membersPerChoice) := fn_ok1 (l := l_s_sp_membersPerChoice) Tryz.checked.mixed (And.intro ok_s_sp_orbitSizes trivial) Tryz.func175 Tryz.call175 e_s_sp_membersPerChoice
def h_s_sp_insertSorted : Hint := (.pair .leaf (.pair .leaf (.pair (.loop [5] [5] [.exit 0] .leaf) .leaf)))
noncomputable def l_s_sp_insertSorted : List (Nat × (List AVal → AM AVal)) := [(k_s_sp_copyInts, ap1 s_sp_copyInts)]
theorem e_s_sp_insertSorted (a0 a1 : AVal) : runF Tryz.prog (tab l_s_sp_insertSorted) Tryz.f248 h_s_sp_insertSorted [a0, a1] = s_sp_insertSorted a0 a1 := by kernel_rfl
theorem ok_s_sp_insertSorted : FnOK Tryz.prog k_s_sp_insertSorted (ap2 s_sp_insertSorted) := fn_ok2 (l := l_s_sp_insertSorted) Tryz.checked.mixed (And.intro ok_s_sp_copyInts trivial) Tryz.func248 Tryz.call248 e_s_sp_insertSorted
def h_s_sp_choicesAt : Hint := (.pair .leaf (.pair .leaf (.pair (.pair .leaf (.loop [7, 8] [7] [.exit 0] (.pair .leaf (.pair (.pair .leaf (.join [7] [.normal] .leaf .leaf)) .leaf)))) .leaf)))
noncomputable def l_s_sp_choicesAt : List (Nat × (List AVal → AM AVal)) := [(k_s_sp_insertSorted, ap2 s_sp_insertSorted)]
theorem e_s_sp_choicesAt (a0 a1 a2 : AVal) : runF Tryz.prog (tab l_s_sp_choicesAt) Tryz.f176 h_s_sp_choicesAt [a0, a1, a2] = s_sp_choicesAt a0 a1 a2 := by kernel_rfl
theorem ok_s_sp_choicesAt : FnOK Tryz.prog k_s_sp_choicesAt (ap3 s_sp_choicesAt) := fn_ok3 (l := l_s_sp_choicesAt) Tryz.checked.mixed (And.intro ok_s_sp_insertSorted trivial) Tryz.func176 Tryz.call176 e_s_sp_choicesAt
def h_s_sp_withEntry : Hint := (.pair .leaf (.pair (.draw [7, 8, 0, 1, 2, 3, 4, 5, 6, 9, 10, 11, 12, 13, 14, 15, 16]) .leaf))
noncomputable def l_s_sp_withEntry : List (Nat × (List AVal → AM AVal)) := [(k_s_sp_inverse, ap1 s_sp_inverse), (k_s_sp_compose, ap2 s_sp_compose)]
theorem e_s_sp_withEntry (a0 a1 a2 a3 : AVal) : runF Tryz.prog (tab l_s_sp_withEntry) Tryz.f177 h_s_sp_withEntry [a0, a1, a2, a3] = s_sp_withEntry a0 a1 a2 a3 := by kernel_rfl
theorem ok_s_sp_withEntry : FnOK Tryz.prog k_s_sp_withEntry (ap4 s_sp_withEntry) := fn_ok4 (l := l_s_sp_withEntry) Tryz.checked.mixed (And.intro ok_s_sp_inverse (And.intro ok_s_sp_compose trivial)) Tryz.func177 Tryz.call177 e_s_sp_withEntry
def h_s_sp_MemberAt : Hint := (.pair .leaf (.pair .leaf (.pair .leaf (.pair .leaf (.pair .leaf (.pair .leaf (.pair (.pair .leaf (.loop [2, 10, 11] [10] [.exit 0] .leaf)) .leaf)))))))
noncomputable def l_s_sp_MemberAt : List (Nat × (List AVal → AM AVal)) := [(k_s_sp_IsGeneratorSet, ap2 s_sp_IsGeneratorSet), (k_s_sp_buildChain, ap2 s_sp_buildChain), (k_s_sp_chainOrder, ap1 s_sp_chainOrder), (k_s_sp_inRange, ap3 s_sp_inRange), (k_s_sp_membersPerChoice, ap1 s_sp_membersPerChoice), (k_s_sp_identity, ap1 s_sp_identity), (k_s_sp_choicesAt, ap3 s_sp_choicesAt), (k_s_sp_withEntry, ap4 s_sp_withEntry)]
theorem e_s_sp_MemberAt (a0 a1 a2 : AVal) : runF Tryz.prog (tab l_s_sp_MemberAt) Tryz.f85 h_s_sp_MemberAt [a0, a1, a2] = s_sp_MemberAt a0 a1 a2 := by kernel_rfl
theorem ok_s_sp_MemberAt : FnOK Tryz.prog k_s_sp_MemberAt (ap3 s_sp_MemberAt) := fn_ok3 (l := l_s_sp_MemberAt) Tryz.checked.mixed (And.intro ok_s_sp_IsGeneratorSet (And.intro ok_s_sp_buildChain (And.intro ok_s_sp_chainOrder (And.intro ok_s_sp_inRange (And.intro ok_s_sp_membersPerChoice (And.intro ok_s_sp_identity (And.intro ok_s_sp_choicesAt (And.intro ok_s_sp_withEntry trivial)))))))) Tryz.func85 Tryz.call85 e_s_sp_MemberAt
def h_s_sp_RandomState : Hint := (.pair .leaf (.pair .leaf (.pair .leaf (.pair (.draw [2, 3, 5, 6, 0, 1, 4, 7, 8]) .leaf))))
noncomputable def l_s_sp_RandomState : List (Nat × (List AVal → AM AVal)) := [(k_s_sp_IsValidPuzzle, ap1 s_sp_IsValidPuzzle), (k_s_sp_l24IsSeed, ap1 s_sp_l24IsSeed), (k_s_sp_NextRandom, ap1 s_sp_NextRandom), (k_s_sp_StateCount, ap1 s_sp_StateCount), (k_s_sp_MemberAt, ap3 s_sp_MemberAt)]
theorem e_s_sp_RandomState (a0 a1 : AVal) : runF Tryz.prog (tab l_s_sp_RandomState) Tryz.f33 h_s_sp_RandomState [a0, a1] = s_sp_RandomState a0 a1 := by kernel_rfl
theorem ok_s_sp_RandomState : FnOK Tryz.prog k_s_sp_RandomState (ap2 s_sp_RandomState) := fn_ok2 (l := l_s_sp_RandomState) Tryz.checked.mixed (And.intro ok_s_sp_IsValidPuzzle (And.intro ok_s_sp_l24IsSeed (And.intro ok_s_sp_NextRandom (And.intro ok_s_sp_StateCount (And.intro ok_s_sp_MemberAt trivial))))) Tryz.func33 Tryz.call33 e_s_sp_RandomState
def h_s_sp_isPermutationOf : Hint := .leaf
noncomputable def l_s_sp_isPermutationOf : List (Nat × (List AVal → AM AVal)) := [(k_s_sp_IsPermutation, ap1 s_sp_IsPermutation)]
theorem e_s_sp_isPermutationOf (a0 a1 : AVal) : runF Tryz.prog (tab l_s_sp_isPermutationOf) Tryz.f180 h_s_sp_isPermutationOf [a0, a1] = s_sp_isPermutationOf a0 a1 := by kernel_rfl
theorem ok_s_sp_isPermutationOf : FnOK Tryz.prog k_s_sp_isPermutationOf (ap2 s_sp_isPermutationOf) := fn_ok2 (l := l_s_sp_isPermutationOf) Tryz.checked.mixed (And.intro ok_s_sp_IsPermutation trivial) Tryz.func180 Tryz.call180 e_s_sp_isPermutationOf
def h_s_sp_IsState : Hint := .leaf
noncomputable def l_s_sp_IsState : List (Nat × (List AVal → AM AVal)) := [(k_s_sp_IsValidPuzzle, ap1 s_sp_IsValidPuzzle), (k_s_sp_isPermutationOf, ap2 s_sp_isPermutationOf)]
theorem e_s_sp_IsState (a0 a1 : AVal) : runF Tryz.prog (tab l_s_sp_IsState) Tryz.f89 h_s_sp_IsState [a0, a1] = s_sp_IsState a0 a1 := by kernel_rfl
theorem ok_s_sp_IsState : FnOK Tryz.prog k_s_sp_IsState (ap2 s_sp_IsState) := fn_ok2 (l := l_s_sp_IsState) Tryz.checked.mixed (And.intro ok_s_sp_IsValidPuzzle (And.intro ok_s_sp_isPermutationOf trivial)) Tryz.func89 Tryz.call89 e_s_sp_IsState
def h_s_sp_projectState : Hint := (.pair .leaf (.pair .leaf (.pair (.pair .leaf (.loop [5, 6] [5] [.exit 0] .leaf)) .leaf)))
noncomputable def l_s_sp_projectState : List (Nat × (List AVal → AM AVal)) := []
theorem e_s_sp_projectState (a0 a1 : AVal) : runF Tryz.prog (tab l_s_sp_projectState) Tryz.f90 h_s_sp_projectState [a0, a1] = s_sp_projectState a0 a1 := by kernel_rfl
theorem ok_s_sp_projectState : FnOK Tryz.prog k_s_sp_projectState (ap2 s_sp_projectState) := fn_ok2 (l := l_s_sp_projectState) Tryz.checked.mixed trivial Tryz.func90 Tryz.call90 e_s_sp_projectState
def h_s_sp_PatternOf : Hint := .leaf
noncomputable def l_s_sp_PatternOf : List (Nat × (List AVal → AM AVal)) := [(k_s_sp_IsTrackedSet, ap2 s_sp_IsTrackedSet), (k_s_sp_IsState, ap2 s_sp_IsState), (k_s_sp_projectState, ap2 s_sp_projectState)]
theorem e_s_sp_PatternOf (a0 a1 a2 : AVal) : runF Tryz.prog (tab l_s_sp_PatternOf) Tryz.f37 h_s_sp_PatternOf [a0, a1, a2] = s_sp_PatternOf a0 a1 a2 := by kernel_rfl
theorem ok_s_sp_PatternOf : FnOK Tryz.prog k_s_sp_PatternOf (ap3 s_sp_PatternOf) := fn_ok3 (l := l_s_sp_PatternOf) Tryz.checked.mixed (And.intro ok_s_sp_IsTrackedSet (And.intro ok_s_sp_IsState (And.intro ok_s_sp_projectState trivial))) Tryz.func37 Tryz.call37 e_s_sp_PatternOf
def h_s_sp_tableEntry : Hint := (.pair .leaf (.pair (.pair .leaf (.loop [5] [4] [.exit 0, .ret] .leaf)) .leaf))
noncomputable def l_s_sp_tableEntry : List (Nat × (List AVal → AM AVal)) := [(k_s_sp_equalInts, ap2 s_sp_equalInts)]
theorem e_s_sp_tableEntry (a0 a1 : AVal) : runF Tryz.prog (tab l_s_sp_tableEntry) Tryz.f87 h_s_sp_tableEntry [a0, a1] = s_sp_tableEntry a0 a1 := by kernel_rfl
theorem ok_s_sp_tableEntry : FnOK Tryz.prog k_s_sp_tableEntry (ap2 s_sp_tableEntry) := fn_ok2 (l := l_s_sp_tableEntry) Tryz.checked.mixed (And.intro ok_s_sp_equalInts trivial) Tryz.func87 Tryz.call87 e_s_sp_tableEntry
def h_s_sp_TableLookup : Hint := .leaf
noncomputable def l_s_sp_TableLookup : List (Nat × (List AVal → AM AVal)) := [(k_s_sp_IsWellFormedTable, ap1 s_sp_IsWellFormedTable), (k_s_sp_tableEntry, ap2 s_sp_tableEntry)]
theorem e_s_sp_TableLookup (a0 a1 : AVal) : runF Tryz.prog (tab l_s_sp_TableLookup) Tryz.f36 h_s_sp_TableLookup [a0, a1] = s_sp_TableLookup a0 a1 := by kernel_rfl
theorem ok_s_sp_TableLookup : FnOK Tryz.prog k_s_sp_TableLookup (ap2 s_sp_TableLookup) := fn_ok2 (l := l_s_sp_TableLookup) Tryz.checked.mixed (And.intro ok_s_sp_IsWellFormedTable (And.intro ok_s_sp_tableEntry trivial)) Tryz.func36 Tryz.call36 e_s_sp_TableLookup
def h_s_sp_searchStates : Hint := (.pair .leaf (.pair .leaf (.pair (.draw [1, 2, 3, 0, 4, 5, 6]) (.pair (.draw [0, 3, 1, 2, 4]) .leaf))))
noncomputable def l_s_sp_searchStates : List (Nat × (List AVal → AM AVal)) := [(k_s_sp_IsValidPuzzle, ap1 s_sp_IsValidPuzzle), (k_s_sp_identity, ap1 s_sp_identity), (k_s_sp_searchFrom, ap2 s_sp_searchFrom)]
theorem e_s_sp_searchStates (a0 : AVal) : runF Tryz.prog (tab l_s_sp_searchStates) Tryz.f181 h_s_sp_searchStates [a0] = s_sp_searchStates a0 := by kernel_rfl
theorem ok_s_sp_searchStates : FnOK Tryz.prog k_s_sp_searchStates (ap1 s_sp_searchStates) := fn_ok1 (l := l_s_sp_searchStates) Tryz.checked.mixed (And.intro ok_s_sp_IsValidPuzzle (And.intro ok_s_sp_identity (And.intro ok_s_sp_searchFrom trivial))) Tryz.func181 Tryz.call181 e_s_sp_searchStates
def h_s_sp_depthOf : Hint := .leaf
noncomputable def l_s_sp_depthOf : List (Nat × (List AVal → AM AVal)) := [(k_s_sp_searchIndex, ap2 s_sp_searchIndex)]
theorem e_s_sp_depthOf (a0 a1 : AVal) : runF Tryz.prog (tab l_s_sp_depthOf) Tryz.f182 h_s_sp_depthOf [a0, a1] = s_sp_depthOf a0 a1 := by kernel_rfl
theorem ok_s_sp_depthOf : FnOK Tryz.prog k_s_sp_depthOf (ap2 s_sp_depthOf) := fn_ok2 (l := l_s_sp_depthOf) Tryz.checked.mixed (And.intro ok_s_sp_searchIndex trivial) Tryz.func182 Tryz.call182 e_s_sp_depthOf
def h_s_sp_searchState : Hint := .leaf
noncomputable def l_s_sp_searchState : List (Nat × (List AVal → AM AVal)) := [(k_s_sp_searchStates, ap1 s_sp_searchStates), (k_s_sp_IsState, ap2 s_sp_IsState), (k_s_sp_depthOf, ap2 s_sp_depthOf)]
theorem e_s_sp_searchState (a0 a1 : AVal) : runF Tryz.prog (tab l_s_sp_searchState) Tryz.f91 h_s_sp_searchState [a0, a1] = s_sp_searchState a0 a1 := by kernel_rfl
theorem ok_s_sp_searchState : FnOK Tryz.prog k_s_sp_searchState (ap2 s_sp_searchState) := fn_ok2 (l := l_s_sp_searchState) Tryz.checked.mixed (And.intro ok_s_sp_searchStates (And.intro ok_s_sp_IsState (And.intro ok_s_sp_depthOf trivial))) Tryz.func91 Tryz.call91 e_s_sp_searchState
def h_s_sp_Distance : Hint := .leaf
noncomputable def l_s_sp_Distance : List (Nat × (List AVal → AM AVal)) := [(k_s_sp_searchState, ap2 s_sp_searchState)]
theorem e_s_sp_Distance (a0 a1 : AVal) : runF Tryz.prog (tab l_s_sp_Distance) Tryz.f38 h_s_sp_Distance [a0, a1] = s_sp_Distance a0 a1 := by kernel_rfl
theorem ok_s_sp_Distance : FnOK Tryz.prog k_s_sp_Distance (ap2 s_sp_Distance) := fn_ok2 (l := l_s_sp_Distance) Tryz.checked.mixed (And.intro ok_s_sp_searchState trivial) Tryz.func38 Tryz.call38 e_s_sp_Distance
def h_s_lw_FnAdmissibleTables : Hint := (.pair .leaf (.pair .leaf (.pair .leaf (.pair .leaf (.pair .leaf (.pair .leaf (.pair (.draw [1, 2, 3, 0, 4, 5, 6, 7, 8, 9]) (.pair .leaf (.pair (.draw [1, 2, 3, 4, 5, 0, 6, 7]) .leaf)))))))))
noncomputable def l_s_lw_FnAdmissibleTables : List (Nat × (List AVal → AM AVal)) := [(k_s_lw_big, ap1 s_lw_big), (k_s_sp_DrawIsAdmissibleTable, ap1 s_sp_DrawIsAdmissibleTable), (k_s_im_IsAdmissibleTable, ap2 s_im_IsAdmissibleTable), (k_s_sp_IsAdmissibleTable, ap2 s_sp_IsAdmissibleTable), (k_s_lw_roll, ap2 s_lw_roll), (k_s_Plw_dice_below, ap2 s_Plw_dice_below), (k_s_sp_RandomState, ap2 s_sp_RandomState), (k_s_sp_PatternOf, ap3 s_sp_PatternOf), (k_s_sp_TableLookup, ap2 s_sp_TableLookup), (k_s_sp_Distance, ap2 s_sp_Distance)]
theorem e_s_lw_FnAdmissibleTables (a0 : AVal) : runF Tryz.prog (tab l_s_lw_FnAdmissibleTables) Tryz.f5 h_s_lw_FnAdmissibleTables [a0] = s_lw_FnAdmissibleTables a0 := by kernel_rfl
theorem ok_s_lw_FnAdmissibleTables : FnOK Tryz.prog k_s_lw_FnAdmissibleTables (ap1 s_lw_FnAdmissibleTables) := fn_ok1 (l := l_s_lw_FnAdmissibleTables) Tryz.checked.mixed (And.intro ok_s_lw_big (And.intro ok_s_sp_DrawIsAdmissibleTable (And.intro ok_s_im_IsAdmissibleTable (And.intro ok_s_sp_IsAdmissibleTable (And.intro ok_s_lw_roll (And.intro ok_s_Plw_dice_below (And.intro ok_s_sp_RandomState (And.intro ok_s_sp_PatternOf (And.intro ok_s_sp_TableLookup (And.intro ok_s_sp_Distance trivial)))))))))) Tryz.func5 Tryz.call5 e_s_lw_FnAdmissibleTables
end Go.Am

end

section
set_option linter.unusedSimpArgs false
set_option linter.unusedVariables false
/- The abstract machine, part X: the steps as rewriting laws; what the program's values stand for. -/
namespace Go.Am
section
variable {α β X : Type} {H : AHeap} {f : AVal → AM β} {Q : β → AHeap → Prop} {k : IntKind} {a b : Int}
theorem W_of {m : AM α} {a : α} {H' : AHeap} {Q : α → AHeap → Prop} (e : m H = some (a, H')) : W m H Q ↔ Q a H' := by
  constructor
  · rintro ⟨x, H1, h1, h2⟩
    rw [e] at h1; cases h1; exact h2
  · exact W.of e
theorem wr_e {γ : Type} {m : AM γ} {g : γ → AM β} {x : γ} {H' : AHeap} (e : m H = some (x, H')) : W (bnd m g) H Q ↔ W (g x) H' Q := by
  have : bnd m g H = g x H' := by simp [bnd, e]
  simp only [W, this]
theorem wr_p {γ : Type} {m : AM γ} {g : γ → AM β} {x : γ} (e : m = ret x) : W (bnd m g) H Q ↔ W (g x) H Q := wr_e (by rw [e]; rfl)
theorem Xa {γ : Type} {g : γ → AM β} {x : γ} : W (bnd (ret x) g) H Q ↔ W (g x) H Q := wr_p rfl
theorem wr_fin {x : α} {Q : α → AHeap → Prop} : W (ret x) H Q ↔ Q x H := W_of rfl
theorem XH {γ δ : Type} {m : AM γ} {g : γ → AM δ} {h : δ → AM β} : W (bnd (bnd m g) h) H Q ↔ W (bnd m fun a => bnd (g a) h) H Q := by
  have : bnd (bnd m g) h = bnd m fun a => bnd (g a) h := by
    funext H; simp only [bnd]
    cases m H with
    | none => rfl
    | some r => rfl
  rw [this]
theorem Xb {m : AM AVal} : W (bnd (gd (.bool true) true m) f) H Q ↔ W (bnd m f) H Q := by simp [gd]
theorem Xc {m : AM AVal} : W (bnd (gd (.bool false) false m) f) H Q ↔ W (bnd m f) H Q := by simp [gd]
theorem Xd {m : AM AVal} : W (bnd (gd (.bool true) false m) f) H Q ↔ W (f (.tuple [])) H Q := wr_p rfl
theorem Xf {w : Bool} {m : AM AVal} : W (bnd (gd (.tuple []) w m) f) H Q ↔ W (f (.tuple [])) H Q := wr_p rfl
theorem Xe {m : AM AVal} : W (bnd (gd (.bool false) true m) f) H Q ↔ W (f (.tuple [])) H Q := wr_p rfl
theorem Xg {x y : AVal} : W (bnd (pick3 (.bool true) x y) f) H Q ↔ W (f x) H Q := wr_p rfl
theorem Xh {x y : AVal} : W (bnd (pick3 (.bool false) x y) f) H Q ↔ W (f y) H Q := wr_p rfl
theorem Xi {t e : AM α} {Q : α → AHeap → Prop} : W (br (.bool true) t e) H Q ↔ W t H Q := Iff.rfl
theorem Xj {t e : AM α} {Q : α → AHeap → Prop} : W (br (.bool false) t e) H Q ↔ W e H Q := Iff.rfl
theorem Xk {γ : Type} {t e : AM γ} {g : γ → AM β} : W (bnd (br (.bool true) t e) g) H Q ↔ W (bnd t g) H Q := Iff.rfl
theorem Xl {γ : Type} {t e : AM γ} {g : γ → AM β} : W (bnd (br (.bool false) t e) g) H Q ↔ W (bnd e g) H Q := Iff.rfl
theorem Xm : W (bnd (abin .lss (.int k a) (.int k b)) f) H Q ↔ W (f (.bool (decide (a < b)))) H Q := wr_p (by simp [abin])
theorem Xn : W (bnd (abin .leq (.int k a) (.int k b)) f) H Q ↔ W (f (.bool (decide (a ≤ b)))) H Q := wr_p (by simp [abin])
theorem Xo : W (bnd (abin .gtr (.int k a) (.int k b)) f) H Q ↔ W (f (.bool (decide (b < a)))) H Q := wr_p (by simp [abin])
theorem Xp : W (bnd (abin .geq (.int k a) (.int k b)) f) H Q ↔ W (f (.bool (decide (b ≤ a)))) H Q := wr_p (by simp [abin])
theorem Xq : W (bnd (abin .eql (.int k a) (.int k b)) f) H Q ↔ W (f (.bool (decide (a = b)))) H Q := wr_p (by simp [abin]; rfl)
theorem Xr : W (bnd (abin .neq (.int k a) (.int k b)) f) H Q ↔ W (f (.bool (!decide (a = b)))) H Q := wr_p (by simp [abin]; rfl)
theorem wr_eqls {s t : List UInt8} : W (bnd (abin .eql (.str s) (.str t)) f) H Q ↔ W (f (.bool (decide (s = t)))) H Q := wr_p (by simp only [abin]; rw [show (s == t) = decide (s = t) from by rw [Bool.eq_iff_iff]; simp])
theorem wr_add (r : In64 (a + b)) : W (bnd (abin .add (i64 a) (i64 b)) f) H Q ↔ W (f (i64 (a + b))) H Q := wr_p (by simp [abin, wr, wrap_in r])
theorem wr_sub (r : In64 (a - b)) : W (bnd (abin .sub (i64 a) (i64 b)) f) H Q ↔ W (f (i64 (a - b))) H Q := wr_p (by simp [abin, wr, wrap_in r])
theorem wr_inc {n : Nat} (r : n < 1073741825) : W (bnd (abin .add (i64 (n : Int)) (i64 1)) f) H Q ↔ W (f (i64 ((n + 1 : Nat) : Int))) H Q := by
  rw [wr_add (by unfold In64; omega)]; rfl
theorem wr_neg (r : In64 (-a)) : W (bnd (aun .neg (i64 a)) f) H Q ↔ W (f (i64 (-a))) H Q := wr_p (by simp [aun, wr, wrap_in r])
theorem Xs {c : Bool} : W (bnd (aun .not (.bool c)) f) H Q ↔ W (f (.bool (!c))) H Q := wr_p rfl
theorem Xt {k' : IntKind} : W (bnd (cvInt k (.int k' a)) f) H Q ↔ W (f (.int k (k.wrap a))) H Q := wr_p rfl
theorem wr_extr {cs : List AVal} {n : Nat} : W (bnd (extr n (.tuple cs)) f) H Q ↔ W (match cs[n]? with | some v => f v | none => fail) H Q := by
  cases h : cs[n]? with
  | none => simp [extr, h, W, bnd, fail]
  | some v => exact wr_p (by simp [extr, h])
theorem Xu {x : AVal} {cs : List AVal} : W (bnd (extr 0 (.tuple (x :: cs))) f) H Q ↔ W (f x) H Q := wr_p rfl
theorem Xv {x y : AVal} {cs : List AVal} : W (bnd (extr 1 (.tuple (x :: y :: cs))) f) H Q ↔ W (f y) H Q := wr_p rfl
theorem Xw {x y z : AVal} {cs : List AVal} : W (bnd (extr 2 (.tuple (x :: y :: z :: cs))) f) H Q ↔ W (f z) H Q := wr_p rfl
theorem Xx {s : List UInt8} : W (bnd (lenT (.str s)) f) H Q ↔ W (f (i64 (s.length : Int))) H Q := wr_p rfl
theorem wr_ixStr {s : List UInt8} {n : Nat} (hn : n < s.length) : W (bnd (ixStr (.str s) (.int k (n : Int))) f) H Q ↔ W (f (.int .u8 (s[n]'hn).toNat)) H Q := wr_p (by simp [ixStr, hn])
theorem Xy {g : AHeap → AM β} : W (bnd getH g) H Q ↔ W (g H) H Q := wr_e rfl
theorem wr_lit0 {γ : Type} {g : List AVal → AM γ} {h : γ → AM β} : W (bnd (bnd (ret []) g) h) H Q ↔ W (bnd (g []) h) H Q := by rw [XH, Xa]
variable {R : AHeap → AVal → X → Prop} {m : Md} {P P' : Nat → Prop} {e : TypeId} {v : AVal} {L M : List X}
theorem XG (h : Seq R m P e H v L) {H0 : AHeap} : W (bnd (lenA v) f) H0 Q ↔ W (f (i64 (L.length : Int))) H0 Q := wr_p h.lenA
theorem wr_ix (h : Seq R m P e H v L) {H0 : AHeap} {n : Nat} (hn : n < L.length) : W (bnd (ixa 1 v (.int k (n : Int))) f) H0 Q ↔ W (f (elemP v n)) H0 Q := wr_p (h.ixa hn)

theorem gx0 {a : AVal} {s : List AVal} : gx (a :: s) 0 = a := rfl
theorem gx1 {a b : AVal} {s : List AVal} : gx (a :: b :: s) 1 = b := rfl
theorem gx2 {a b c : AVal} {s : List AVal} : gx (a :: b :: c :: s) 2 = c := rfl
theorem gx3 {a b c d : AVal} {s : List AVal} : gx (a :: b :: c :: d :: s) 3 = d := rfl
theorem ife_e {i : Nat} {A B : AM α} : ife (.exit i) (.exit i) A B = A := if_pos rfl
theorem ife_n {A B : AM α} : ife .normal .normal A B = A := if_pos rfl
theorem ife_r {A B : AM α} : ife .ret .ret A B = A := if_pos rfl
theorem Xz {i : Nat} {A B : AM α} : ife .ret (.exit i) A B = B := if_neg (by simp)
theorem ife_ne' {i : Nat} {A B : AM α} : ife .normal (.exit i) A B = B := if_neg (by simp)
theorem XA {A B : AM α} : ife .normal .ret A B = B := if_neg (by simp)
theorem XB {i : Nat} {A B : AM α} : ife (.exit i) .normal A B = B := if_neg (by simp)
theorem XC {A B : AM α} : ife .ret .normal A B = B := if_neg (by simp)
theorem XD {i : Nat} {A B : AM α} : ife (.exit i) .ret A B = B := if_neg (by simp)
end

/-! ### Loops; a search through indices -/
section
variable {α β : Type} {H : AHeap} {Q : β → AHeap → Prop}
theorem eq_of_W {m : AM α} {c : α} {H' : AHeap} (h : ∀ Q : α → AHeap → Prop, Q c H' → W m H Q) : m H = some (c, H') := by
  obtain ⟨r, H', h1, rfl, rfl⟩ := h (fun r H1 => r = c ∧ H1 = H') ⟨rfl, rfl⟩
  exact h1
theorem W.lq {body : List AVal → AM (Ex × List AVal)} {g : Ex × List AVal → AM β} (I : Nat → List AVal → AHeap → Prop) (R : Ex × List AVal → AHeap → Prop) (n : Nat) {s : List AVal} (h : I n s H)
    (step : ∀ n s H, I n s H → ∀ Q' : Ex × List AVal → AHeap → Prop, (∀ m s' H', m < n → I m s' H' → Q' (.normal, s') H') → (∀ e s' H', e ≠ .normal → R (e, s') H' → Q' (e, s') H') → W (body s) H Q')
    (k : ∀ r H', R r H' → W (g r) H' Q) : W (Am.bnd (loopL body s) g) H Q := by
  refine W.lp I R n h (fun n s H hi => step n s H hi _ (fun m s' H' hm h => ⟨m, hm, h⟩) fun e s' H' he hr => ?_) k
  cases e with
  | normal => exact absurd rfl he
  | exit i => exact hr
  | ret => exact hr
/-- 'for i := 0; i < n; i++ { if B(i) return .. }', where the heap stays. -/
theorem W.scan {body : List AVal → AM (Ex × List AVal)} {g : Ex × List AVal → AM β} {e : Nat} {w : List AVal} (n : Nat) (B : Nat → Prop) (val : Nat → List AVal)
    (step : ∀ i, i < n → ∀ Q' : Ex × List AVal → AHeap → Prop, (B i → Q' (.ret, val i) H) → (¬B i → Q' (.normal, [i64 ((i + 1 : Nat) : Int)]) H) → W (body [i64 (i : Int)]) H Q')
    (last : ∀ Q' : Ex × List AVal → AHeap → Prop, Q' (.exit e, w) H → W (body [i64 (n : Int)]) H Q')
    (k1 : ∀ i, i < n → B i → (∀ j, j < i → ¬B j) → W (g (.ret, val i)) H Q)
    (k2 : (∀ i, i < n → ¬B i) → W (g (.exit e, w)) H Q) : W (Am.bnd (loopL body [i64 0]) g) H Q := by
  refine W.lq (fun q s H1 => H1 = H ∧ ∃ i : Nat, q = n - i ∧ i ≤ n ∧ s = [i64 (i : Int)] ∧ ∀ j, j < i → ¬B j)
    (fun r H1 => H1 = H ∧ ((∃ i, i < n ∧ B i ∧ (∀ j, j < i → ¬B j) ∧ r = (.ret, val i)) ∨ ((∀ i, i < n → ¬B i) ∧ r = (.exit e, w)))) n ⟨rfl, 0, rfl, Nat.zero_le _, rfl, fun j h => absurd h (Nat.not_lt_zero _)⟩ ?_ ?_
  · rintro q s H1 ⟨rfl, i, rfl, hi, rfl, hb⟩ Q' kn kx
    by_cases hlt : i < n
    · refine step i hlt Q' (fun h1 => kx _ _ _ (by simp) ⟨rfl, .inl ⟨i, hlt, h1, hb, rfl⟩⟩) fun h1 => kn (n - (i + 1)) _ _ (by omega) ⟨rfl, i + 1, rfl, by omega, rfl, fun j hj => ?_⟩
      by_cases hji : j = i
      · subst hji; exact h1
      · exact hb j (by omega)
    · have : i = n := by omega
      subst this
      exact last Q' (kx _ _ _ (by simp) ⟨rfl, .inr ⟨hb, rfl⟩⟩)
  · rintro r H1 ⟨rfl, ⟨i, h1, h2, h3, rfl⟩ | ⟨h1, rfl⟩⟩
    · exact k1 i h1 h2 h3
    · exact k2 h1
/-- The same, where the rounds may make new blocks. -/
theorem W.scanLe {body : List AVal → AM (Ex × List AVal)} {g : Ex × List AVal → AM β} {e : Nat} {w : List AVal} (hp : Hp H) (n : Nat) (B : Nat → Prop) (val : Nat → List AVal)
    (step : ∀ i H1, i < n → Le H H1 → ∀ Q' : Ex × List AVal → AHeap → Prop, (∀ H2, Le H1 H2 → B i → Q' (.ret, val i) H2) → (∀ H2, Le H1 H2 → ¬B i → Q' (.normal, [i64 ((i + 1 : Nat) : Int)]) H2) → W (body [i64 (i : Int)]) H1 Q')
    (last : ∀ H1, Le H H1 → ∀ Q' : Ex × List AVal → AHeap → Prop, Q' (.exit e, w) H1 → W (body [i64 (n : Int)]) H1 Q')
    (k1 : ∀ i H1, Le H H1 → i < n → B i → (∀ j, j < i → ¬B j) → W (g (.ret, val i)) H1 Q)
    (k2 : ∀ H1, Le H H1 → (∀ i, i < n → ¬B i) → W (g (.exit e, w)) H1 Q) : W (Am.bnd (loopL body [i64 0]) g) H Q := by
  refine W.lq (fun q s H1 => Le H H1 ∧ ∃ i : Nat, q = n - i ∧ i ≤ n ∧ s = [i64 (i : Int)] ∧ ∀ j, j < i → ¬B j)
    (fun r H1 => Le H H1 ∧ ((∃ i, i < n ∧ B i ∧ (∀ j, j < i → ¬B j) ∧ r = (.ret, val i)) ∨ ((∀ i, i < n → ¬B i) ∧ r = (.exit e, w)))) n ⟨Le.refl hp, 0, rfl, Nat.zero_le _, rfl, fun j h => absurd h (Nat.not_lt_zero _)⟩ ?_ ?_
  · rintro q s H1 ⟨l1, i, rfl, hi, rfl, hb⟩ Q' kn kx
    by_cases hlt : i < n
    · refine step i H1 hlt l1 Q' (fun H2 l2 h1 => kx _ _ _ (by simp) ⟨l1.tr l2, .inl ⟨i, hlt, h1, hb, rfl⟩⟩) fun H2 l2 h1 => kn (n - (i + 1)) _ _ (by omega) ⟨l1.tr l2, i + 1, rfl, by omega, rfl, fun j hj => ?_⟩
      by_cases hji : j = i
      · subst hji; exact h1
      · exact hb j (by omega)
    · have : i = n := by omega
      subst this
      exact last H1 l1 Q' (kx _ _ _ (by simp) ⟨l1, .inr ⟨hb, rfl⟩⟩)
  · rintro r H1 ⟨l1, ⟨i, h1, h2, h3, rfl⟩ | ⟨h1, rfl⟩⟩
    · exact k1 i H1 l1 h1 h2 h3
    · exact k2 H1 l1 h1
end
/-! ### What values stand for -/
def RI (_ : AHeap) (v : AVal) (n : Int) : Prop := v = i64 n
def RB (_ : AHeap) (v : AVal) (b : UInt8) : Prop := v = .int .u8 (b.toNat : Int)
abbrev Ints (m : Md) (P : Nat → Prop) (H : AHeap) (v : AVal) (L : List Int) : Prop := Seq RI m P t_int64 H v L
abbrev IntsI (m : Md) (P : Nat → Prop) (H : AHeap) (v : AVal) (L : List Int) : Prop := Seq RI m P t_int H v L
abbrev Bytes (m : Md) (P : Nat → Prop) (H : AHeap) (v : AVal) (L : List UInt8) : Prop := Seq RB m P t_uint8 H v L
def RL (P : Nat → Prop) (H : AHeap) (v : AVal) (L : List Int) : Prop := Ints .ro P H v L
abbrev Lists (m : Md) (P P2 : Nat → Prop) (H : AHeap) (v : AVal) (L : List (List Int)) : Prop := Seq (RL P2) m P t_Sint64 H v L
section
variable {β : Type} {f : AVal → AM β} {Q : β → AHeap → Prop} {m : Md} {P P2 P' : Nat → Prop} {e : TypeId} {H H' : AHeap} {v x : AVal} {L : List Int} {LL : List (List Int)} {LB : List UInt8}
theorem seqI_ld (h : Seq RI m P e H v L) {n : Nat} (hn : n < L.length) : ld1 (elemP v n) H = some (i64 L[n], H) := by
  obtain ⟨x, h1, h2, h3⟩ := h.ld1 hn
  rw [h1, show x = i64 L[n] from h2]
theorem seqB_ld (h : Seq RB m P e H v LB) {n : Nat} (hn : n < LB.length) : ld1 (elemP v n) H = some (.int .u8 (LB[n].toNat : Int), H) := by
  obtain ⟨x, h1, h2, h3⟩ := h.ld1 hn
  rw [h1, show x = _ from h2]
theorem wr_ldI (h : Seq RI m P e H v L) {n : Nat} (hn : n < L.length) : W (bnd (ld1 (elemP v n)) f) H Q ↔ W (f (i64 L[n])) H Q := wr_e (seqI_ld h hn)
theorem wr_ldB (h : Seq RB m P e H v LB) {n : Nat} (hn : n < LB.length) : W (bnd (ld1 (elemP v n)) f) H Q ↔ W (f (.int .u8 (LB[n].toNat : Int))) H Q := wr_e (seqB_ld h hn)
theorem stI {S : Nat → Prop} {v : AVal} {n : Int} (h : RI H v n) : RI H' v n := h
theorem Seq.frI {m : Md} (h : Seq RI m P e H v L) {S : Nat → Prop} (hf : Fr S H H') (hS : ∀ id c fz, id < H.next → P id → H.get id = some (.cells c e fz) → ¬S id) : Seq RI m P e H' v L := h.fr hf hS fun _ _ h => h
theorem Seq.leI (h : Seq RI m P e H v L) (hf : Le H H') : Seq RI m P e H' v L := h.frI hf fun _ _ _ _ _ _ h => h
theorem Seq.leB (h : Seq RB m P e H v LB) (hf : Le H H') : Seq RB m P e H' v LB := h.fr hf (fun _ _ _ _ _ _ h => h) fun _ _ h => h
theorem Seq.leL (h : Lists m P P2 H v LL) (hf : Le H H') : Lists m P P2 H' v LL := h.fr hf (fun _ _ _ _ _ _ h => h) fun _ _ h => Seq.leI h hf
/-- A change of blocks of another element type. -/
theorem Bk.ne {P' : Nat → Prop} {e e' : TypeId} (he : e ≠ e') {id : Nat} {c : List AVal} {fz : Nat} (h : H.get id = some (.cells c e' fz)) : ¬Bk P' e H id := by
  rintro ⟨_, c', fz', h'⟩
  rw [h] at h'; cases h'; exact he rfl
theorem Seq.bkI {e' : TypeId} (h : Seq RI m P e H v L) (hf : Fr (Bk P' e' H) H H') (he : e' ≠ e) : Seq RI m P e H' v L := h.frI hf fun id c fz _ _ hg => Bk.ne he hg
theorem Seq.bkL {e' : TypeId} (h : Lists m P P2 H v LL) (hf : Fr (Bk P' e' H) H H') (he : e' ≠ t_Sint64) (he' : e' ≠ t_int64) : Lists m P P2 H' v LL :=
  h.fr hf (fun id c fz _ _ hg => Bk.ne he hg) fun _ _ h => Seq.bkI h hf he'

/-! The first functions -/
theorem c_inRange {a b c : Int} : s_sp_inRange (i64 a) (i64 b) (i64 c) H = some (.bool (decide (b ≤ a ∧ a ≤ c)), H) := by
  have : W (s_sp_inRange (i64 a) (i64 b) (i64 c)) H fun r H' => r = .bool (decide (b ≤ a ∧ a ≤ c)) ∧ H' = H := by
    unfold s_sp_inRange
    simp only [↓Xp]
    by_cases h : b ≤ a
    · simp only [h, decide_true, ↓Xb, ↓Xa, ↓Xn, ↓Xg, ↓wr_fin, true_and, and_true]
    · simp only [h, decide_false, ↓Xe, ↓Xa, ↓Xn, ↓Xh, ↓wr_fin, false_and, and_true]
  obtain ⟨r, H', h1, rfl, rfl⟩ := this
  exact h1
end
end Go.Am

end

section
set_option linter.unusedSimpArgs false
set_option linter.unusedVariables false
/- Contracts of the functions on lists. -/
namespace Go.Am
section
variable {β : Type} {f : AVal → AM β} {Q : β → AHeap → Prop} {m m2 : Md} {P P2 P3 P' : Nat → Prop} {e e2 : TypeId} {H H' : AHeap} {v u x : AVal} {A B L : List Int} {LL : List (List Int)}

theorem c_equalInts (ha : Seq RI m P e H v A) (hb : Seq RI m2 P2 e2 H u B) : s_sp_equalInts v u H = some (.bool (decide (A = B)), H) := by
  refine eq_of_W fun Q k => ?_
  have hba := ha.bd
  unfold s_sp_equalInts
  simp only [↓XG ha, ↓XG hb, ↓Xr]
  by_cases hl : (A.length : Int) = B.length
  · have hl' : A.length = B.length := by omega
    simp only [hl, decide_true, Bool.not_true, ↓Xj]
    refine W.scan (e := 0) (w := [.undef]) A.length (fun i => A[i]? ≠ B[i]?) (fun _ => [.bool false]) (fun i hi Q' k1 k2 => ?_) (fun Q' k1 => ?_) (fun i hi hb _ => ?_) fun hb => ?_
    · have hi' : i < B.length := by omega
      have : ((i : Int) < A.length) := by omega
      simp only [↓XG ha, gx0, ↓Xm, this, decide_true, ↓Xi, ↓wr_ix ha hi, ↓wr_ldI ha hi, ↓wr_ix hb hi', ↓wr_ldI hb hi', ↓Xr]
      by_cases hq : A[i] = B[i]
      · simp only [hq, decide_true, Bool.not_true, ↓Xj]
        rw [wr_inc (by omega)]
        exact W.ret (k2 (by simp [hi, hi', hq]))
      · simp only [hq, decide_false, Bool.not_false, ↓Xi]
        exact W.ret (k1 (by simp [hi, hi', hq]))
    · simp only [↓XG ha, gx0, ↓Xm, Int.lt_irrefl, decide_false, ↓Xj]
      exact W.ret k1
    · simp only [Xz, ife_r, gx0]
      have : A ≠ B := fun h => hb (by rw [h])
      exact W.ret (by simpa [this] using k)
    · simp only [ife_e]
      have : A = B := List.ext_getElem? fun i => by
        by_cases hi : i < A.length
        · exact Classical.not_not.1 (hb i hi)
        · rw [List.getElem?_eq_none (by omega), List.getElem?_eq_none (by omega)]
      exact W.ret (by simpa [this] using k)
  · simp only [hl, decide_false, Bool.not_false, ↓Xi]
    have : A ≠ B := fun h => hl (by rw [h])
    exact W.ret (by simpa [this] using k)
theorem c_copyInts {Q : AVal → AHeap → Prop} (hp : Hp H) (ha : Ints m P H v A) (k : ∀ r H', Le H H' → Ints .own (Nw H) H' r A → Q r H') : W (s_sp_copyInts v) H Q := by
  unfold s_sp_copyInts
  refine W.emp (R := RI) hp fun x H1 l1 h1 => ?_
  refine W.app (P := Nw H) l1.wf h1 (ha.leI l1) (by decide) (by simpa using ha.bd) (fun id h => Nat.le_trans l1.nx h) (fun _ _ _ _ h => h) fun y H2 l2 h2 => ?_
  exact W.ret (k _ _ (l1.nw l2 fun id hi h => absurd h.1 (by omega)) (by simpa using h2))
theorem c_containsInt (ha : Seq RI m P e H v A) {n : Int} : s_sp_containsInt v (i64 n) H = some (.bool (decide (n ∈ A)), H) := by
  refine eq_of_W fun Q k => ?_
  have hba := ha.bd
  unfold s_sp_containsInt
  refine W.scan (e := 0) (w := [.undef]) A.length (fun i => A[i]? = some n) (fun _ => [.bool true]) (fun i hi Q' k1 k2 => ?_) (fun Q' k1 => ?_) (fun i hi hb _ => ?_) fun hb => ?_
  · have : (i : Int) < A.length := by omega
    simp only [↓XG ha, gx0, ↓Xm, this, decide_true, ↓Xi, ↓wr_ix ha hi, ↓wr_ldI ha hi, ↓Xq]
    by_cases h : A[i] = n
    · simp only [h, decide_true, ↓Xi]
      exact W.ret (k1 (by simp [hi, h]))
    · simp only [h, decide_false, ↓Xj]
      rw [wr_inc (by omega)]
      exact W.ret (k2 (by simp [hi, h]))
  · simp only [↓XG ha, gx0, ↓Xm, Int.lt_irrefl, decide_false, ↓Xj]
    exact W.ret k1
  · simp only [Xz, ife_r, gx0]
    exact W.ret (by simpa [List.mem_of_getElem? hb] using k)
  · simp only [ife_e]
    have : n ∉ A := fun h => by
      obtain ⟨i, hi, h⟩ := List.mem_iff_getElem.1 h
      exact hb i hi (by simp [hi, h])
    exact W.ret (by simpa [this] using k)
theorem nodup_iff_take {α : Type} {L : List α} : L.Nodup ↔ ∀ i (hi : i < L.length), L[i] ∉ L.take i := by
  rw [List.nodup_iff_pairwise_ne, List.pairwise_iff_getElem]
  constructor
  · intro h i hi hm
    obtain ⟨j, hj, he⟩ := List.mem_iff_getElem.1 hm
    simp only [List.length_take] at hj
    rw [List.getElem_take] at he
    exact h j i (by omega) hi (by omega) he
  · intro h i j hi hj hij he
    exact h j hj (by rw [List.mem_iff_getElem]; exact ⟨i, by simp; omega, by rw [List.getElem_take]; exact he⟩)
theorem bnds_hi {n i : Nat} {k : IntKind} (h : i ≤ n) : bnds n none (some (.int k (i : Int))) = some (0, i) := by
  simp [bnds, bndOf, h]
/-- Distinct points of n. -/
def Dist (n : Int) (A : List Int) : Prop := (∀ x ∈ A, 0 ≤ x ∧ x ≤ n - 1) ∧ A.Nodup
noncomputable instance {n : Int} {A : List Int} : Decidable (Dist n A) := Classical.propDecidable _
theorem dist_iff {n : Int} {A : List Int} : Dist n A ↔ ∀ i (h : i < A.length), (0 ≤ A[i] ∧ A[i] ≤ n - 1) ∧ A[i] ∉ A.take i := by
  constructor
  · rintro ⟨h1, h2⟩ i h
    exact ⟨h1 _ (List.getElem_mem h), nodup_iff_take.1 h2 i h⟩
  · intro h
    refine ⟨fun x hx => ?_, nodup_iff_take.2 fun i hi => (h i hi).2⟩
    obtain ⟨i, hi, rfl⟩ := List.mem_iff_getElem.1 hx
    exact (h i hi).1
/-- A permutation. -/
def IsPerm (A : List Int) : Prop := (1 ≤ (A.length : Int) ∧ (A.length : Int) ≤ 20) ∧ Dist A.length A
noncomputable instance {A : List Int} : Decidable (IsPerm A) := Classical.propDecidable _
theorem c_IsPermutation (ha : Ints .ro P H v A) : s_sp_IsPermutation v H = some (.bool (decide (IsPerm A)), H) := by
  refine eq_of_W fun Q k => ?_
  have hba := ha.bd
  unfold s_sp_IsPermutation
  simp only [↓XG ha, ↓wr_e c_inRange, ↓Xs]
  by_cases h0 : (1 ≤ (A.length : Int) ∧ (A.length : Int) ≤ 20)
  · simp only [h0, decide_true, Bool.not_true, ↓Xj, and_self]
    refine W.scan (e := 0) (w := [.undef]) A.length (fun i => ¬∃ h : i < A.length, (0 ≤ A[i] ∧ A[i] ≤ (A.length : Int) - 1) ∧ A[i] ∉ A.take i) (fun _ => [.bool false]) (fun i hi Q' k1 k2 => ?_) (fun Q' k1 => ?_) (fun i hi hb _ => ?_) fun hb => ?_
    · have : (i : Int) < A.length := by omega
      have hs : In64 ((A.length : Int) - 1) := by unfold In64; omega
      simp only [↓XG ha, gx0, ↓Xm, this, decide_true, ↓Xi, ↓wr_ix ha hi, ↓wr_ldI ha hi, ↓wr_sub hs, ↓wr_e c_inRange, ↓Xs]
      by_cases h1 : 0 ≤ A[i] ∧ A[i] ≤ (A.length : Int) - 1
      · obtain ⟨y, hy, hsl⟩ := ha.sl (bnds_hi (k := .i64) (Nat.le_of_lt hi)) (by simp) ⟨Nat.zero_le _, Nat.le_of_lt hi⟩
        simp only [h1, decide_true, Bool.not_true, ↓Xc, ↓Xa, ↓wr_p hy, ↓wr_ix ha hi, ↓wr_ldI ha hi, ↓wr_e (c_containsInt hsl), ↓Xh, and_self, List.drop_zero]
        by_cases h2 : A[i] ∈ A.take i
        · simp only [h2, decide_true, ↓Xi]
          exact W.ret (k1 fun ⟨_, h⟩ => h.2 h2)
        · simp only [h2, decide_false, ↓Xj]
          rw [wr_inc (by omega)]
          exact W.ret (k2 fun h => h ⟨hi, h1, h2⟩)
      · simp only [h1, decide_false, Bool.not_false, ↓Xd, ↓Xg, ↓Xi]
        exact W.ret (k1 fun ⟨_, h⟩ => h1 h.1)
    · simp only [↓XG ha, gx0, ↓Xm, Int.lt_irrefl, decide_false, ↓Xj]
      exact W.ret k1
    · simp only [Xz, ife_r, gx0]
      have : ¬IsPerm A := fun ⟨_, h1⟩ => hb ⟨hi, dist_iff.1 h1 i hi⟩
      exact W.ret (by simpa [this] using k)
    · simp only [ife_e]
      have : IsPerm A := ⟨h0, dist_iff.2 fun i hi => (Classical.not_not.1 (hb i hi)).2⟩
      exact W.ret (by simpa [this] using k)
  · simp only [h0, decide_false, Bool.not_false, ↓Xi]
    have : ¬IsPerm A := fun h => h0 h.1
    exact W.ret (by simpa [this] using k)
end
end Go.Am

end

section
set_option linter.unusedSimpArgs false
set_option linter.unusedVariables false
/- Contracts of the functions on puzzles and patterns. -/
namespace Go.Am
section
variable {β : Type} {f : AVal → AM β} {Q : AVal → AHeap → Prop} {m m2 : Md} {P P2 P3 P' : Nat → Prop} {e e2 : TypeId} {H H' : AHeap} {v u x : AVal} {A B L : List Int} {LL : List (List Int)}

theorem c_isDistinctList {n k : Int} (ha : Ints .ro P H v A) (hn : In64 (n - 1)) : s_sp_isDistinctList (i64 n) v (i64 k) H = some (.bool (decide ((A.length : Int) = k ∧ Dist n A)), H) := by
  refine eq_of_W fun Q kq => ?_
  have hba := ha.bd
  unfold s_sp_isDistinctList
  simp only [↓XG ha, ↓Xa, ↓Xb, ↓Xc, ↓Xd, ↓Xe, ↓Xf, ↓Xg, ↓Xh, ↓Xi, ↓Xj, ↓Xk, ↓Xl, ↓Xm, ↓Xn, ↓Xo, ↓Xp, ↓Xq, ↓Xr, ↓Xs, ↓Xt, ↓Xu, ↓Xv, ↓Xw, ↓Xx, ↓Xy, gx0, gx1, gx2, gx3, ife_e, ife_n, ife_r, Xz, ife_ne', XA, XB, XC, XD, decide_true, decide_false, Bool.not_true, Bool.not_false]
  by_cases h0 : (A.length : Int) = k
  · simp only [h0, ↓Xa, ↓Xb, ↓Xc, ↓Xd, ↓Xe, ↓Xf, ↓Xg, ↓Xh, ↓Xi, ↓Xj, ↓Xk, ↓Xl, ↓Xm, ↓Xn, ↓Xo, ↓Xp, ↓Xq, ↓Xr, ↓Xs, ↓Xt, ↓Xu, ↓Xv, ↓Xw, ↓Xx, ↓Xy, gx0, gx1, gx2, gx3, ife_e, ife_n, ife_r, Xz, ife_ne', XA, XB, XC, XD, decide_true, decide_false, Bool.not_true, Bool.not_false]
    refine W.scan (e := 0) (w := [.undef]) A.length (fun i => ¬∃ h : i < A.length, (0 ≤ A[i] ∧ A[i] ≤ n - 1) ∧ A[i] ∉ A.take i) (fun _ => [.bool false]) (fun i hi Q' k1 k2 => ?_) (fun Q' k1 => ?_) (fun i hi hb _ => ?_) fun hb => ?_
    · have : (i : Int) < A.length := by omega
      simp only [↓XG ha, this, ↓Xa, ↓Xb, ↓Xc, ↓Xd, ↓Xe, ↓Xf, ↓Xg, ↓Xh, ↓Xi, ↓Xj, ↓Xk, ↓Xl, ↓Xm, ↓Xn, ↓Xo, ↓Xp, ↓Xq, ↓Xr, ↓Xs, ↓Xt, ↓Xu, ↓Xv, ↓Xw, ↓Xx, ↓Xy, gx0, gx1, gx2, gx3, ife_e, ife_n, ife_r, Xz, ife_ne', XA, XB, XC, XD, decide_true, decide_false, Bool.not_true, Bool.not_false, ↓wr_ix ha hi, ↓wr_ldI ha hi, ↓wr_sub hn, ↓wr_e c_inRange]
      by_cases h1 : 0 ≤ A[i] ∧ A[i] ≤ n - 1
      · obtain ⟨y, hy, hsl⟩ := ha.sl (bnds_hi (k := .i64) (Nat.le_of_lt hi)) (by simp) ⟨Nat.zero_le _, Nat.le_of_lt hi⟩
        simp only [h1, ↓Xa, ↓Xb, ↓Xc, ↓Xd, ↓Xe, ↓Xf, ↓Xg, ↓Xh, ↓Xi, ↓Xj, ↓Xk, ↓Xl, ↓Xm, ↓Xn, ↓Xo, ↓Xp, ↓Xq, ↓Xr, ↓Xs, ↓Xt, ↓Xu, ↓Xv, ↓Xw, ↓Xx, ↓Xy, gx0, gx1, gx2, gx3, ife_e, ife_n, ife_r, Xz, ife_ne', XA, XB, XC, XD, decide_true, decide_false, Bool.not_true, Bool.not_false, ↓wr_p hy, ↓wr_ix ha hi, ↓wr_ldI ha hi, ↓wr_e (c_containsInt hsl), and_self, List.drop_zero]
        by_cases h2 : A[i] ∈ A.take i
        · simp only [h2, ↓Xa, ↓Xb, ↓Xc, ↓Xd, ↓Xe, ↓Xf, ↓Xg, ↓Xh, ↓Xi, ↓Xj, ↓Xk, ↓Xl, ↓Xm, ↓Xn, ↓Xo, ↓Xp, ↓Xq, ↓Xr, ↓Xs, ↓Xt, ↓Xu, ↓Xv, ↓Xw, ↓Xx, ↓Xy, gx0, gx1, gx2, gx3, ife_e, ife_n, ife_r, Xz, ife_ne', XA, XB, XC, XD, decide_true, decide_false, Bool.not_true, Bool.not_false]
          exact W.ret (k1 fun ⟨_, h⟩ => h.2 h2)
        · simp only [h2, ↓Xa, ↓Xb, ↓Xc, ↓Xd, ↓Xe, ↓Xf, ↓Xg, ↓Xh, ↓Xi, ↓Xj, ↓Xk, ↓Xl, ↓Xm, ↓Xn, ↓Xo, ↓Xp, ↓Xq, ↓Xr, ↓Xs, ↓Xt, ↓Xu, ↓Xv, ↓Xw, ↓Xx, ↓Xy, gx0, gx1, gx2, gx3, ife_e, ife_n, ife_r, Xz, ife_ne', XA, XB, XC, XD, decide_true, decide_false, Bool.not_true, Bool.not_false]
          rw [wr_inc (by omega)]
          exact W.ret (k2 fun h => h ⟨hi, h1, h2⟩)
      · simp only [h1, ↓Xa, ↓Xb, ↓Xc, ↓Xd, ↓Xe, ↓Xf, ↓Xg, ↓Xh, ↓Xi, ↓Xj, ↓Xk, ↓Xl, ↓Xm, ↓Xn, ↓Xo, ↓Xp, ↓Xq, ↓Xr, ↓Xs, ↓Xt, ↓Xu, ↓Xv, ↓Xw, ↓Xx, ↓Xy, gx0, gx1, gx2, gx3, ife_e, ife_n, ife_r, Xz, ife_ne', XA, XB, XC, XD, decide_true, decide_false, Bool.not_true, Bool.not_false]
        exact W.ret (k1 fun ⟨_, h⟩ => h1 h.1)
    · simp only [↓XG ha, ↓Xa, ↓Xb, ↓Xc, ↓Xd, ↓Xe, ↓Xf, ↓Xg, ↓Xh, ↓Xi, ↓Xj, ↓Xk, ↓Xl, ↓Xm, ↓Xn, ↓Xo, ↓Xp, ↓Xq, ↓Xr, ↓Xs, ↓Xt, ↓Xu, ↓Xv, ↓Xw, ↓Xx, ↓Xy, gx0, gx1, gx2, gx3, ife_e, ife_n, ife_r, Xz, ife_ne', XA, XB, XC, XD, decide_true, decide_false, Bool.not_true, Bool.not_false, Int.lt_irrefl]
      exact W.ret k1
    · simp only [↓Xa, ↓Xb, ↓Xc, ↓Xd, ↓Xe, ↓Xf, ↓Xg, ↓Xh, ↓Xi, ↓Xj, ↓Xk, ↓Xl, ↓Xm, ↓Xn, ↓Xo, ↓Xp, ↓Xq, ↓Xr, ↓Xs, ↓Xt, ↓Xu, ↓Xv, ↓Xw, ↓Xx, ↓Xy, gx0, gx1, gx2, gx3, ife_e, ife_n, ife_r, Xz, ife_ne', XA, XB, XC, XD, decide_true, decide_false, Bool.not_true, Bool.not_false]
      have : ¬((A.length : Int) = k ∧ Dist n A) := fun ⟨_, h1⟩ => hb ⟨hi, dist_iff.1 h1 i hi⟩
      exact W.ret (by simpa only [this, decide_false] using kq)
    · simp only [↓Xa, ↓Xb, ↓Xc, ↓Xd, ↓Xe, ↓Xf, ↓Xg, ↓Xh, ↓Xi, ↓Xj, ↓Xk, ↓Xl, ↓Xm, ↓Xn, ↓Xo, ↓Xp, ↓Xq, ↓Xr, ↓Xs, ↓Xt, ↓Xu, ↓Xv, ↓Xw, ↓Xx, ↓Xy, gx0, gx1, gx2, gx3, ife_e, ife_n, ife_r, Xz, ife_ne', XA, XB, XC, XD, decide_true, decide_false, Bool.not_true, Bool.not_false]
      have : (A.length : Int) = k ∧ Dist n A := ⟨h0, dist_iff.2 fun i hi => (Classical.not_not.1 (hb i hi)).2⟩
      exact W.ret (by simpa only [this, and_self, decide_true] using kq)
  · simp only [h0, ↓Xa, ↓Xb, ↓Xc, ↓Xd, ↓Xe, ↓Xf, ↓Xg, ↓Xh, ↓Xi, ↓Xj, ↓Xk, ↓Xl, ↓Xm, ↓Xn, ↓Xo, ↓Xp, ↓Xq, ↓Xr, ↓Xs, ↓Xt, ↓Xu, ↓Xv, ↓Xw, ↓Xx, ↓Xy, gx0, gx1, gx2, gx3, ife_e, ife_n, ife_r, Xz, ife_ne', XA, XB, XC, XD, decide_true, decide_false, Bool.not_true, Bool.not_false]
    exact W.ret (by simpa [h0] using kq)

/-- A strictly increasing list of points of n. -/
def PtList (n : Int) (A : List Int) : Prop := (1 ≤ (A.length : Int) ∧ (A.length : Int) ≤ n) ∧ (∀ x ∈ A, 0 ≤ x ∧ x ≤ n - 1) ∧ A.Pairwise (· < ·)
noncomputable instance {n : Int} {A : List Int} : Decidable (PtList n A) := Classical.propDecidable _
theorem incr_iff : A.Pairwise (· < ·) ↔ ∀ i (h : i < A.length), 0 < i → A[i - 1] < A[i] := by
  rw [List.pairwise_iff_getElem]
  constructor
  · intro h i hi h0
    exact h (i - 1) i (by omega) hi (by omega)
  · intro h i j hi hj hij
    induction j with
    | zero => omega
    | succ j ih =>
      have hs := h (j + 1) hj (by omega)
      simp only [Nat.add_sub_cancel] at hs
      by_cases he : i = j
      · subst he; exact hs
      · exact Int.lt_trans (ih (by omega) (by omega)) hs
theorem pt_iff {n : Int} : PtList n A ↔ (1 ≤ (A.length : Int) ∧ (A.length : Int) ≤ n) ∧ ∀ i (h : i < A.length), (0 ≤ A[i] ∧ A[i] ≤ n - 1) ∧ (0 < i → A[i - 1] < A[i]) := by
  unfold PtList
  rw [incr_iff]
  constructor
  · rintro ⟨h0, h1, h2⟩
    exact ⟨h0, fun i hi => ⟨h1 _ (List.getElem_mem hi), h2 i hi⟩⟩
  · rintro ⟨h0, h⟩
    refine ⟨h0, fun x hx => ?_, fun i hi => (h i hi).2⟩
    obtain ⟨i, hi, rfl⟩ := List.mem_iff_getElem.1 hx
    exact (h i hi).1
theorem c_isPointList {n : Int} (ha : Ints .ro P H v A) (hn : n ≤ 9223372036854775807) : s_sp_isPointList (i64 n) v H = some (.bool (decide (PtList n A)), H) := by
  refine eq_of_W fun Q kq => ?_
  have hba := ha.bd
  unfold s_sp_isPointList
  simp only [↓XG ha, ↓Xa, ↓Xb, ↓Xc, ↓Xd, ↓Xe, ↓Xf, ↓Xg, ↓Xh, ↓Xi, ↓Xj, ↓Xk, ↓Xl, ↓Xm, ↓Xn, ↓Xo, ↓Xp, ↓Xq, ↓Xr, ↓Xs, ↓Xt, ↓Xu, ↓Xv, ↓Xw, ↓Xx, ↓Xy, gx0, gx1, gx2, gx3, ife_e, ife_n, ife_r, Xz, ife_ne', XA, XB, XC, XD, decide_true, decide_false, Bool.not_true, Bool.not_false, ↓wr_e c_inRange]
  by_cases h0 : 1 ≤ (A.length : Int) ∧ (A.length : Int) ≤ n
  · have hs : In64 (n - 1) := by unfold In64; omega
    simp only [h0, ↓Xa, ↓Xb, ↓Xc, ↓Xd, ↓Xe, ↓Xf, ↓Xg, ↓Xh, ↓Xi, ↓Xj, ↓Xk, ↓Xl, ↓Xm, ↓Xn, ↓Xo, ↓Xp, ↓Xq, ↓Xr, ↓Xs, ↓Xt, ↓Xu, ↓Xv, ↓Xw, ↓Xx, ↓Xy, gx0, gx1, gx2, gx3, ife_e, ife_n, ife_r, Xz, ife_ne', XA, XB, XC, XD, decide_true, decide_false, Bool.not_true, Bool.not_false, and_self]
    refine W.scan (e := 0) (w := [.undef]) A.length (fun i => ¬∃ h : i < A.length, (0 ≤ A[i] ∧ A[i] ≤ n - 1) ∧ (0 < i → A[i - 1] < A[i])) (fun _ => [.bool false]) (fun i hi Q' k1 k2 => ?_) (fun Q' k1 => ?_) (fun i hi hb _ => ?_) fun hb => ?_
    · have : (i : Int) < A.length := by omega
      simp only [↓XG ha, this, ↓Xa, ↓Xb, ↓Xc, ↓Xd, ↓Xe, ↓Xf, ↓Xg, ↓Xh, ↓Xi, ↓Xj, ↓Xk, ↓Xl, ↓Xm, ↓Xn, ↓Xo, ↓Xp, ↓Xq, ↓Xr, ↓Xs, ↓Xt, ↓Xu, ↓Xv, ↓Xw, ↓Xx, ↓Xy, gx0, gx1, gx2, gx3, ife_e, ife_n, ife_r, Xz, ife_ne', XA, XB, XC, XD, decide_true, decide_false, Bool.not_true, Bool.not_false, ↓wr_ix ha hi, ↓wr_ldI ha hi, ↓wr_sub hs, ↓wr_e c_inRange]
      by_cases h1 : 0 ≤ A[i] ∧ A[i] ≤ n - 1
      · by_cases h2 : 0 < i
        · have h2' : (0 : Int) < (i : Int) := by omega
          have h3 : In64 ((i : Int) - 1) := by unfold In64; omega
          have h4 : (i : Int) - 1 = ((i - 1 : Nat) : Int) := by omega
          have h5 : i - 1 < A.length := by omega
          simp only [h1, h2', ↓Xa, ↓Xb, ↓Xc, ↓Xd, ↓Xe, ↓Xf, ↓Xg, ↓Xh, ↓Xi, ↓Xj, ↓Xk, ↓Xl, ↓Xm, ↓Xn, ↓Xo, ↓Xp, ↓Xq, ↓Xr, ↓Xs, ↓Xt, ↓Xu, ↓Xv, ↓Xw, ↓Xx, ↓Xy, gx0, gx1, gx2, gx3, ife_e, ife_n, ife_r, Xz, ife_ne', XA, XB, XC, XD, decide_true, decide_false, Bool.not_true, Bool.not_false, ↓wr_ix ha hi, ↓wr_ldI ha hi, ↓wr_sub h3, and_self]
          rw [h4]
          simp only [↓Xa, ↓Xb, ↓Xc, ↓Xd, ↓Xe, ↓Xf, ↓Xg, ↓Xh, ↓Xi, ↓Xj, ↓Xk, ↓Xl, ↓Xm, ↓Xn, ↓Xo, ↓Xp, ↓Xq, ↓Xr, ↓Xs, ↓Xt, ↓Xu, ↓Xv, ↓Xw, ↓Xx, ↓Xy, gx0, gx1, gx2, gx3, ife_e, ife_n, ife_r, Xz, ife_ne', XA, XB, XC, XD, decide_true, decide_false, Bool.not_true, Bool.not_false, ↓wr_ix ha h5, ↓wr_ldI ha h5]
          by_cases h6 : A[i] ≤ A[i - 1]
          · simp only [h6, ↓Xa, ↓Xb, ↓Xc, ↓Xd, ↓Xe, ↓Xf, ↓Xg, ↓Xh, ↓Xi, ↓Xj, ↓Xk, ↓Xl, ↓Xm, ↓Xn, ↓Xo, ↓Xp, ↓Xq, ↓Xr, ↓Xs, ↓Xt, ↓Xu, ↓Xv, ↓Xw, ↓Xx, ↓Xy, gx0, gx1, gx2, gx3, ife_e, ife_n, ife_r, Xz, ife_ne', XA, XB, XC, XD, decide_true, decide_false, Bool.not_true, Bool.not_false]
            exact W.ret (k1 fun ⟨_, h⟩ => by have := h.2 h2; omega)
          · simp only [h6, ↓Xa, ↓Xb, ↓Xc, ↓Xd, ↓Xe, ↓Xf, ↓Xg, ↓Xh, ↓Xi, ↓Xj, ↓Xk, ↓Xl, ↓Xm, ↓Xn, ↓Xo, ↓Xp, ↓Xq, ↓Xr, ↓Xs, ↓Xt, ↓Xu, ↓Xv, ↓Xw, ↓Xx, ↓Xy, gx0, gx1, gx2, gx3, ife_e, ife_n, ife_r, Xz, ife_ne', XA, XB, XC, XD, decide_true, decide_false, Bool.not_true, Bool.not_false]
            rw [wr_inc (by omega)]
            exact W.ret (k2 fun h => h ⟨hi, h1, fun _ => by omega⟩)
        · have h2' : ¬(0 : Int) < (i : Int) := by omega
          simp only [h1, h2', ↓Xa, ↓Xb, ↓Xc, ↓Xd, ↓Xe, ↓Xf, ↓Xg, ↓Xh, ↓Xi, ↓Xj, ↓Xk, ↓Xl, ↓Xm, ↓Xn, ↓Xo, ↓Xp, ↓Xq, ↓Xr, ↓Xs, ↓Xt, ↓Xu, ↓Xv, ↓Xw, ↓Xx, ↓Xy, gx0, gx1, gx2, gx3, ife_e, ife_n, ife_r, Xz, ife_ne', XA, XB, XC, XD, decide_true, decide_false, Bool.not_true, Bool.not_false, and_self]
          rw [wr_inc (by omega)]
          exact W.ret (k2 fun h => h ⟨hi, h1, fun h => absurd h h2⟩)
      · simp only [h1, ↓Xa, ↓Xb, ↓Xc, ↓Xd, ↓Xe, ↓Xf, ↓Xg, ↓Xh, ↓Xi, ↓Xj, ↓Xk, ↓Xl, ↓Xm, ↓Xn, ↓Xo, ↓Xp, ↓Xq, ↓Xr, ↓Xs, ↓Xt, ↓Xu, ↓Xv, ↓Xw, ↓Xx, ↓Xy, gx0, gx1, gx2, gx3, ife_e, ife_n, ife_r, Xz, ife_ne', XA, XB, XC, XD, decide_true, decide_false, Bool.not_true, Bool.not_false]
        exact W.ret (k1 fun ⟨_, h⟩ => h1 h.1)
    · simp only [↓XG ha, ↓Xa, ↓Xb, ↓Xc, ↓Xd, ↓Xe, ↓Xf, ↓Xg, ↓Xh, ↓Xi, ↓Xj, ↓Xk, ↓Xl, ↓Xm, ↓Xn, ↓Xo, ↓Xp, ↓Xq, ↓Xr, ↓Xs, ↓Xt, ↓Xu, ↓Xv, ↓Xw, ↓Xx, ↓Xy, gx0, gx1, gx2, gx3, ife_e, ife_n, ife_r, Xz, ife_ne', XA, XB, XC, XD, decide_true, decide_false, Bool.not_true, Bool.not_false, Int.lt_irrefl]
      exact W.ret k1
    · simp only [↓Xa, ↓Xb, ↓Xc, ↓Xd, ↓Xe, ↓Xf, ↓Xg, ↓Xh, ↓Xi, ↓Xj, ↓Xk, ↓Xl, ↓Xm, ↓Xn, ↓Xo, ↓Xp, ↓Xq, ↓Xr, ↓Xs, ↓Xt, ↓Xu, ↓Xv, ↓Xw, ↓Xx, ↓Xy, gx0, gx1, gx2, gx3, ife_e, ife_n, ife_r, Xz, ife_ne', XA, XB, XC, XD, decide_true, decide_false, Bool.not_true, Bool.not_false]
      have : ¬PtList n A := fun h => hb ⟨hi, (pt_iff.1 h).2 i hi⟩
      exact W.ret (by simpa only [this, decide_false] using kq)
    · simp only [↓Xa, ↓Xb, ↓Xc, ↓Xd, ↓Xe, ↓Xf, ↓Xg, ↓Xh, ↓Xi, ↓Xj, ↓Xk, ↓Xl, ↓Xm, ↓Xn, ↓Xo, ↓Xp, ↓Xq, ↓Xr, ↓Xs, ↓Xt, ↓Xu, ↓Xv, ↓Xw, ↓Xx, ↓Xy, gx0, gx1, gx2, gx3, ife_e, ife_n, ife_r, Xz, ife_ne', XA, XB, XC, XD, decide_true, decide_false, Bool.not_true, Bool.not_false]
      have : PtList n A := pt_iff.2 ⟨h0, fun i hi => (Classical.not_not.1 (hb i hi)).2⟩
      exact W.ret (by simpa only [this, decide_true] using kq)
  · simp only [h0, ↓Xa, ↓Xb, ↓Xc, ↓Xd, ↓Xe, ↓Xf, ↓Xg, ↓Xh, ↓Xi, ↓Xj, ↓Xk, ↓Xl, ↓Xm, ↓Xn, ↓Xo, ↓Xp, ↓Xq, ↓Xr, ↓Xs, ↓Xt, ↓Xu, ↓Xv, ↓Xw, ↓Xx, ↓Xy, gx0, gx1, gx2, gx3, ife_e, ife_n, ife_r, Xz, ife_ne', XA, XB, XC, XD, decide_true, decide_false, Bool.not_true, Bool.not_false]
    have : ¬PtList n A := fun h => h0 h.1
    exact W.ret (by simpa only [this, decide_false] using kq)

/-! Puzzles -/
structure Puz where
  points : Int
  names : List UInt8
  moves : List (List Int)
def PuzA (P P2 : Nat → Prop) (H : AHeap) (v : AVal) (p : Puz) : Prop := ∃ mv, v = .agg [i64 p.points, .str p.names, mv] ∧ Lists .ro P P2 H mv p.moves ∧ In64 p.points ∧ p.names.length ≤ 1073741824
theorem PuzA.le {p : Puz} (h : PuzA P P2 H v p) (hl : Le H H') : PuzA P P2 H' v p := by
  obtain ⟨mv, h1, h2, h3⟩ := h
  exact ⟨mv, h1, h2.leL hl, h3⟩
/-- The byte at i is a capital that stands nowhere ahead of i. -/
def NameAt (s : List UInt8) (i : Nat) : Prop := ∃ h : i < s.length, (65 ≤ (s[i].toNat : Int) ∧ (s[i].toNat : Int) ≤ 90) ∧ ∀ k (hk : k < i), s[k] ≠ s[i]
noncomputable instance {s : List UInt8} {i : Nat} : Decidable (NameAt s i) := Classical.propDecidable _
theorem c_isMoveName {s : List UInt8} {i : Nat} (hi : i < s.length) (hb : s.length ≤ 1073741824) : s_sp_isMoveName (.str s) (i64 (i : Int)) H = some (.bool (decide (NameAt s i)), H) := by
  refine eq_of_W fun Q kq => ?_
  unfold s_sp_isMoveName
  simp only [↓wr_ixStr hi, ↓Xa, ↓Xb, ↓Xc, ↓Xd, ↓Xe, ↓Xf, ↓Xg, ↓Xh, ↓Xi, ↓Xj, ↓Xk, ↓Xl, ↓Xm, ↓Xn, ↓Xo, ↓Xp, ↓Xq, ↓Xr, ↓Xs, ↓Xt, ↓Xu, ↓Xv, ↓Xw, ↓Xx, ↓Xy, gx0, gx1, gx2, gx3, ife_e, ife_n, ife_r, Xz, ife_ne', XA, XB, XC, XD, decide_true, decide_false, Bool.not_true, Bool.not_false]
  by_cases h0 : (s[i].toNat : Int) < 65
  · simp only [h0, ↓Xa, ↓Xb, ↓Xc, ↓Xd, ↓Xe, ↓Xf, ↓Xg, ↓Xh, ↓Xi, ↓Xj, ↓Xk, ↓Xl, ↓Xm, ↓Xn, ↓Xo, ↓Xp, ↓Xq, ↓Xr, ↓Xs, ↓Xt, ↓Xu, ↓Xv, ↓Xw, ↓Xx, ↓Xy, gx0, gx1, gx2, gx3, ife_e, ife_n, ife_r, Xz, ife_ne', XA, XB, XC, XD, decide_true, decide_false, Bool.not_true, Bool.not_false]
    have : ¬NameAt s i := fun ⟨_, h, _⟩ => by omega
    exact W.ret (by simpa only [this, decide_false] using kq)
  · simp only [h0, ↓Xa, ↓Xb, ↓Xc, ↓Xd, ↓Xe, ↓Xf, ↓Xg, ↓Xh, ↓Xi, ↓Xj, ↓Xk, ↓Xl, ↓Xm, ↓Xn, ↓Xo, ↓Xp, ↓Xq, ↓Xr, ↓Xs, ↓Xt, ↓Xu, ↓Xv, ↓Xw, ↓Xx, ↓Xy, gx0, gx1, gx2, gx3, ife_e, ife_n, ife_r, Xz, ife_ne', XA, XB, XC, XD, decide_true, decide_false, Bool.not_true, Bool.not_false, ↓wr_ixStr hi]
    by_cases h1 : 90 < (s[i].toNat : Int)
    · simp only [h1, ↓Xa, ↓Xb, ↓Xc, ↓Xd, ↓Xe, ↓Xf, ↓Xg, ↓Xh, ↓Xi, ↓Xj, ↓Xk, ↓Xl, ↓Xm, ↓Xn, ↓Xo, ↓Xp, ↓Xq, ↓Xr, ↓Xs, ↓Xt, ↓Xu, ↓Xv, ↓Xw, ↓Xx, ↓Xy, gx0, gx1, gx2, gx3, ife_e, ife_n, ife_r, Xz, ife_ne', XA, XB, XC, XD, decide_true, decide_false, Bool.not_true, Bool.not_false]
      have : ¬NameAt s i := fun ⟨_, h, _⟩ => by omega
      exact W.ret (by simpa only [this, decide_false] using kq)
    · simp only [h1, ↓Xa, ↓Xb, ↓Xc, ↓Xd, ↓Xe, ↓Xf, ↓Xg, ↓Xh, ↓Xi, ↓Xj, ↓Xk, ↓Xl, ↓Xm, ↓Xn, ↓Xo, ↓Xp, ↓Xq, ↓Xr, ↓Xs, ↓Xt, ↓Xu, ↓Xv, ↓Xw, ↓Xx, ↓Xy, gx0, gx1, gx2, gx3, ife_e, ife_n, ife_r, Xz, ife_ne', XA, XB, XC, XD, decide_true, decide_false, Bool.not_true, Bool.not_false]
      refine W.scan (e := 0) (w := [.undef]) i (fun k => s[k]? = s[i]?) (fun _ => [.bool false]) (fun k hk Q' k1 k2 => ?_) (fun Q' k1 => ?_) (fun k hk hb _ => ?_) fun hbb => ?_
      · have : (k : Int) < i := by omega
        have hk' : k < s.length := by omega
        simp only [this, ↓Xa, ↓Xb, ↓Xc, ↓Xd, ↓Xe, ↓Xf, ↓Xg, ↓Xh, ↓Xi, ↓Xj, ↓Xk, ↓Xl, ↓Xm, ↓Xn, ↓Xo, ↓Xp, ↓Xq, ↓Xr, ↓Xs, ↓Xt, ↓Xu, ↓Xv, ↓Xw, ↓Xx, ↓Xy, gx0, gx1, gx2, gx3, ife_e, ife_n, ife_r, Xz, ife_ne', XA, XB, XC, XD, decide_true, decide_false, Bool.not_true, Bool.not_false, ↓wr_ixStr hk', ↓wr_ixStr hi]
        by_cases h2 : (s[k].toNat : Int) = s[i].toNat
        · simp only [h2, ↓Xa, ↓Xb, ↓Xc, ↓Xd, ↓Xe, ↓Xf, ↓Xg, ↓Xh, ↓Xi, ↓Xj, ↓Xk, ↓Xl, ↓Xm, ↓Xn, ↓Xo, ↓Xp, ↓Xq, ↓Xr, ↓Xs, ↓Xt, ↓Xu, ↓Xv, ↓Xw, ↓Xx, ↓Xy, gx0, gx1, gx2, gx3, ife_e, ife_n, ife_r, Xz, ife_ne', XA, XB, XC, XD, decide_true, decide_false, Bool.not_true, Bool.not_false]
          exact W.ret (k1 (by simp only [List.getElem?_eq_getElem hk', List.getElem?_eq_getElem hi]; congr 1; exact UInt8.toNat_inj.1 (by omega)))
        · simp only [h2, ↓Xa, ↓Xb, ↓Xc, ↓Xd, ↓Xe, ↓Xf, ↓Xg, ↓Xh, ↓Xi, ↓Xj, ↓Xk, ↓Xl, ↓Xm, ↓Xn, ↓Xo, ↓Xp, ↓Xq, ↓Xr, ↓Xs, ↓Xt, ↓Xu, ↓Xv, ↓Xw, ↓Xx, ↓Xy, gx0, gx1, gx2, gx3, ife_e, ife_n, ife_r, Xz, ife_ne', XA, XB, XC, XD, decide_true, decide_false, Bool.not_true, Bool.not_false]
          rw [wr_inc (by omega)]
          exact W.ret (k2 fun h => h2 (by simp only [List.getElem?_eq_getElem hk', List.getElem?_eq_getElem hi, Option.some.injEq] at h; rw [h]))
      · simp only [↓Xa, ↓Xb, ↓Xc, ↓Xd, ↓Xe, ↓Xf, ↓Xg, ↓Xh, ↓Xi, ↓Xj, ↓Xk, ↓Xl, ↓Xm, ↓Xn, ↓Xo, ↓Xp, ↓Xq, ↓Xr, ↓Xs, ↓Xt, ↓Xu, ↓Xv, ↓Xw, ↓Xx, ↓Xy, gx0, gx1, gx2, gx3, ife_e, ife_n, ife_r, Xz, ife_ne', XA, XB, XC, XD, decide_true, decide_false, Bool.not_true, Bool.not_false, Int.lt_irrefl]
        exact W.ret k1
      · simp only [↓Xa, ↓Xb, ↓Xc, ↓Xd, ↓Xe, ↓Xf, ↓Xg, ↓Xh, ↓Xi, ↓Xj, ↓Xk, ↓Xl, ↓Xm, ↓Xn, ↓Xo, ↓Xp, ↓Xq, ↓Xr, ↓Xs, ↓Xt, ↓Xu, ↓Xv, ↓Xw, ↓Xx, ↓Xy, gx0, gx1, gx2, gx3, ife_e, ife_n, ife_r, Xz, ife_ne', XA, XB, XC, XD, decide_true, decide_false, Bool.not_true, Bool.not_false]
        have : ¬NameAt s i := fun ⟨_, _, h⟩ => h k hk (by
          have hk' : k < s.length := by omega
          simpa only [List.getElem?_eq_getElem hk', List.getElem?_eq_getElem hi, Option.some.injEq] using hb)
        exact W.ret (by simpa only [this, decide_false] using kq)
      · simp only [↓Xa, ↓Xb, ↓Xc, ↓Xd, ↓Xe, ↓Xf, ↓Xg, ↓Xh, ↓Xi, ↓Xj, ↓Xk, ↓Xl, ↓Xm, ↓Xn, ↓Xo, ↓Xp, ↓Xq, ↓Xr, ↓Xs, ↓Xt, ↓Xu, ↓Xv, ↓Xw, ↓Xx, ↓Xy, gx0, gx1, gx2, gx3, ife_e, ife_n, ife_r, Xz, ife_ne', XA, XB, XC, XD, decide_true, decide_false, Bool.not_true, Bool.not_false]
        have : NameAt s i := ⟨hi, by omega, fun k hk h => hbb k hk (by simp only [List.getElem?_eq_getElem (Nat.lt_trans hk hi), List.getElem?_eq_getElem hi, h])⟩
        exact W.ret (by simpa only [this, decide_true] using kq)
/-- A set of generators. -/
def Gens (n : Int) (LL : List (List Int)) : Prop := ((1 ≤ n ∧ n ≤ 20) ∧ (LL.length : Int) ≤ 8) ∧ ∀ i (h : i < LL.length), (LL[i].length : Int) = n ∧ IsPerm LL[i]
noncomputable instance {n : Int} {LL : List (List Int)} : Decidable (Gens n LL) := Classical.propDecidable _
theorem c_IsGeneratorSet {n : Int} (ha : Lists .ro P P2 H v LL) : s_sp_IsGeneratorSet (i64 n) v H = some (.bool (decide (Gens n LL)), H) := by
  refine eq_of_W fun Q kq => ?_
  have hba := ha.bd
  unfold s_sp_IsGeneratorSet
  simp only [↓wr_e c_inRange, ↓Xa, ↓Xb, ↓Xc, ↓Xd, ↓Xe, ↓Xf, ↓Xg, ↓Xh, ↓Xi, ↓Xj, ↓Xk, ↓Xl, ↓Xm, ↓Xn, ↓Xo, ↓Xp, ↓Xq, ↓Xr, ↓Xs, ↓Xt, ↓Xu, ↓Xv, ↓Xw, ↓Xx, ↓Xy, gx0, gx1, gx2, gx3, ife_e, ife_n, ife_r, Xz, ife_ne', XA, XB, XC, XD, decide_true, decide_false, Bool.not_true, Bool.not_false]
  by_cases h0 : 1 ≤ n ∧ n ≤ 20
  · simp only [h0, and_self, ↓Xa, ↓Xb, ↓Xc, ↓Xd, ↓Xe, ↓Xf, ↓Xg, ↓Xh, ↓Xi, ↓Xj, ↓Xk, ↓Xl, ↓Xm, ↓Xn, ↓Xo, ↓Xp, ↓Xq, ↓Xr, ↓Xs, ↓Xt, ↓Xu, ↓Xv, ↓Xw, ↓Xx, ↓Xy, gx0, gx1, gx2, gx3, ife_e, ife_n, ife_r, Xz, ife_ne', XA, XB, XC, XD, decide_true, decide_false, Bool.not_true, Bool.not_false, ↓XG ha]
    by_cases h1 : 8 < (LL.length : Int)
    · simp only [h1, ↓Xa, ↓Xb, ↓Xc, ↓Xd, ↓Xe, ↓Xf, ↓Xg, ↓Xh, ↓Xi, ↓Xj, ↓Xk, ↓Xl, ↓Xm, ↓Xn, ↓Xo, ↓Xp, ↓Xq, ↓Xr, ↓Xs, ↓Xt, ↓Xu, ↓Xv, ↓Xw, ↓Xx, ↓Xy, gx0, gx1, gx2, gx3, ife_e, ife_n, ife_r, Xz, ife_ne', XA, XB, XC, XD, decide_true, decide_false, Bool.not_true, Bool.not_false]
      have : ¬Gens n LL := fun h => by have := h.1.2; omega
      exact W.ret (by simpa only [this, decide_false] using kq)
    · simp only [h1, ↓Xa, ↓Xb, ↓Xc, ↓Xd, ↓Xe, ↓Xf, ↓Xg, ↓Xh, ↓Xi, ↓Xj, ↓Xk, ↓Xl, ↓Xm, ↓Xn, ↓Xo, ↓Xp, ↓Xq, ↓Xr, ↓Xs, ↓Xt, ↓Xu, ↓Xv, ↓Xw, ↓Xx, ↓Xy, gx0, gx1, gx2, gx3, ife_e, ife_n, ife_r, Xz, ife_ne', XA, XB, XC, XD, decide_true, decide_false, Bool.not_true, Bool.not_false]
      refine W.scan (e := 0) (w := [.undef]) LL.length (fun i => ¬∃ h : i < LL.length, (LL[i].length : Int) = n ∧ IsPerm LL[i]) (fun _ => [.bool false]) (fun i hi Q' k1 k2 => ?_) (fun Q' k1 => ?_) (fun i hi hb _ => ?_) fun hb => ?_
      · have : (i : Int) < LL.length := by omega
        obtain ⟨y, hy, hL, _⟩ := ha.ld1 hi
        simp only [↓XG ha, this, ↓Xa, ↓Xb, ↓Xc, ↓Xd, ↓Xe, ↓Xf, ↓Xg, ↓Xh, ↓Xi, ↓Xj, ↓Xk, ↓Xl, ↓Xm, ↓Xn, ↓Xo, ↓Xp, ↓Xq, ↓Xr, ↓Xs, ↓Xt, ↓Xu, ↓Xv, ↓Xw, ↓Xx, ↓Xy, gx0, gx1, gx2, gx3, ife_e, ife_n, ife_r, Xz, ife_ne', XA, XB, XC, XD, decide_true, decide_false, Bool.not_true, Bool.not_false, ↓wr_ix ha hi, ↓wr_e hy, ↓XG hL]
        by_cases h2 : (LL[i].length : Int) = n
        · simp only [h2, ↓Xa, ↓Xb, ↓Xc, ↓Xd, ↓Xe, ↓Xf, ↓Xg, ↓Xh, ↓Xi, ↓Xj, ↓Xk, ↓Xl, ↓Xm, ↓Xn, ↓Xo, ↓Xp, ↓Xq, ↓Xr, ↓Xs, ↓Xt, ↓Xu, ↓Xv, ↓Xw, ↓Xx, ↓Xy, gx0, gx1, gx2, gx3, ife_e, ife_n, ife_r, Xz, ife_ne', XA, XB, XC, XD, decide_true, decide_false, Bool.not_true, Bool.not_false, ↓wr_ix ha hi, ↓wr_e hy, ↓wr_e (c_IsPermutation hL)]
          by_cases h3 : IsPerm LL[i]
          · simp only [h3, ↓Xa, ↓Xb, ↓Xc, ↓Xd, ↓Xe, ↓Xf, ↓Xg, ↓Xh, ↓Xi, ↓Xj, ↓Xk, ↓Xl, ↓Xm, ↓Xn, ↓Xo, ↓Xp, ↓Xq, ↓Xr, ↓Xs, ↓Xt, ↓Xu, ↓Xv, ↓Xw, ↓Xx, ↓Xy, gx0, gx1, gx2, gx3, ife_e, ife_n, ife_r, Xz, ife_ne', XA, XB, XC, XD, decide_true, decide_false, Bool.not_true, Bool.not_false]
            rw [wr_inc (by omega)]
            exact W.ret (k2 fun h => h ⟨hi, h2, h3⟩)
          · simp only [h3, ↓Xa, ↓Xb, ↓Xc, ↓Xd, ↓Xe, ↓Xf, ↓Xg, ↓Xh, ↓Xi, ↓Xj, ↓Xk, ↓Xl, ↓Xm, ↓Xn, ↓Xo, ↓Xp, ↓Xq, ↓Xr, ↓Xs, ↓Xt, ↓Xu, ↓Xv, ↓Xw, ↓Xx, ↓Xy, gx0, gx1, gx2, gx3, ife_e, ife_n, ife_r, Xz, ife_ne', XA, XB, XC, XD, decide_true, decide_false, Bool.not_true, Bool.not_false]
            exact W.ret (k1 fun ⟨_, h⟩ => h3 h.2)
        · simp only [h2, ↓Xa, ↓Xb, ↓Xc, ↓Xd, ↓Xe, ↓Xf, ↓Xg, ↓Xh, ↓Xi, ↓Xj, ↓Xk, ↓Xl, ↓Xm, ↓Xn, ↓Xo, ↓Xp, ↓Xq, ↓Xr, ↓Xs, ↓Xt, ↓Xu, ↓Xv, ↓Xw, ↓Xx, ↓Xy, gx0, gx1, gx2, gx3, ife_e, ife_n, ife_r, Xz, ife_ne', XA, XB, XC, XD, decide_true, decide_false, Bool.not_true, Bool.not_false]
          exact W.ret (k1 fun ⟨_, h⟩ => h2 h.1)
      · simp only [↓XG ha, ↓Xa, ↓Xb, ↓Xc, ↓Xd, ↓Xe, ↓Xf, ↓Xg, ↓Xh, ↓Xi, ↓Xj, ↓Xk, ↓Xl, ↓Xm, ↓Xn, ↓Xo, ↓Xp, ↓Xq, ↓Xr, ↓Xs, ↓Xt, ↓Xu, ↓Xv, ↓Xw, ↓Xx, ↓Xy, gx0, gx1, gx2, gx3, ife_e, ife_n, ife_r, Xz, ife_ne', XA, XB, XC, XD, decide_true, decide_false, Bool.not_true, Bool.not_false, Int.lt_irrefl]
        exact W.ret k1
      · simp only [↓Xa, ↓Xb, ↓Xc, ↓Xd, ↓Xe, ↓Xf, ↓Xg, ↓Xh, ↓Xi, ↓Xj, ↓Xk, ↓Xl, ↓Xm, ↓Xn, ↓Xo, ↓Xp, ↓Xq, ↓Xr, ↓Xs, ↓Xt, ↓Xu, ↓Xv, ↓Xw, ↓Xx, ↓Xy, gx0, gx1, gx2, gx3, ife_e, ife_n, ife_r, Xz, ife_ne', XA, XB, XC, XD, decide_true, decide_false, Bool.not_true, Bool.not_false]
        have : ¬Gens n LL := fun h => hb ⟨hi, h.2 i hi⟩
        exact W.ret (by simpa only [this, decide_false] using kq)
      · simp only [↓Xa, ↓Xb, ↓Xc, ↓Xd, ↓Xe, ↓Xf, ↓Xg, ↓Xh, ↓Xi, ↓Xj, ↓Xk, ↓Xl, ↓Xm, ↓Xn, ↓Xo, ↓Xp, ↓Xq, ↓Xr, ↓Xs, ↓Xt, ↓Xu, ↓Xv, ↓Xw, ↓Xx, ↓Xy, gx0, gx1, gx2, gx3, ife_e, ife_n, ife_r, Xz, ife_ne', XA, XB, XC, XD, decide_true, decide_false, Bool.not_true, Bool.not_false]
        have : Gens n LL := ⟨⟨h0, by omega⟩, fun i hi => (Classical.not_not.1 (hb i hi)).2⟩
        exact W.ret (by simpa only [this, decide_true] using kq)
  · simp only [h0, ↓Xa, ↓Xb, ↓Xc, ↓Xd, ↓Xe, ↓Xf, ↓Xg, ↓Xh, ↓Xi, ↓Xj, ↓Xk, ↓Xl, ↓Xm, ↓Xn, ↓Xo, ↓Xp, ↓Xq, ↓Xr, ↓Xs, ↓Xt, ↓Xu, ↓Xv, ↓Xw, ↓Xx, ↓Xy, gx0, gx1, gx2, gx3, ife_e, ife_n, ife_r, Xz, ife_ne', XA, XB, XC, XD, decide_true, decide_false, Bool.not_true, Bool.not_false]
    have : ¬Gens n LL := fun h => h0 h.1.1
    exact W.ret (by simpa only [this, decide_false] using kq)
end
end Go.Am

end

section
set_option linter.unusedSimpArgs false
set_option linter.unusedVariables false
/- Loops that lengthen a list; inverses; the letters of a puzzle. -/
namespace Go.Am
section
variable {β X : Type} {f : AVal → AM β} {H H0 H1 H2 : AHeap} {P P2 : Nat → Prop} {e : TypeId} {v u x : AVal} {cs : List AVal} {a b c d : AVal}
theorem Fr.bk (h : Fr (Bk P e H) H H1) (h' : Fr (Bk P e H1) H1 H2) : Fr (Bk P e H) H H2 := by
  refine ⟨h'.wf, Nat.le_trans h.nx h'.nx, fun id hi hn => ?_⟩
  have h1 := h.keep id hi hn
  rw [h'.keep id (Nat.lt_of_lt_of_le hi h.nx) fun hb => hn ⟨hb.1, by obtain ⟨c, fz, hc⟩ := hb.2; exact ⟨c, fz, h1 ▸ hc⟩⟩, h1]
theorem Le.bk (h : Le H H1) : Fr (Bk P e H) H H1 := h.mono fun _ _ h => h.elim
theorem Bx.bk {P' : Nat → Prop} {e' : TypeId} (h : Bx P e H x cs) (hf : Fr (Bk P' e' H) H H1) (he : e' ≠ e) : Bx P e H1 x cs := h.fr hf fun id c fz _ _ hg => Bk.ne he hg
theorem XE {Q : β → AHeap → Prop} (h : Bx P e H x cs) {n : Nat} : W (bnd (fadd n x) f) H0 Q ↔ W (f (fieldP x n)) H0 Q := by
  obtain ⟨id, rfl, h1, h2, h3⟩ := h
  exact wr_p rfl
theorem wr_f0 {Q : β → AHeap → Prop} (h : Bx P e H x (a :: cs)) : W (bnd (ld1 (fieldP x 0)) f) H Q ↔ W (f a) H Q := wr_e (h.ld1 rfl)
theorem wr_f1 {Q : β → AHeap → Prop} (h : Bx P e H x (a :: b :: cs)) : W (bnd (ld1 (fieldP x 1)) f) H Q ↔ W (f b) H Q := wr_e (h.ld1 rfl)
theorem wr_f2 {Q : β → AHeap → Prop} (h : Bx P e H x (a :: b :: c :: cs)) : W (bnd (ld1 (fieldP x 2)) f) H Q ↔ W (f c) H Q := wr_e (h.ld1 rfl)
theorem wr_f3 {Q : β → AHeap → Prop} (h : Bx P e H x (a :: b :: c :: d :: cs)) : W (bnd (ld1 (fieldP x 3)) f) H Q ↔ W (f d) H Q := wr_e (h.ld1 rfl)
theorem wr_fx {Q : β → AHeap → Prop} (h : Bx P e H x (a :: cs)) : W (bnd (ld1 x) f) H Q ↔ W (f a) H Q := wr_e (h.ld0 rfl)
theorem wr_ldw {Q : β → AHeap → Prop} (h : Bx P e H x cs) {n : Nat} (hn : n = cs.length) : W (bnd (ldn n x) f) H Q ↔ W (f (.agg cs)) H Q := wr_e (h.ldw hn)
theorem wr_ld2 {Q : β → AHeap → Prop} (h : Bx P e H x [a, b]) : W (bnd (ldn 2 x) f) H Q ↔ W (f (.agg [a, b])) H Q := wr_e (h.ldw rfl)
theorem wr_ld3 {Q : β → AHeap → Prop} (h : Bx P e H x [a, b, c]) : W (bnd (ldn 3 x) f) H Q ↔ W (f (.agg [a, b, c])) H Q := wr_e (h.ldw rfl)
theorem wr_ld4 {Q : β → AHeap → Prop} (h : Bx P e H x [a, b, c, d]) : W (bnd (ldn 4 x) f) H Q ↔ W (f (.agg [a, b, c, d])) H Q := wr_e (h.ldw rfl)
theorem wr_ld6 {Q : β → AHeap → Prop} {a' b' : AVal} (h : Bx P e H x [a, b, c, d, a', b']) : W (bnd (ldn 6 x) f) H Q ↔ W (f (.agg [a, b, c, d, a', b'])) H Q := wr_e (h.ldw rfl)
theorem cells_p {n : Int} {s : List UInt8} (h : a.isCell = true) : ([i64 n, .str s, a] : List AVal).all AVal.isCell = true := by simp only [List.all_cons, List.all_nil, h]; rfl
theorem wr_max {Q : β → AHeap → Prop} {a b : Int} : W (bnd (afoldM amax2 [i64 b] (i64 a)) f) H Q ↔ W (f (i64 (max a b))) H Q := by
  refine wr_p ?_
  have : max a b = if b > a then b else a := by rw [Int.max_def]; split <;> split <;> omega
  rw [this]; rfl
theorem wr_min {Q : β → AHeap → Prop} {a b : Int} : W (bnd (afoldM amin2 [i64 b] (i64 a)) f) H Q ↔ W (f (i64 (min a b))) H Q := by
  refine wr_p ?_
  have : min a b = if b < a then b else a := by rw [Int.min_def]; split <;> split <;> omega
  rw [this]; rfl

/-- 'for i := k0; i < n; i++ { out = append(out, ..) }': L i is the list ahead of round i. -/
theorem W.build {R : AHeap → AVal → X → Prop} {Q : β → AHeap → Prop} {body : List AVal → AM (Ex × List AVal)} {g : Ex × List AVal → AM β} {x0 : AVal} {el : TypeId} (ex : Nat) (k0 n : Nat) (L : Nat → List X) (l0 : Le H0 H) (h0 : Seq R .own (Nw H0) el H x0 (L k0)) (hk : k0 ≤ n)
    (step : ∀ i H1 out, k0 ≤ i → i < n → Fr (Bk (Nw H0) el H) H H1 → Le H0 H1 → Seq R .own (Nw H0) el H1 out (L i) → ∀ Q' : Ex × List AVal → AHeap → Prop, (∀ H2 out', Fr (Bk (Nw H0) el H1) H1 H2 → Seq R .own (Nw H0) el H2 out' (L (i + 1)) → Q' (.normal, [out', i64 ((i + 1 : Nat) : Int)]) H2) → W (body [out, i64 (i : Int)]) H1 Q')
    (last : ∀ H1 out, Fr (Bk (Nw H0) el H) H H1 → Le H0 H1 → Seq R .own (Nw H0) el H1 out (L n) → ∀ Q' : Ex × List AVal → AHeap → Prop, Q' (.exit ex, [out]) H1 → W (body [out, i64 (n : Int)]) H1 Q')
    (k : ∀ H1 out, Fr (Bk (Nw H0) el H) H H1 → Le H0 H1 → Seq R .own (Nw H0) el H1 out (L n) → W (g (.exit ex, [out])) H1 Q) : W (Am.bnd (loopL body [x0, i64 (k0 : Int)]) g) H Q := by
  have hle : ∀ H1, Fr (Bk (Nw H0) el H) H H1 → Le H0 H1 := fun H1 f => l0.nw f fun id hi h => absurd h.1 (by omega)
  refine W.lq (fun q s H1 => Fr (Bk (Nw H0) el H) H H1 ∧ ∃ (i : Nat) (out : AVal), q = n - i ∧ k0 ≤ i ∧ i ≤ n ∧ s = [out, i64 (i : Int)] ∧ Seq R .own (Nw H0) el H1 out (L i))
    (fun r H1 => Fr (Bk (Nw H0) el H) H H1 ∧ ∃ out, r = (.exit ex, [out]) ∧ Seq R .own (Nw H0) el H1 out (L n)) (n - k0) ⟨(Le.refl l0.wf).bk, k0, x0, rfl, Nat.le_refl _, hk, rfl, h0⟩ ?_ ?_
  · rintro q s H1 ⟨f1, i, out, rfl, hki, hi, rfl, h1⟩ Q' kn kx
    by_cases hlt : i < n
    · exact step i H1 out hki hlt f1 (hle _ f1) h1 Q' fun H2 out' f2 h2 => kn (n - (i + 1)) _ _ (by omega) ⟨f1.bk f2, i + 1, out', rfl, by omega, by omega, rfl, h2⟩
    · have : i = n := by omega
      subst this
      exact last H1 out f1 (hle _ f1) h1 Q' (kx _ _ _ (by simp) ⟨f1, out, rfl, h1⟩)
  · rintro r H1 ⟨f1, out, rfl, h1⟩
    exact k H1 out f1 (hle _ f1) h1
/-- What R says outlives a change of blocks of one element type. -/
def Stb (P : Nat → Prop) (e : TypeId) (R : AHeap → AVal → X → Prop) : Prop := ∀ {H H' : AHeap} {v : AVal} {x : X}, Fr (Bk P e H) H H' → R H v x → R H' v x
theorem stb_RI : Stb P e RI := fun _ h => h
theorem stb_RB : Stb P e RB := fun _ h => h
theorem stb_RL (he : e ≠ t_int64) : Stb P e (RL P2) := fun f h => Seq.bkI h f he
/-- append of one thing, written out. -/
theorem W.app1 {R : AHeap → AVal → X → Prop} {Q : β → AHeap → Prop} {L : List X} {w : X} {bytes : Nat} (hp : Hp H) (h : Seq R .own P e H v L) (hs : Stb P e R) (hu : u.isCell = true) (hb : bytes ≤ 4096) (hlen : L.length + 1 ≤ 1073741824) (hup : ∀ id, H.next ≤ id → P id)
    (hw : R H u w)
    (k : ∀ y H', Fr (Bk P e H) H H' → Seq R .own P e H' y (L ++ [w]) → W (f y) H' Q) :
    W (Am.bnd (Am.bnd (Am.bnd (Am.cell1 u) fun y => Am.ret [y]) fun cs => allocS none e 1 1 cs) fun z => Am.bnd (appS e 1 bytes v z) f) H Q := by
  refine W.lit1 (R := R) hp hu (a := w) (fun H' l => hs l.bk hw) fun z H1 l1 h1 => ?_
  exact W.app l1.wf (h.fr l1 (fun _ _ _ _ _ _ h => h) fun v x hx => hs l1.bk hx) h1 hb (by simpa using hlen) (fun id hi => hup id (Nat.le_trans l1.nx hi)) (fun H' f v x hx => hs f hx) fun y H2 f2 h2 => k y H2 (l1.bk.bk f2) h2
end

/-! ### Counting -/
section
variable {α : Type}
theorem nodup_sub_length [DecidableEq α] : ∀ {A B : List α}, A.Nodup → (∀ x ∈ A, x ∈ B) → A.length ≤ B.length
  | [], B, _, _ => Nat.zero_le _
  | a :: A, B, hn, hs => by
    obtain ⟨h1, h2⟩ := List.nodup_cons.1 hn
    have hm : a ∈ B := hs a List.mem_cons_self
    have := nodup_sub_length (A := A) (B := B.erase a) h2 fun x hx => by
      have hne : x ≠ a := fun h => h1 (h ▸ hx)
      exact (List.mem_erase_of_ne hne).2 (hs x (List.mem_cons_of_mem _ hx))
    rw [List.length_erase_of_mem hm] at this
    have : 0 < B.length := List.length_pos_of_mem hm
    simp only [List.length_cons]; omega
/-- Distinct members of B, as many as B has: all of B. -/
theorem nodup_full [DecidableEq α] {A B : List α} (hn : A.Nodup) (hs : ∀ x ∈ A, x ∈ B) (hl : B.length ≤ A.length) : ∀ y ∈ B, y ∈ A := by
  intro y hy
  refine Classical.byContradiction fun h => ?_
  have := nodup_sub_length (A := y :: A) (B := B) (List.nodup_cons.2 ⟨h, hn⟩) fun x hx => by
    rcases List.mem_cons.1 hx with rfl | hx
    · exact hy
    · exact hs x hx
  simp only [List.length_cons] at this; omega
theorem nodup_inj {A : List α} (h : A.Nodup) {i j : Nat} (hi : i < A.length) (hj : j < A.length) (he : A[i] = A[j]) : i = j := by
  rw [List.nodup_iff_pairwise_ne, List.pairwise_iff_getElem] at h
  rcases Nat.lt_trichotomy i j with hl | hl | hl
  · exact absurd he (h i j hi hj hl)
  · exact hl
  · exact absurd he.symm (h j i hj hi hl)
/-- And B has no member twice. -/
theorem nodup_of_full [DecidableEq α] : ∀ {A B : List α}, A.Nodup → (∀ x ∈ A, x ∈ B) → B.length ≤ A.length → B.Nodup := by
  intro A B hn hs hl
  induction B generalizing A with
  | nil => exact List.nodup_nil
  | cons b B ih =>
    have hb : b ∈ A := nodup_full hn hs hl b List.mem_cons_self
    have hA : (A.erase b).Nodup := hn.erase b
    have hl' : B.length ≤ (A.erase b).length := by
      rw [List.length_erase_of_mem hb]; simp at hl; omega
    have hs' : ∀ x ∈ A.erase b, x ∈ B := fun x hx => by
      have hne : x ≠ b := fun h => by subst h; exact (List.Nodup.mem_erase_iff hn).1 hx |>.1 rfl
      rcases List.mem_cons.1 (hs x (List.mem_of_mem_erase hx)) with h | h
      · exact absurd h hne
      · exact h
    refine List.nodup_cons.2 ⟨fun hbB => ?_, ih hA hs' hl'⟩
    have : b ∈ A.erase b := nodup_full hA hs' hl' b hbB
    exact (List.Nodup.mem_erase_iff hn).1 this |>.1 rfl
end

/-! ### The inverse of a permutation -/
section
variable {β : Type} {f : AVal → AM β} {Q : AVal → AHeap → Prop} {m m2 : Md} {P P2 P3 P' : Nat → Prop} {e e2 : TypeId} {H H' : AHeap} {v u x : AVal} {A B L : List Int} {LL : List (List Int)}
def inv (A : List Int) : List Int := (List.range A.length).map fun (j : Nat) => ((A.idxOf (j : Int) : Nat) : Int)
theorem inv_length : (inv A).length = A.length := by simp [inv]
theorem Dist.surj (h : Dist A.length A) {y : Nat} (hy : y < A.length) : (y : Int) ∈ A := by
  have := nodup_full (A := A) (B := (List.range A.length).map fun (j : Nat) => (j : Int)) h.2 (fun x hx => by
    have := h.1 x hx
    exact List.mem_map.2 ⟨x.toNat, List.mem_range.2 (by omega), by omega⟩) (by simp)
  exact this _ (List.mem_map.2 ⟨y, List.mem_range.2 hy, rfl⟩)
theorem inv_unique (h : Dist A.length A) (hl : B.length = A.length) (hB : ∀ j (hj : j < A.length), B[A[j].toNat]? = some (j : Int)) : B = inv A := by
  apply List.ext_getElem?
  intro y
  by_cases hy : y < A.length
  · have hm := h.surj hy
    have hi : A.idxOf (y : Int) < A.length := List.idxOf_lt_length_of_mem hm
    have h1 := hB _ hi
    have h2 : A[A.idxOf (y : Int)] = (y : Int) := List.getElem_idxOf hi
    rw [h2] at h1
    simp only [Int.toNat_natCast] at h1
    rw [h1]
    simp [inv, hy]
  · rw [List.getElem?_eq_none (by omega), List.getElem?_eq_none (by rw [inv_length]; omega)]
theorem c_inverse (hp : Hp H) (ha : Ints .ro P H v A) (hd : Dist A.length A) (k : ∀ r H', Le H H' → Ints .own (Nw H) H' r (inv A) → Q r H') : W (s_sp_inverse v) H Q := by
  have hba := ha.bd
  unfold s_sp_inverse
  simp only [↓XG ha]
  refine W.mk (R := RI) (a := 0) hp rfl (by decide) hba (fun _ _ => rfl) fun x2 H1 l1 h1 => ?_
  refine W.lq (fun q s H2 => Le H H2 ∧ ∃ (i : Nat) (B : List Int), q = A.length - i ∧ i ≤ A.length ∧ s = [i64 (i : Int)] ∧ Ints .own (Nw H) H2 x2 B ∧ B.length = A.length ∧ ∀ j (hj : j < A.length), j < i → B[A[j].toNat]? = some (j : Int))
    (fun r H2 => Le H H2 ∧ r = (.exit 0, []) ∧ Ints .own (Nw H) H2 x2 (inv A)) A.length ⟨l1, 0, _, rfl, Nat.zero_le _, rfl, h1, by simp, fun j _ h => absurd h (Nat.not_lt_zero _)⟩ ?_ ?_
  · rintro q s H2 ⟨l2, i, B, rfl, hi, rfl, hB, hBl, hj⟩ Q' kn kx
    have ha2 := ha.leI l2
    by_cases hlt : i < A.length
    · have hd1 := hd.1 _ (List.getElem_mem hlt)
      obtain ⟨a, hae⟩ : ∃ a : Nat, A[i] = (a : Int) := ⟨A[i].toNat, by omega⟩
      have hab : a < B.length := by omega
      have : (i : Int) < A.length := by omega
      simp only [↓XG ha, this, ↓Xa, ↓Xb, ↓Xc, ↓Xd, ↓Xe, ↓Xf, ↓Xg, ↓Xh, ↓Xi, ↓Xj, ↓Xk, ↓Xl, ↓Xm, ↓Xn, ↓Xo, ↓Xp, ↓Xq, ↓Xr, ↓Xs, ↓Xt, ↓Xu, ↓Xv, ↓Xw, ↓Xx, ↓Xy, gx0, gx1, gx2, gx3, ife_e, ife_n, ife_r, Xz, ife_ne', XA, XB, XC, XD, decide_true, decide_false, Bool.not_true, Bool.not_false, ↓wr_ix ha hlt, ↓wr_ldI ha2 hlt, hae, ↓wr_ix hB hab]
      refine W.st (a := (i : Int)) l2.wf hB (by simp) hab rfl (fun _ _ _ _ h => h) rfl fun H3 f3 hB3 => ?_
      rw [wr_inc (by omega)]
      refine W.ret (kn (A.length - (i + 1)) _ _ (by omega) ⟨l2.nw f3 fun id hi h => absurd h.1 (by omega), i + 1, _, rfl, by omega, rfl, hB3, by simp [hBl], fun j hj' hji => ?_⟩)
      have hdj := hd.1 _ (List.getElem_mem hj')
      rw [List.getElem?_set]
      by_cases hij : j = i
      · subst hij; simp [hae, hab]
      · rw [if_neg (fun h => hij ?_)]
        · exact hj j hj' (by omega)
        · have : A[j] = A[i] := by omega
          exact nodup_inj hd.2 hj' hlt this
    · have hii : i = A.length := by omega
      subst hii
      simp only [↓XG ha, ↓Xa, ↓Xb, ↓Xc, ↓Xd, ↓Xe, ↓Xf, ↓Xg, ↓Xh, ↓Xi, ↓Xj, ↓Xk, ↓Xl, ↓Xm, ↓Xn, ↓Xo, ↓Xp, ↓Xq, ↓Xr, ↓Xs, ↓Xt, ↓Xu, ↓Xv, ↓Xw, ↓Xx, ↓Xy, gx0, gx1, gx2, gx3, ife_e, ife_n, ife_r, Xz, ife_ne', XA, XB, XC, XD, decide_true, decide_false, Bool.not_true, Bool.not_false, Int.lt_irrefl]
      refine W.ret (kx _ _ _ (by simp) ⟨l2, rfl, ?_⟩)
      rwa [← inv_unique hd hBl fun j hj' => hj j hj' hj']
  · rintro r H2 ⟨l2, rfl, h2⟩
    simp only [↓Xa, ↓Xb, ↓Xc, ↓Xd, ↓Xe, ↓Xf, ↓Xg, ↓Xh, ↓Xi, ↓Xj, ↓Xk, ↓Xl, ↓Xm, ↓Xn, ↓Xo, ↓Xp, ↓Xq, ↓Xr, ↓Xs, ↓Xt, ↓Xu, ↓Xv, ↓Xw, ↓Xx, ↓Xy, gx0, gx1, gx2, gx3, ife_e, ife_n, ife_r, Xz, ife_ne', XA, XB, XC, XD, decide_true, decide_false, Bool.not_true, Bool.not_false]
    exact W.ret (k _ _ l2 h2)
theorem c_Inverse (hp : Hp H) (ha : Ints .ro P H v A) (hd : IsPerm A) (k : ∀ r H', Le H H' → Ints .own (Nw H) H' r (inv A) → Q r H') : W (s_sp_Inverse v) H Q := by
  unfold s_sp_Inverse
  simp only [↓wr_e (c_IsPermutation ha), hd, ↓Xa, ↓Xb, ↓Xc, ↓Xd, ↓Xe, ↓Xf, ↓Xg, ↓Xh, ↓Xi, ↓Xj, ↓Xk, ↓Xl, ↓Xm, ↓Xn, ↓Xo, ↓Xp, ↓Xq, ↓Xr, ↓Xs, ↓Xt, ↓Xu, ↓Xv, ↓Xw, ↓Xx, ↓Xy, gx0, gx1, gx2, gx3, ife_e, ife_n, ife_r, Xz, ife_ne', XA, XB, XC, XD, decide_true, decide_false, Bool.not_true, Bool.not_false]
  exact W.bnd (c_inverse hp ha hd.2 fun r H' l h => W.ret (k r H' l h))
end
end Go.Am

end

section
set_option linter.unusedSimpArgs false
set_option linter.unusedVariables false
/- Contracts: valid puzzles, letters, moves on patterns. -/
namespace Go.Am
section
variable {β : Type} {f : AVal → AM β} {Q : AVal → AHeap → Prop} {m m2 : Md} {P P2 P3 P4 P' : Nat → Prop} {e e2 : TypeId} {H H' : AHeap} {v u x : AVal} {A B L : List Int} {LL : List (List Int)} {p : Puz}

theorem c_copyLists (hp : Hp H) (ha : Lists m P P2 H v LL) (k : ∀ r H', Le H H' → Lists .own (Nw H) (Nw H) H' r LL → Q r H') : W (s_sp_copyLists v) H Q := by
  have hba := ha.bd
  unfold s_sp_copyLists
  refine W.emp (R := RL (Nw H)) hp fun x H1 l1 h1 => ?_
  refine W.build 0 0 LL.length (fun i => LL.take i) l1 (by simpa using h1) (Nat.zero_le _) (fun i H2 out _ hi f2 l2 h2 Q' kn => ?_) (fun H2 out f2 l2 h2 Q' kx => ?_) fun H2 out f2 l2 h2 => ?_
  · have ha2 := ha.leL l2
    obtain ⟨y, hy, hL, _⟩ := ha2.ld1 hi
    have : (i : Int) < LL.length := by omega
    simp only [↓XG ha, this, ↓Xa, ↓Xb, ↓Xc, ↓Xd, ↓Xe, ↓Xf, ↓Xg, ↓Xh, ↓Xi, ↓Xj, ↓Xk, ↓Xl, ↓Xm, ↓Xn, ↓Xo, ↓Xp, ↓Xq, ↓Xr, ↓Xs, ↓Xt, ↓Xu, ↓Xv, ↓Xw, ↓Xx, ↓Xy, gx0, gx1, gx2, gx3, ife_e, ife_n, ife_r, Xz, ife_ne', XA, XB, XC, XD, decide_true, decide_false, Bool.not_true, Bool.not_false, ↓wr_ix ha hi, ↓wr_e hy]
    refine W.bnd (c_copyInts l2.wf hL fun z H3 l3 h3 => ?_)
    refine W.app1 (R := RL (Nw H)) l3.wf (h2.leL l3) (stb_RL (by decide)) h3.isCell (by decide) (by simp; omega) (fun id h => Nat.le_trans l2.nx (Nat.le_trans l3.nx h)) (show RL (Nw H) H3 z LL[i] from (h3.mono fun id _ h => Nat.le_trans l2.nx h).ro) fun y H4 f4 h4 => ?_
    rw [wr_inc (by omega)]
    refine W.ret (kn _ _ (l3.bk.bk f4) ?_)
    rw [List.take_succ_eq_append_getElem hi]; exact h4
  · simp only [↓XG ha, ↓Xa, ↓Xb, ↓Xc, ↓Xd, ↓Xe, ↓Xf, ↓Xg, ↓Xh, ↓Xi, ↓Xj, ↓Xk, ↓Xl, ↓Xm, ↓Xn, ↓Xo, ↓Xp, ↓Xq, ↓Xr, ↓Xs, ↓Xt, ↓Xu, ↓Xv, ↓Xw, ↓Xx, ↓Xy, gx0, gx1, gx2, gx3, ife_e, ife_n, ife_r, Xz, ife_ne', XA, XB, XC, XD, decide_true, decide_false, Bool.not_true, Bool.not_false, Int.lt_irrefl]
    exact W.ret kx
  · simp only [↓Xa, ↓Xb, ↓Xc, ↓Xd, ↓Xe, ↓Xf, ↓Xg, ↓Xh, ↓Xi, ↓Xj, ↓Xk, ↓Xl, ↓Xm, ↓Xn, ↓Xo, ↓Xp, ↓Xq, ↓Xr, ↓Xs, ↓Xt, ↓Xu, ↓Xv, ↓Xw, ↓Xx, ↓Xy, gx0, gx1, gx2, gx3, ife_e, ife_n, ife_r, Xz, ife_ne', XA, XB, XC, XD, decide_true, decide_false, Bool.not_true, Bool.not_false]
    exact W.ret (k _ _ l2 (by simpa using h2))

/-- A valid puzzle. -/
def Valid (p : Puz) : Prop := p.moves.length ≠ 0 ∧ p.names.length = p.moves.length ∧ Gens p.points p.moves ∧ ∀ i, i < p.names.length → NameAt p.names i
noncomputable instance : Decidable (Valid p) := Classical.propDecidable _
theorem c_IsValidPuzzle (hp : Hp H) (h : PuzA P P2 H v p) (k : ∀ H', Le H H' → Q (.bool (decide (Valid p))) H') : W (s_sp_IsValidPuzzle v) H Q := by
  obtain ⟨mv, rfl, hm, h64, hnl⟩ := h
  have hmb := hm.bd
  unfold s_sp_IsValidPuzzle
  refine W.box hp (by decide) rfl (cells_p hm.isCell) fun x1 H1 l1 h1 => ?_
  have hm1 := hm.leL l1
  simp only [↓XE h1, ↓wr_f2 h1, ↓XG hm, ↓Xa, ↓Xb, ↓Xc, ↓Xd, ↓Xe, ↓Xf, ↓Xg, ↓Xh, ↓Xi, ↓Xj, ↓Xk, ↓Xl, ↓Xm, ↓Xn, ↓Xo, ↓Xp, ↓Xq, ↓Xr, ↓Xs, ↓Xt, ↓Xu, ↓Xv, ↓Xw, ↓Xx, ↓Xy, gx0, gx1, gx2, gx3, ife_e, ife_n, ife_r, Xz, ife_ne', XA, XB, XC, XD, decide_true, decide_false, Bool.not_true, Bool.not_false]
  by_cases h0 : (p.moves.length : Int) = 0
  · simp only [h0, ↓Xa, ↓Xb, ↓Xc, ↓Xd, ↓Xe, ↓Xf, ↓Xg, ↓Xh, ↓Xi, ↓Xj, ↓Xk, ↓Xl, ↓Xm, ↓Xn, ↓Xo, ↓Xp, ↓Xq, ↓Xr, ↓Xs, ↓Xt, ↓Xu, ↓Xv, ↓Xw, ↓Xx, ↓Xy, gx0, gx1, gx2, gx3, ife_e, ife_n, ife_r, Xz, ife_ne', XA, XB, XC, XD, decide_true, decide_false, Bool.not_true, Bool.not_false]
    have : ¬Valid p := fun h => h.1 (by omega)
    exact W.ret (by simpa only [this, decide_false] using k _ l1)
  · simp only [h0, ↓Xa, ↓Xb, ↓Xc, ↓Xd, ↓Xe, ↓Xf, ↓Xg, ↓Xh, ↓Xi, ↓Xj, ↓Xk, ↓Xl, ↓Xm, ↓Xn, ↓Xo, ↓Xp, ↓Xq, ↓Xr, ↓Xs, ↓Xt, ↓Xu, ↓Xv, ↓Xw, ↓Xx, ↓Xy, gx0, gx1, gx2, gx3, ife_e, ife_n, ife_r, Xz, ife_ne', XA, XB, XC, XD, decide_true, decide_false, Bool.not_true, Bool.not_false, ↓XE h1, ↓wr_f1 h1, ↓wr_f2 h1, ↓XG hm]
    by_cases h2 : (p.names.length : Int) = p.moves.length
    · simp only [h2, ↓Xa, ↓Xb, ↓Xc, ↓Xd, ↓Xe, ↓Xf, ↓Xg, ↓Xh, ↓Xi, ↓Xj, ↓Xk, ↓Xl, ↓Xm, ↓Xn, ↓Xo, ↓Xp, ↓Xq, ↓Xr, ↓Xs, ↓Xt, ↓Xu, ↓Xv, ↓Xw, ↓Xx, ↓Xy, gx0, gx1, gx2, gx3, ife_e, ife_n, ife_r, Xz, ife_ne', XA, XB, XC, XD, decide_true, decide_false, Bool.not_true, Bool.not_false, ↓XE h1, ↓wr_f0 h1, ↓wr_f2 h1, ↓wr_e (c_IsGeneratorSet hm1)]
      by_cases h3 : Gens p.points p.moves
      · simp only [h3, ↓Xa, ↓Xb, ↓Xc, ↓Xd, ↓Xe, ↓Xf, ↓Xg, ↓Xh, ↓Xi, ↓Xj, ↓Xk, ↓Xl, ↓Xm, ↓Xn, ↓Xo, ↓Xp, ↓Xq, ↓Xr, ↓Xs, ↓Xt, ↓Xu, ↓Xv, ↓Xw, ↓Xx, ↓Xy, gx0, gx1, gx2, gx3, ife_e, ife_n, ife_r, Xz, ife_ne', XA, XB, XC, XD, decide_true, decide_false, Bool.not_true, Bool.not_false]
        refine W.scan (e := 0) (w := [.undef]) p.names.length (fun i => ¬NameAt p.names i) (fun _ => [.bool false]) (fun i hi Q' k1 k2 => ?_) (fun Q' k1 => ?_) (fun i hi hb _ => ?_) fun hb => ?_
        · have : (i : Int) < p.names.length := by omega
          simp only [↓XE h1, ↓wr_f1 h1, this, ↓Xa, ↓Xb, ↓Xc, ↓Xd, ↓Xe, ↓Xf, ↓Xg, ↓Xh, ↓Xi, ↓Xj, ↓Xk, ↓Xl, ↓Xm, ↓Xn, ↓Xo, ↓Xp, ↓Xq, ↓Xr, ↓Xs, ↓Xt, ↓Xu, ↓Xv, ↓Xw, ↓Xx, ↓Xy, gx0, gx1, gx2, gx3, ife_e, ife_n, ife_r, Xz, ife_ne', XA, XB, XC, XD, decide_true, decide_false, Bool.not_true, Bool.not_false, ↓wr_e (c_isMoveName hi hnl)]
          by_cases h4 : NameAt p.names i
          · simp only [h4, ↓Xa, ↓Xb, ↓Xc, ↓Xd, ↓Xe, ↓Xf, ↓Xg, ↓Xh, ↓Xi, ↓Xj, ↓Xk, ↓Xl, ↓Xm, ↓Xn, ↓Xo, ↓Xp, ↓Xq, ↓Xr, ↓Xs, ↓Xt, ↓Xu, ↓Xv, ↓Xw, ↓Xx, ↓Xy, gx0, gx1, gx2, gx3, ife_e, ife_n, ife_r, Xz, ife_ne', XA, XB, XC, XD, decide_true, decide_false, Bool.not_true, Bool.not_false]
            rw [wr_inc (by omega)]
            exact W.ret (k2 fun h => h h4)
          · simp only [h4, ↓Xa, ↓Xb, ↓Xc, ↓Xd, ↓Xe, ↓Xf, ↓Xg, ↓Xh, ↓Xi, ↓Xj, ↓Xk, ↓Xl, ↓Xm, ↓Xn, ↓Xo, ↓Xp, ↓Xq, ↓Xr, ↓Xs, ↓Xt, ↓Xu, ↓Xv, ↓Xw, ↓Xx, ↓Xy, gx0, gx1, gx2, gx3, ife_e, ife_n, ife_r, Xz, ife_ne', XA, XB, XC, XD, decide_true, decide_false, Bool.not_true, Bool.not_false]
            exact W.ret (k1 h4)
        · simp only [↓XE h1, ↓wr_f1 h1, ↓Xa, ↓Xb, ↓Xc, ↓Xd, ↓Xe, ↓Xf, ↓Xg, ↓Xh, ↓Xi, ↓Xj, ↓Xk, ↓Xl, ↓Xm, ↓Xn, ↓Xo, ↓Xp, ↓Xq, ↓Xr, ↓Xs, ↓Xt, ↓Xu, ↓Xv, ↓Xw, ↓Xx, ↓Xy, gx0, gx1, gx2, gx3, ife_e, ife_n, ife_r, Xz, ife_ne', XA, XB, XC, XD, decide_true, decide_false, Bool.not_true, Bool.not_false, Int.lt_irrefl]
          exact W.ret k1
        · simp only [↓Xa, ↓Xb, ↓Xc, ↓Xd, ↓Xe, ↓Xf, ↓Xg, ↓Xh, ↓Xi, ↓Xj, ↓Xk, ↓Xl, ↓Xm, ↓Xn, ↓Xo, ↓Xp, ↓Xq, ↓Xr, ↓Xs, ↓Xt, ↓Xu, ↓Xv, ↓Xw, ↓Xx, ↓Xy, gx0, gx1, gx2, gx3, ife_e, ife_n, ife_r, Xz, ife_ne', XA, XB, XC, XD, decide_true, decide_false, Bool.not_true, Bool.not_false]
          have : ¬Valid p := fun h => hb (h.2.2.2 i hi)
          exact W.ret (by simpa only [this, decide_false] using k _ l1)
        · simp only [↓Xa, ↓Xb, ↓Xc, ↓Xd, ↓Xe, ↓Xf, ↓Xg, ↓Xh, ↓Xi, ↓Xj, ↓Xk, ↓Xl, ↓Xm, ↓Xn, ↓Xo, ↓Xp, ↓Xq, ↓Xr, ↓Xs, ↓Xt, ↓Xu, ↓Xv, ↓Xw, ↓Xx, ↓Xy, gx0, gx1, gx2, gx3, ife_e, ife_n, ife_r, Xz, ife_ne', XA, XB, XC, XD, decide_true, decide_false, Bool.not_true, Bool.not_false]
          have : Valid p := ⟨by omega, by omega, h3, fun i hi => Classical.not_not.1 (hb i hi)⟩
          exact W.ret (by simpa only [this, decide_true] using k _ l1)
      · simp only [h3, ↓Xa, ↓Xb, ↓Xc, ↓Xd, ↓Xe, ↓Xf, ↓Xg, ↓Xh, ↓Xi, ↓Xj, ↓Xk, ↓Xl, ↓Xm, ↓Xn, ↓Xo, ↓Xp, ↓Xq, ↓Xr, ↓Xs, ↓Xt, ↓Xu, ↓Xv, ↓Xw, ↓Xx, ↓Xy, gx0, gx1, gx2, gx3, ife_e, ife_n, ife_r, Xz, ife_ne', XA, XB, XC, XD, decide_true, decide_false, Bool.not_true, Bool.not_false]
        have : ¬Valid p := fun h => h3 h.2.2.1
        exact W.ret (by simpa only [this, decide_false] using k _ l1)
    · simp only [h2, ↓Xa, ↓Xb, ↓Xc, ↓Xd, ↓Xe, ↓Xf, ↓Xg, ↓Xh, ↓Xi, ↓Xj, ↓Xk, ↓Xl, ↓Xm, ↓Xn, ↓Xo, ↓Xp, ↓Xq, ↓Xr, ↓Xs, ↓Xt, ↓Xu, ↓Xv, ↓Xw, ↓Xx, ↓Xy, gx0, gx1, gx2, gx3, ife_e, ife_n, ife_r, Xz, ife_ne', XA, XB, XC, XD, decide_true, decide_false, Bool.not_true, Bool.not_false]
      have : ¬Valid p := fun h => h2 (by have := h.2.1; omega)
      exact W.ret (by simpa only [this, decide_false] using k _ l1)
def Tracked (p : Puz) (A : List Int) : Prop := Valid p ∧ PtList p.points A
noncomputable instance : Decidable (Tracked p A) := Classical.propDecidable _
theorem c_IsTrackedSet (hp : Hp H) (h : PuzA P P2 H v p) (ha : Ints .ro P3 H u A) (k : ∀ H', Le H H' → Q (.bool (decide (Tracked p A))) H') : W (s_sp_IsTrackedSet v u) H Q := by
  obtain ⟨mv, rfl, hm, h64, hnl⟩ := h
  unfold s_sp_IsTrackedSet
  refine W.box hp (by decide) rfl (cells_p hm.isCell) fun x1 H1 l1 h1 => ?_
  simp only [↓wr_ld3 h1]
  refine W.bnd (c_IsValidPuzzle (p := p) l1.wf ⟨mv, rfl, hm.leL l1, h64, hnl⟩ fun H2 l2 => ?_)
  have h2 := h1.le l2
  have l := l1.tr l2
  by_cases h3 : Valid p
  · simp only [h3, ↓Xa, ↓Xb, ↓Xc, ↓Xd, ↓Xe, ↓Xf, ↓Xg, ↓Xh, ↓Xi, ↓Xj, ↓Xk, ↓Xl, ↓Xm, ↓Xn, ↓Xo, ↓Xp, ↓Xq, ↓Xr, ↓Xs, ↓Xt, ↓Xu, ↓Xv, ↓Xw, ↓Xx, ↓Xy, gx0, gx1, gx2, gx3, ife_e, ife_n, ife_r, Xz, ife_ne', XA, XB, XC, XD, decide_true, decide_false, Bool.not_true, Bool.not_false, ↓XE h2, ↓wr_f0 h2, ↓wr_e (c_isPointList (ha.leI l) h64.2)]
    exact W.ret (by simpa only [Tracked, h3, true_and] using k _ l)
  · simp only [h3, ↓Xa, ↓Xb, ↓Xc, ↓Xd, ↓Xe, ↓Xf, ↓Xg, ↓Xh, ↓Xi, ↓Xj, ↓Xk, ↓Xl, ↓Xm, ↓Xn, ↓Xo, ↓Xp, ↓Xq, ↓Xr, ↓Xs, ↓Xt, ↓Xu, ↓Xv, ↓Xw, ↓Xx, ↓Xy, gx0, gx1, gx2, gx3, ife_e, ife_n, ife_r, Xz, ife_ne', XA, XB, XC, XD, decide_true, decide_false, Bool.not_true, Bool.not_false]
    have : ¬Tracked p A := fun h => h3 h.1
    exact W.ret (by simpa only [this, decide_false] using k _ l)
def Patt (p : Puz) (A B : List Int) : Prop := Tracked p A ∧ (B.length : Int) = A.length ∧ Dist p.points B
noncomputable instance : Decidable (Patt p A B) := Classical.propDecidable _
theorem Valid.pts (h : Valid p) : 1 ≤ p.points ∧ p.points ≤ 20 := h.2.2.1.1.1
theorem c_IsPattern (hp : Hp H) (h : PuzA P P2 H v p) (ha : Ints .ro P3 H u A) (hb : Ints .ro P4 H x B) (k : ∀ H', Le H H' → Q (.bool (decide (Patt p A B))) H') : W (s_sp_IsPattern v u x) H Q := by
  obtain ⟨mv, rfl, hm, h64, hnl⟩ := h
  unfold s_sp_IsPattern
  refine W.box hp (by decide) rfl (cells_p hm.isCell) fun x1 H1 l1 h1 => ?_
  simp only [↓wr_ld3 h1]
  refine W.bnd (c_IsTrackedSet (p := p) l1.wf ⟨mv, rfl, hm.leL l1, h64, hnl⟩ (ha.leI l1) fun H2 l2 => ?_)
  have h2 := h1.le l2
  have l := l1.tr l2
  by_cases h3 : Tracked p A
  · have h4 := h3.1.pts
    have h5 : In64 (p.points - 1) := by unfold In64; omega
    simp only [h3, ↓Xa, ↓Xb, ↓Xc, ↓Xd, ↓Xe, ↓Xf, ↓Xg, ↓Xh, ↓Xi, ↓Xj, ↓Xk, ↓Xl, ↓Xm, ↓Xn, ↓Xo, ↓Xp, ↓Xq, ↓Xr, ↓Xs, ↓Xt, ↓Xu, ↓Xv, ↓Xw, ↓Xx, ↓Xy, gx0, gx1, gx2, gx3, ife_e, ife_n, ife_r, Xz, ife_ne', XA, XB, XC, XD, decide_true, decide_false, Bool.not_true, Bool.not_false, ↓XE h2, ↓wr_f0 h2, ↓XG ha, ↓wr_e (c_isDistinctList (hb.leI l) h5)]
    exact W.ret (by simpa only [Patt, h3, true_and] using k _ l)
  · simp only [h3, ↓Xa, ↓Xb, ↓Xc, ↓Xd, ↓Xe, ↓Xf, ↓Xg, ↓Xh, ↓Xi, ↓Xj, ↓Xk, ↓Xl, ↓Xm, ↓Xn, ↓Xo, ↓Xp, ↓Xq, ↓Xr, ↓Xs, ↓Xt, ↓Xu, ↓Xv, ↓Xw, ↓Xx, ↓Xy, gx0, gx1, gx2, gx3, ife_e, ife_n, ife_r, Xz, ife_ne', XA, XB, XC, XD, decide_true, decide_false, Bool.not_true, Bool.not_false]
    have : ¬Patt p A B := fun h => h3 h.1
    exact W.ret (by simpa only [this, decide_false] using k _ l)
/-- A word of the letters of n moves. -/
def WordOf (n : Int) (A : List Int) : Prop := (A.length : Int) ≤ 200 ∧ ∀ i (h : i < A.length), A[i] ≠ 0 ∧ (-8 ≤ A[i] ∧ A[i] ≤ 8) ∧ A[i] ≤ n ∧ -A[i] ≤ n
noncomputable instance {n : Int} : Decidable (WordOf n A) := Classical.propDecidable _
theorem c_isWordOf {n : Int} (ha : Ints .ro P H v A) : s_sp_isWordOf (i64 n) v H = some (.bool (decide (WordOf n A)), H) := by
  refine eq_of_W fun Q kq => ?_
  have hba := ha.bd
  unfold s_sp_isWordOf
  simp only [↓XG ha, ↓Xa, ↓Xb, ↓Xc, ↓Xd, ↓Xe, ↓Xf, ↓Xg, ↓Xh, ↓Xi, ↓Xj, ↓Xk, ↓Xl, ↓Xm, ↓Xn, ↓Xo, ↓Xp, ↓Xq, ↓Xr, ↓Xs, ↓Xt, ↓Xu, ↓Xv, ↓Xw, ↓Xx, ↓Xy, gx0, gx1, gx2, gx3, ife_e, ife_n, ife_r, Xz, ife_ne', XA, XB, XC, XD, decide_true, decide_false, Bool.not_true, Bool.not_false]
  by_cases h0 : 200 < (A.length : Int)
  · simp only [h0, ↓Xa, ↓Xb, ↓Xc, ↓Xd, ↓Xe, ↓Xf, ↓Xg, ↓Xh, ↓Xi, ↓Xj, ↓Xk, ↓Xl, ↓Xm, ↓Xn, ↓Xo, ↓Xp, ↓Xq, ↓Xr, ↓Xs, ↓Xt, ↓Xu, ↓Xv, ↓Xw, ↓Xx, ↓Xy, gx0, gx1, gx2, gx3, ife_e, ife_n, ife_r, Xz, ife_ne', XA, XB, XC, XD, decide_true, decide_false, Bool.not_true, Bool.not_false]
    have : ¬WordOf n A := fun h => by have := h.1; omega
    exact W.ret (by simpa only [this, decide_false] using kq)
  · simp only [h0, ↓Xa, ↓Xb, ↓Xc, ↓Xd, ↓Xe, ↓Xf, ↓Xg, ↓Xh, ↓Xi, ↓Xj, ↓Xk, ↓Xl, ↓Xm, ↓Xn, ↓Xo, ↓Xp, ↓Xq, ↓Xr, ↓Xs, ↓Xt, ↓Xu, ↓Xv, ↓Xw, ↓Xx, ↓Xy, gx0, gx1, gx2, gx3, ife_e, ife_n, ife_r, Xz, ife_ne', XA, XB, XC, XD, decide_true, decide_false, Bool.not_true, Bool.not_false]
    refine W.scan (e := 0) (w := [.undef]) A.length (fun i => ¬∃ h : i < A.length, A[i] ≠ 0 ∧ (-8 ≤ A[i] ∧ A[i] ≤ 8) ∧ A[i] ≤ n ∧ -A[i] ≤ n) (fun _ => [.bool false]) (fun i hi Q' k1 k2 => ?_) (fun Q' k1 => ?_) (fun i hi hb _ => ?_) fun hb => ?_
    · have : (i : Int) < A.length := by omega
      simp only [↓XG ha, this, ↓Xa, ↓Xb, ↓Xc, ↓Xd, ↓Xe, ↓Xf, ↓Xg, ↓Xh, ↓Xi, ↓Xj, ↓Xk, ↓Xl, ↓Xm, ↓Xn, ↓Xo, ↓Xp, ↓Xq, ↓Xr, ↓Xs, ↓Xt, ↓Xu, ↓Xv, ↓Xw, ↓Xx, ↓Xy, gx0, gx1, gx2, gx3, ife_e, ife_n, ife_r, Xz, ife_ne', XA, XB, XC, XD, decide_true, decide_false, Bool.not_true, Bool.not_false, ↓wr_ix ha hi, ↓wr_ldI ha hi]
      by_cases h1 : A[i] = 0
      · simp only [h1, ↓Xa, ↓Xb, ↓Xc, ↓Xd, ↓Xe, ↓Xf, ↓Xg, ↓Xh, ↓Xi, ↓Xj, ↓Xk, ↓Xl, ↓Xm, ↓Xn, ↓Xo, ↓Xp, ↓Xq, ↓Xr, ↓Xs, ↓Xt, ↓Xu, ↓Xv, ↓Xw, ↓Xx, ↓Xy, gx0, gx1, gx2, gx3, ife_e, ife_n, ife_r, Xz, ife_ne', XA, XB, XC, XD, decide_true, decide_false, Bool.not_true, Bool.not_false]
        exact W.ret (k1 fun ⟨_, h⟩ => h.1 h1)
      · simp only [h1, ↓Xa, ↓Xb, ↓Xc, ↓Xd, ↓Xe, ↓Xf, ↓Xg, ↓Xh, ↓Xi, ↓Xj, ↓Xk, ↓Xl, ↓Xm, ↓Xn, ↓Xo, ↓Xp, ↓Xq, ↓Xr, ↓Xs, ↓Xt, ↓Xu, ↓Xv, ↓Xw, ↓Xx, ↓Xy, gx0, gx1, gx2, gx3, ife_e, ife_n, ife_r, Xz, ife_ne', XA, XB, XC, XD, decide_true, decide_false, Bool.not_true, Bool.not_false, ↓wr_ix ha hi, ↓wr_ldI ha hi, ↓wr_e c_inRange]
        by_cases h2 : -8 ≤ A[i] ∧ A[i] ≤ 8
        · have h6 : In64 (-A[i]) := by unfold In64; omega
          simp only [h2, and_self, ↓Xa, ↓Xb, ↓Xc, ↓Xd, ↓Xe, ↓Xf, ↓Xg, ↓Xh, ↓Xi, ↓Xj, ↓Xk, ↓Xl, ↓Xm, ↓Xn, ↓Xo, ↓Xp, ↓Xq, ↓Xr, ↓Xs, ↓Xt, ↓Xu, ↓Xv, ↓Xw, ↓Xx, ↓Xy, gx0, gx1, gx2, gx3, ife_e, ife_n, ife_r, Xz, ife_ne', XA, XB, XC, XD, decide_true, decide_false, Bool.not_true, Bool.not_false, ↓wr_ix ha hi, ↓wr_ldI ha hi]
          by_cases h3 : n < A[i]
          · simp only [h3, ↓Xa, ↓Xb, ↓Xc, ↓Xd, ↓Xe, ↓Xf, ↓Xg, ↓Xh, ↓Xi, ↓Xj, ↓Xk, ↓Xl, ↓Xm, ↓Xn, ↓Xo, ↓Xp, ↓Xq, ↓Xr, ↓Xs, ↓Xt, ↓Xu, ↓Xv, ↓Xw, ↓Xx, ↓Xy, gx0, gx1, gx2, gx3, ife_e, ife_n, ife_r, Xz, ife_ne', XA, XB, XC, XD, decide_true, decide_false, Bool.not_true, Bool.not_false]
            exact W.ret (k1 fun ⟨_, h⟩ => by omega)
          · simp only [h3, ↓Xa, ↓Xb, ↓Xc, ↓Xd, ↓Xe, ↓Xf, ↓Xg, ↓Xh, ↓Xi, ↓Xj, ↓Xk, ↓Xl, ↓Xm, ↓Xn, ↓Xo, ↓Xp, ↓Xq, ↓Xr, ↓Xs, ↓Xt, ↓Xu, ↓Xv, ↓Xw, ↓Xx, ↓Xy, gx0, gx1, gx2, gx3, ife_e, ife_n, ife_r, Xz, ife_ne', XA, XB, XC, XD, decide_true, decide_false, Bool.not_true, Bool.not_false, ↓wr_ix ha hi, ↓wr_ldI ha hi, ↓wr_neg h6]
            by_cases h4 : n < -A[i]
            · simp only [h4, ↓Xa, ↓Xb, ↓Xc, ↓Xd, ↓Xe, ↓Xf, ↓Xg, ↓Xh, ↓Xi, ↓Xj, ↓Xk, ↓Xl, ↓Xm, ↓Xn, ↓Xo, ↓Xp, ↓Xq, ↓Xr, ↓Xs, ↓Xt, ↓Xu, ↓Xv, ↓Xw, ↓Xx, ↓Xy, gx0, gx1, gx2, gx3, ife_e, ife_n, ife_r, Xz, ife_ne', XA, XB, XC, XD, decide_true, decide_false, Bool.not_true, Bool.not_false]
              exact W.ret (k1 fun ⟨_, h⟩ => by omega)
            · simp only [h4, ↓Xa, ↓Xb, ↓Xc, ↓Xd, ↓Xe, ↓Xf, ↓Xg, ↓Xh, ↓Xi, ↓Xj, ↓Xk, ↓Xl, ↓Xm, ↓Xn, ↓Xo, ↓Xp, ↓Xq, ↓Xr, ↓Xs, ↓Xt, ↓Xu, ↓Xv, ↓Xw, ↓Xx, ↓Xy, gx0, gx1, gx2, gx3, ife_e, ife_n, ife_r, Xz, ife_ne', XA, XB, XC, XD, decide_true, decide_false, Bool.not_true, Bool.not_false]
              rw [wr_inc (by omega)]
              exact W.ret (k2 fun h => h ⟨hi, h1, h2, by omega, by omega⟩)
        · simp only [h2, ↓Xa, ↓Xb, ↓Xc, ↓Xd, ↓Xe, ↓Xf, ↓Xg, ↓Xh, ↓Xi, ↓Xj, ↓Xk, ↓Xl, ↓Xm, ↓Xn, ↓Xo, ↓Xp, ↓Xq, ↓Xr, ↓Xs, ↓Xt, ↓Xu, ↓Xv, ↓Xw, ↓Xx, ↓Xy, gx0, gx1, gx2, gx3, ife_e, ife_n, ife_r, Xz, ife_ne', XA, XB, XC, XD, decide_true, decide_false, Bool.not_true, Bool.not_false]
          exact W.ret (k1 fun ⟨_, h⟩ => h2 h.2.1)
    · simp only [↓XG ha, ↓Xa, ↓Xb, ↓Xc, ↓Xd, ↓Xe, ↓Xf, ↓Xg, ↓Xh, ↓Xi, ↓Xj, ↓Xk, ↓Xl, ↓Xm, ↓Xn, ↓Xo, ↓Xp, ↓Xq, ↓Xr, ↓Xs, ↓Xt, ↓Xu, ↓Xv, ↓Xw, ↓Xx, ↓Xy, gx0, gx1, gx2, gx3, ife_e, ife_n, ife_r, Xz, ife_ne', XA, XB, XC, XD, decide_true, decide_false, Bool.not_true, Bool.not_false, Int.lt_irrefl]
      exact W.ret k1
    · simp only [↓Xa, ↓Xb, ↓Xc, ↓Xd, ↓Xe, ↓Xf, ↓Xg, ↓Xh, ↓Xi, ↓Xj, ↓Xk, ↓Xl, ↓Xm, ↓Xn, ↓Xo, ↓Xp, ↓Xq, ↓Xr, ↓Xs, ↓Xt, ↓Xu, ↓Xv, ↓Xw, ↓Xx, ↓Xy, gx0, gx1, gx2, gx3, ife_e, ife_n, ife_r, Xz, ife_ne', XA, XB, XC, XD, decide_true, decide_false, Bool.not_true, Bool.not_false]
      have : ¬WordOf n A := fun h => hb ⟨hi, h.2 i hi⟩
      exact W.ret (by simpa only [this, decide_false] using kq)
    · simp only [↓Xa, ↓Xb, ↓Xc, ↓Xd, ↓Xe, ↓Xf, ↓Xg, ↓Xh, ↓Xi, ↓Xj, ↓Xk, ↓Xl, ↓Xm, ↓Xn, ↓Xo, ↓Xp, ↓Xq, ↓Xr, ↓Xs, ↓Xt, ↓Xu, ↓Xv, ↓Xw, ↓Xx, ↓Xy, gx0, gx1, gx2, gx3, ife_e, ife_n, ife_r, Xz, ife_ne', XA, XB, XC, XD, decide_true, decide_false, Bool.not_true, Bool.not_false]
      have : WordOf n A := ⟨by omega, fun i hi => (Classical.not_not.1 (hb i hi)).2⟩
      exact W.ret (by simpa only [this, decide_true] using kq)
theorem c_IsValidWord {n : Int} (ha : Ints .ro P H v A) : s_sp_IsValidWord (i64 n) v H = some (.bool (decide (WordOf n A)), H) := by
  refine eq_of_W fun Q kq => ?_
  unfold s_sp_IsValidWord
  simp only [↓wr_e (c_isWordOf ha)]
  exact W.ret kq

/-! Letters -/
def lets : Nat → List Int
  | 0 => []
  | n + 1 => lets n ++ [(n : Int) + 1, -((n : Int) + 1)]
theorem lets_length (n : Nat) : (lets n).length = 2 * n := by
  induction n with
  | zero => rfl
  | succ n ih => simp [lets, ih]; omega
theorem mem_lets {n : Nat} {l : Int} : l ∈ lets n ↔ l ≠ 0 ∧ -(n : Int) ≤ l ∧ l ≤ n := by
  induction n with
  | zero => simp [lets]; omega
  | succ n ih =>
    simp only [lets, List.mem_append, ih, List.mem_cons, List.mem_nil_iff, or_false]
    omega
theorem c_lettersOf (hp : Hp H) (h : PuzA P P2 H v p) (hl : p.moves.length ≤ 1000000) (k : ∀ r H', Le H H' → Ints .own (Nw H) H' r (lets p.moves.length) → Q r H') : W (s_sp_lettersOf v) H Q := by
  obtain ⟨mv, rfl, hm, h64, hnl⟩ := h
  unfold s_sp_lettersOf
  refine W.box hp (by decide) rfl (cells_p hm.isCell) fun x1 H1 l1 h1 => ?_
  refine W.emp (R := RI) l1.wf fun x2 H2 l2 h2 => ?_
  have h1' := h1.le l2
  refine W.build (H0 := H) 0 1 (p.moves.length + 1) (fun i => lets (i - 1)) (l1.tr l2) (h2.mono fun id _ h => Nat.le_trans l1.nx h) (by omega) (fun i H3 out hi0 hi f3 l3 h3 Q' kn => ?_) (fun H3 out f3 l3 h3 Q' kx => ?_) fun H3 out f3 l3 h3 => ?_
  · have hb3 := h1'.bk f3 (by decide)
    have : (i : Int) ≤ p.moves.length := by omega
    have hn : In64 (-(i : Int)) := by unfold In64; omega
    simp only [↓XE hb3, ↓wr_f2 hb3, ↓XG hm, this, ↓Xa, ↓Xb, ↓Xc, ↓Xd, ↓Xe, ↓Xf, ↓Xg, ↓Xh, ↓Xi, ↓Xj, ↓Xk, ↓Xl, ↓Xm, ↓Xn, ↓Xo, ↓Xp, ↓Xq, ↓Xr, ↓Xs, ↓Xt, ↓Xu, ↓Xv, ↓Xw, ↓Xx, ↓Xy, gx0, gx1, gx2, gx3, ife_e, ife_n, ife_r, Xz, ife_ne', XA, XB, XC, XD, decide_true, decide_false, Bool.not_true, Bool.not_false, ↓wr_neg hn]
    refine W.lit2 (R := RI) (a := (i : Int)) (a' := -(i : Int)) l3.wf rfl rfl (fun _ _ => ⟨rfl, rfl⟩) fun z H4 l4 h4 => ?_
    refine W.app (P := Nw H) l4.wf (h3.leI l4) h4 (by decide) (by rw [lets_length]; simp; omega) (fun id hid => Nat.le_trans l3.nx (Nat.le_trans l4.nx hid)) (fun _ _ _ _ h => h) fun y H5 f5 h5 => ?_
    rw [wr_inc (by omega)]
    refine W.ret (kn _ _ (l4.bk.bk f5) ?_)
    obtain ⟨j, rfl⟩ : ∃ j, i = j + 1 := ⟨i - 1, by omega⟩
    simpa [lets] using h5
  · have hb3 := h1'.bk f3 (by decide)
    have : ¬((p.moves.length + 1 : Nat) : Int) ≤ p.moves.length := by omega
    simp only [↓XE hb3, ↓wr_f2 hb3, ↓XG hm, this, ↓Xa, ↓Xb, ↓Xc, ↓Xd, ↓Xe, ↓Xf, ↓Xg, ↓Xh, ↓Xi, ↓Xj, ↓Xk, ↓Xl, ↓Xm, ↓Xn, ↓Xo, ↓Xp, ↓Xq, ↓Xr, ↓Xs, ↓Xt, ↓Xu, ↓Xv, ↓Xw, ↓Xx, ↓Xy, gx0, gx1, gx2, gx3, ife_e, ife_n, ife_r, Xz, ife_ne', XA, XB, XC, XD, decide_true, decide_false, Bool.not_true, Bool.not_false]
    exact W.ret kx
  · simp only [↓Xa, ↓Xb, ↓Xc, ↓Xd, ↓Xe, ↓Xf, ↓Xg, ↓Xh, ↓Xi, ↓Xj, ↓Xk, ↓Xl, ↓Xm, ↓Xn, ↓Xo, ↓Xp, ↓Xq, ↓Xr, ↓Xs, ↓Xt, ↓Xu, ↓Xv, ↓Xw, ↓Xx, ↓Xy, gx0, gx1, gx2, gx3, ife_e, ife_n, ife_r, Xz, ife_ne', XA, XB, XC, XD, decide_true, decide_false, Bool.not_true, Bool.not_false]
    exact W.ret (k _ _ l3 h3)
theorem c_Letters (hp : Hp H) (h : PuzA P P2 H v p) (k : ∀ r H', Le H H' → Ints .own (Nw H) H' r (if Valid p then lets p.moves.length else []) → Q r H') : W (s_sp_Letters v) H Q := by
  obtain ⟨mv, rfl, hm, h64, hnl⟩ := h
  unfold s_sp_Letters
  refine W.box hp (by decide) rfl (cells_p hm.isCell) fun x1 H1 l1 h1 => ?_
  simp only [↓wr_ld3 h1]
  refine W.bnd (c_IsValidPuzzle (p := p) l1.wf ⟨mv, rfl, hm.leL l1, h64, hnl⟩ fun H2 l2 => ?_)
  have h2 := h1.le l2
  have l := l1.tr l2
  by_cases h3 : Valid p
  · have h4 : p.moves.length ≤ 1000000 := by have := h3.2.2.1.1.2; omega
    simp only [h3, ↓Xa, ↓Xb, ↓Xc, ↓Xd, ↓Xe, ↓Xf, ↓Xg, ↓Xh, ↓Xi, ↓Xj, ↓Xk, ↓Xl, ↓Xm, ↓Xn, ↓Xo, ↓Xp, ↓Xq, ↓Xr, ↓Xs, ↓Xt, ↓Xu, ↓Xv, ↓Xw, ↓Xx, ↓Xy, gx0, gx1, gx2, gx3, ife_e, ife_n, ife_r, Xz, ife_ne', XA, XB, XC, XD, decide_true, decide_false, Bool.not_true, Bool.not_false, ↓wr_ld3 h2]
    exact W.bnd (c_lettersOf (p := p) l2.wf ⟨mv, rfl, hm.leL l, h64, hnl⟩ h4 fun r H3 l3 hr => W.ret (k _ _ (l.tr l3) (by simpa only [h3, if_true] using hr.mono fun id _ hid => Nat.le_trans l.nx hid)))
  · simp only [h3, ↓Xa, ↓Xb, ↓Xc, ↓Xd, ↓Xe, ↓Xf, ↓Xg, ↓Xh, ↓Xi, ↓Xj, ↓Xk, ↓Xl, ↓Xm, ↓Xn, ↓Xo, ↓Xp, ↓Xq, ↓Xr, ↓Xs, ↓Xt, ↓Xu, ↓Xv, ↓Xw, ↓Xx, ↓Xy, gx0, gx1, gx2, gx3, ife_e, ife_n, ife_r, Xz, ife_ne', XA, XB, XC, XD, decide_true, decide_false, Bool.not_true, Bool.not_false]
    exact W.emp (R := RI) l2.wf fun r H3 l3 hr => W.ret (k _ _ (l.tr l3) (by simpa only [h3, if_false] using hr.mono fun id _ hid => Nat.le_trans l.nx hid))

/-! Moves -/
/-- The list of a letter. -/
def mvOf (p : Puz) (l : Int) : List Int := if l < 0 then inv (p.moves.getD (l.natAbs - 1) []) else p.moves.getD (l.natAbs - 1) []
def act (p : Puz) (l : Int) (s : List Int) : List Int := s.map fun x => (mvOf p l).getD x.toNat 0
theorem Valid.move (h : Valid p) {i : Nat} (hi : i < p.moves.length) : (p.moves[i].length : Int) = p.points ∧ IsPerm p.moves[i] := h.2.2.1.2 i hi
theorem c_applyLetter {l : Int} (hp : Hp H) (h : PuzA P P2 H v p) (hv : Valid p) (hs : Ints .ro P3 H u A) (hl : l ∈ lets p.moves.length) (hA : ∀ x ∈ A, 0 ≤ x ∧ x ≤ p.points - 1)
    (k : ∀ r H', Le H H' → Ints .own (Nw H) H' r (act p l A) → Q r H') : W (s_sp_applyLetter v u (i64 l)) H Q := by
  obtain ⟨mv, rfl, hm, h64, hnl⟩ := h
  have hlm := mem_lets.1 hl
  have h8 : (p.moves.length : Int) ≤ 8 := hv.2.2.1.1.2
  have hbA := hs.bd
  unfold s_sp_applyLetter
  refine W.box hp (by decide) rfl (cells_p hm.isCell) fun x1 H1 l1 h1 => ?_
  obtain ⟨i, hi⟩ : ∃ i : Nat, max l (-l) - 1 = (i : Int) := ⟨l.natAbs - 1, by omega⟩
  have hil : i < p.moves.length := by omega
  have hin : l.natAbs - 1 = i := by omega
  have hn : In64 (-l) := by unfold In64; omega
  have hx : In64 (max l (-l) - 1) := by unfold In64; omega
  obtain ⟨y, hy, hL, _⟩ := (hm.leL l1).ld1 hil
  obtain ⟨hlen, hperm⟩ := hv.move hil
  simp only [↓XE h1, ↓wr_f2 h1, ↓wr_neg hn, ↓wr_max, ↓wr_sub hx, hi, ↓wr_ix hm hil, ↓wr_e hy, ↓Xa, ↓Xb, ↓Xc, ↓Xd, ↓Xe, ↓Xf, ↓Xg, ↓Xh, ↓Xi, ↓Xj, ↓Xk, ↓Xl, ↓Xm, ↓Xn, ↓Xo, ↓Xp, ↓Xq, ↓Xr, ↓Xs, ↓Xt, ↓Xu, ↓Xv, ↓Xw, ↓Xx, ↓Xy, gx0, gx1, gx2, gx3, ife_e, ife_n, ife_r, Xz, ife_ne', XA, XB, XC, XD, decide_true, decide_false, Bool.not_true, Bool.not_false]
  -- the rest, for either list
  have rest : ∀ (z : AVal) (H2 : AHeap) (Pz : Nat → Prop), Le H H2 → Ints .ro Pz H2 z (mvOf p l) → (mvOf p l).length = p.moves[i].length → W (Am.bnd (Am.bnd (ret []) fun cs => allocS none t_int64 1 0 cs) fun x12 =>
        Am.bnd (loopL (fun s13 =>
          Am.bnd (lenA u) fun x14 =>
          Am.bnd (abin .lss (gx s13 1) x14) fun x15 =>
          br x15
          (Am.bnd (ixa 1 u (gx s13 1)) fun x16 =>
          Am.bnd (ld1 x16) fun x17 =>
          Am.bnd (ixa 1 z x17) fun x18 =>
          Am.bnd (ld1 x18) fun x19 =>
          Am.bnd (Am.bnd (Am.bnd (cell1 x19) fun y20 => ret [y20]) fun cs => allocS none t_int64 1 1 cs) fun x21 =>
          Am.bnd (appS t_int64 1 8 (gx s13 0) x21) fun x22 =>
          Am.bnd (abin .add (gx s13 1) (.int .i64 1)) fun x23 =>
          rx .normal [x22, x23])
          (rx (.exit 0) [gx s13 0])) [x12, .int .i64 0]) fun r24 =>
        ife r24.1 (.exit 0) (ret (gx r24.2 0)) (fail)) H2 Q := by
    intro z H2 Pz l2 hz hzl
    refine W.emp (R := RI) l2.wf fun x2 H3 l3 h3 => ?_
    refine W.build (H0 := H2) 0 0 A.length (fun i => act p l (A.take i)) l3 (by simpa [act] using h3) (Nat.zero_le _) (fun j H4 out _ hj f4 l4 h4 Q' kn => ?_) (fun H4 out f4 l4 h4 Q' kx => ?_) fun H4 out f4 l4 h4 => ?_
    · have hs4 := hs.leI (l2.tr l4)
      have hr := hA _ (List.getElem_mem hj)
      obtain ⟨a, ha⟩ : ∃ a : Nat, A[j] = (a : Int) := ⟨A[j].toNat, by omega⟩
      have haz : a < (mvOf p l).length := by omega
      have : (j : Int) < A.length := by omega
      have hz4 : Ints .ro Pz H4 z (mvOf p l) := hz.leI l4
      simp only [↓XG hs, this, ↓Xa, ↓Xb, ↓Xc, ↓Xd, ↓Xe, ↓Xf, ↓Xg, ↓Xh, ↓Xi, ↓Xj, ↓Xk, ↓Xl, ↓Xm, ↓Xn, ↓Xo, ↓Xp, ↓Xq, ↓Xr, ↓Xs, ↓Xt, ↓Xu, ↓Xv, ↓Xw, ↓Xx, ↓Xy, gx0, gx1, gx2, gx3, ife_e, ife_n, ife_r, Xz, ife_ne', XA, XB, XC, XD, decide_true, decide_false, Bool.not_true, Bool.not_false, ↓wr_ix hs hj, ↓wr_ldI hs4 hj, ha, ↓wr_ix hz haz, ↓wr_ldI hz4 haz]
      refine W.app1 l4.wf h4 stb_RI rfl (by decide) (by simp [act]; omega) (fun id hid => Nat.le_trans l4.nx hid) rfl fun y H5 f5 h5 => ?_
      rw [wr_inc (by omega)]
      refine W.ret (kn _ _ f5 ?_)
      rw [List.take_succ_eq_append_getElem hj]
      simpa [act, ha, haz] using h5
    · simp only [↓XG hs, ↓Xa, ↓Xb, ↓Xc, ↓Xd, ↓Xe, ↓Xf, ↓Xg, ↓Xh, ↓Xi, ↓Xj, ↓Xk, ↓Xl, ↓Xm, ↓Xn, ↓Xo, ↓Xp, ↓Xq, ↓Xr, ↓Xs, ↓Xt, ↓Xu, ↓Xv, ↓Xw, ↓Xx, ↓Xy, gx0, gx1, gx2, gx3, ife_e, ife_n, ife_r, Xz, ife_ne', XA, XB, XC, XD, decide_true, decide_false, Bool.not_true, Bool.not_false, Int.lt_irrefl]
      exact W.ret kx
    · simp only [↓Xa, ↓Xb, ↓Xc, ↓Xd, ↓Xe, ↓Xf, ↓Xg, ↓Xh, ↓Xi, ↓Xj, ↓Xk, ↓Xl, ↓Xm, ↓Xn, ↓Xo, ↓Xp, ↓Xq, ↓Xr, ↓Xs, ↓Xt, ↓Xu, ↓Xv, ↓Xw, ↓Xx, ↓Xy, gx0, gx1, gx2, gx3, ife_e, ife_n, ife_r, Xz, ife_ne', XA, XB, XC, XD, decide_true, decide_false, Bool.not_true, Bool.not_false]
      exact W.ret (k _ _ (l2.tr l4) (by simpa using h4.mono fun id _ h => Nat.le_trans l2.nx h))
  by_cases h0 : l < 0
  · simp only [h0, ↓Xa, ↓Xb, ↓Xc, ↓Xd, ↓Xe, ↓Xf, ↓Xg, ↓Xh, ↓Xi, ↓Xj, ↓Xk, ↓Xl, ↓Xm, ↓Xn, ↓Xo, ↓Xp, ↓Xq, ↓Xr, ↓Xs, ↓Xt, ↓Xu, ↓Xv, ↓Xw, ↓Xx, ↓Xy, gx0, gx1, gx2, gx3, ife_e, ife_n, ife_r, Xz, ife_ne', XA, XB, XC, XD, decide_true, decide_false, Bool.not_true, Bool.not_false]
    refine W.assoc (W.bnd (c_Inverse l1.wf hL hperm fun z H2 l2 hz => ?_))
    simp only [↓Xa, ↓Xb, ↓Xc, ↓Xd, ↓Xe, ↓Xf, ↓Xg, ↓Xh, ↓Xi, ↓Xj, ↓Xk, ↓Xl, ↓Xm, ↓Xn, ↓Xo, ↓Xp, ↓Xq, ↓Xr, ↓Xs, ↓Xt, ↓Xu, ↓Xv, ↓Xw, ↓Xx, ↓Xy, gx0, gx1, gx2, gx3, ife_e, ife_n, ife_r, Xz, ife_ne', XA, XB, XC, XD, decide_true, decide_false, Bool.not_true, Bool.not_false]
    refine rest z H2 (Nw H1) (l1.tr l2) ?_ ?_
    · simp only [mvOf, h0, if_true, hin, List.getD_eq_getElem?_getD, List.getElem?_eq_getElem hil, Option.getD_some]; exact hz.ro
    · simp only [mvOf, h0, if_true, hin, List.getD_eq_getElem?_getD, List.getElem?_eq_getElem hil, Option.getD_some]; exact inv_length
  · simp only [h0, ↓Xa, ↓Xb, ↓Xc, ↓Xd, ↓Xe, ↓Xf, ↓Xg, ↓Xh, ↓Xi, ↓Xj, ↓Xk, ↓Xl, ↓Xm, ↓Xn, ↓Xo, ↓Xp, ↓Xq, ↓Xr, ↓Xs, ↓Xt, ↓Xu, ↓Xv, ↓Xw, ↓Xx, ↓Xy, gx0, gx1, gx2, gx3, ife_e, ife_n, ife_r, Xz, ife_ne', XA, XB, XC, XD, decide_true, decide_false, Bool.not_true, Bool.not_false]
    refine rest y H1 P2 l1 ?_ ?_
    · simp only [mvOf, h0, if_false, hin, List.getD_eq_getElem?_getD, List.getElem?_eq_getElem hil, Option.getD_some]; exact hL
    · simp only [mvOf, h0, if_false, hin, List.getD_eq_getElem?_getD, List.getElem?_eq_getElem hil, Option.getD_some]
end
end Go.Am

end

section
set_option linter.unusedSimpArgs false
set_option linter.unusedVariables false
/- Contracts: words on patterns; the order of lists; the sorted search. -/
namespace Go.Am
section
variable {β : Type} {f : AVal → AM β} {Q : AVal → AHeap → Prop} {m m2 : Md} {P P2 P3 P4 P5 P' : Nat → Prop} {e e2 : TypeId} {H H' : AHeap} {v u x y : AVal} {A B C L : List Int} {LL : List (List Int)} {p : Puz}

theorem Valid.h8 (hv : Valid p) : (p.moves.length : Int) ≤ 8 := hv.2.2.1.1.2
theorem Valid.mv_len (hv : Valid p) {l : Int} (hl : l ∈ lets p.moves.length) : ((mvOf p l).length : Int) = p.points ∧ ∃ i, ∃ h : i < p.moves.length, (l < 0 → mvOf p l = inv p.moves[i]) ∧ (¬l < 0 → mvOf p l = p.moves[i]) ∧ IsPerm p.moves[i] ∧ i = l.natAbs - 1 := by
  have hlm := mem_lets.1 hl
  have hil : l.natAbs - 1 < p.moves.length := by omega
  obtain ⟨h1, h2⟩ := hv.move hil
  have e1 : p.moves.getD (l.natAbs - 1) [] = p.moves[l.natAbs - 1] := by
    rw [List.getD_eq_getElem?_getD, List.getElem?_eq_getElem hil]; rfl
  have e2 : l < 0 → mvOf p l = inv p.moves[l.natAbs - 1] := fun h => by simp only [mvOf, h, if_true, e1]
  have e3 : ¬l < 0 → mvOf p l = p.moves[l.natAbs - 1] := fun h => by simp only [mvOf, h, if_false, e1]
  refine ⟨?_, _, hil, e2, e3, h2, rfl⟩
  by_cases h0 : l < 0
  · rw [e2 h0, inv_length]; exact h1
  · rw [e3 h0]; exact h1
theorem inv_range (h : Dist A.length A) {x : Int} (hx : x ∈ inv A) : 0 ≤ x ∧ x ≤ (A.length : Int) - 1 := by
  simp only [inv, List.mem_map, List.mem_range] at hx
  obtain ⟨j, hj, rfl⟩ := hx
  have := List.idxOf_lt_length_of_mem (h.surj hj)
  omega
theorem Valid.mv_range (hv : Valid p) {l : Int} (hl : l ∈ lets p.moves.length) {x : Int} (hx : x ∈ mvOf p l) : 0 ≤ x ∧ x ≤ p.points - 1 := by
  obtain ⟨h1, i, hi, e1, e2, hp, _⟩ := hv.mv_len hl
  have hm := (hv.move hi).1
  by_cases h0 : l < 0
  · rw [e1 h0] at hx
    have := inv_range hp.2 hx
    omega
  · rw [e2 h0] at hx
    have := hp.2.1 x hx
    omega
theorem act_range (hv : Valid p) {l : Int} (hl : l ∈ lets p.moves.length) (hA : ∀ x ∈ A, 0 ≤ x ∧ x ≤ p.points - 1) {x : Int} (hx : x ∈ act p l A) : 0 ≤ x ∧ x ≤ p.points - 1 := by
  simp only [act, List.mem_map] at hx
  obtain ⟨a, ha, rfl⟩ := hx
  have h1 := hA a ha
  have h2 := (hv.mv_len hl).1
  have : a.toNat < (mvOf p l).length := by omega
  rw [List.getD_eq_getElem?_getD, List.getElem?_eq_getElem this]
  exact hv.mv_range hl (List.getElem_mem this)
def acts (p : Puz) (w : List Int) (s : List Int) : List Int := w.foldl (fun s l => act p l s) s
theorem acts_range (hv : Valid p) : ∀ {w A : List Int}, (∀ l ∈ w, l ∈ lets p.moves.length) → (∀ x ∈ A, 0 ≤ x ∧ x ≤ p.points - 1) → ∀ x ∈ acts p w A, 0 ≤ x ∧ x ≤ p.points - 1
  | [], A, _, hA => hA
  | l :: w, A, hw, hA => acts_range hv (w := w) (A := act p l A) (fun l h => hw l (List.mem_cons_of_mem _ h)) fun x hx => act_range hv (hw l List.mem_cons_self) hA hx
theorem acts_length : ∀ {w A : List Int}, (acts p w A).length = A.length
  | [], A => rfl
  | l :: w, A => by
    have := acts_length (w := w) (A := act p l A)
    simpa [acts, act] using this
theorem c_applyLetters (hp : Hp H) (h : PuzA P P2 H v p) (hv : Valid p) (ha : Ints .ro P3 H u A) (hw : Ints .ro P4 H x B) (hB : ∀ l ∈ B, l ∈ lets p.moves.length) (hA : ∀ x ∈ A, 0 ≤ x ∧ x ≤ p.points - 1)
    (k : ∀ r H', Le H H' → Ints .own (Nw H) H' r (acts p B A) → Q r H') : W (s_sp_applyLetters v u x) H Q := by
  have h' := h
  obtain ⟨mv, rfl, hm, h64, hnl⟩ := h
  have hbB := hw.bd
  unfold s_sp_applyLetters
  refine W.box hp (by decide) rfl (cells_p hm.isCell) fun x1 H1 l1 h1 => ?_
  refine W.bnd (c_copyInts l1.wf (ha.leI l1) fun x2 H2 l2 h2 => ?_)
  refine W.lq (fun q s H3 => Le H2 H3 ∧ ∃ (i : Nat) (out : AVal), q = B.length - i ∧ i ≤ B.length ∧ s = [out, i64 (i : Int)] ∧ Ints .own (Nw H) H3 out (acts p (B.take i) A))
    (fun r H3 => Le H2 H3 ∧ ∃ out, r = (.exit 0, [out]) ∧ Ints .own (Nw H) H3 out (acts p B A)) B.length ⟨Le.refl l2.wf, 0, x2, rfl, Nat.zero_le _, rfl, h2.mono fun id _ h => Nat.le_trans l1.nx h⟩ ?_ ?_
  · rintro q s H3 ⟨l3, i, out, rfl, hi, rfl, ho⟩ Q' kn kx
    have l : Le H H3 := (l1.tr l2).tr l3
    have h3 := (h1.le l2).le l3
    by_cases hlt : i < B.length
    · have : (i : Int) < B.length := by omega
      simp only [↓XG hw, this, ↓Xa, ↓Xb, ↓Xc, ↓Xd, ↓Xe, ↓Xf, ↓Xg, ↓Xh, ↓Xi, ↓Xj, ↓Xk, ↓Xl, ↓Xm, ↓Xn, ↓Xo, ↓Xp, ↓Xq, ↓Xr, ↓Xs, ↓Xt, ↓Xu, ↓Xv, ↓Xw, ↓Xx, ↓Xy, gx0, gx1, gx2, gx3, ife_e, ife_n, ife_r, Xz, ife_ne', XA, XB, XC, XD, decide_true, decide_false, Bool.not_true, Bool.not_false, ↓wr_ld3 h3, ↓wr_ix hw hlt, ↓wr_ldI (hw.leI l) hlt]
      refine W.bnd (c_applyLetter (p := p) l3.wf (h'.le l) hv ho.ro (hB _ (List.getElem_mem hlt)) (acts_range hv (fun l hl => hB l (List.mem_of_mem_take hl)) hA) fun r H4 l4 h4 => ?_)
      rw [wr_inc (by omega)]
      refine W.ret (kn (B.length - (i + 1)) _ _ (by omega) ⟨l3.tr l4, i + 1, r, rfl, by omega, rfl, ?_⟩)
      have e1 : acts p (B.take (i + 1)) A = act p B[i] (acts p (B.take i) A) := by
        rw [List.take_succ_eq_append_getElem hlt]; simp only [acts, List.foldl_append, List.foldl_cons, List.foldl_nil]
      rw [e1]
      exact h4.mono fun id _ h => Nat.le_trans l.nx h
    · have : i = B.length := by omega
      subst this
      simp only [↓XG hw, ↓Xa, ↓Xb, ↓Xc, ↓Xd, ↓Xe, ↓Xf, ↓Xg, ↓Xh, ↓Xi, ↓Xj, ↓Xk, ↓Xl, ↓Xm, ↓Xn, ↓Xo, ↓Xp, ↓Xq, ↓Xr, ↓Xs, ↓Xt, ↓Xu, ↓Xv, ↓Xw, ↓Xx, ↓Xy, gx0, gx1, gx2, gx3, ife_e, ife_n, ife_r, Xz, ife_ne', XA, XB, XC, XD, decide_true, decide_false, Bool.not_true, Bool.not_false, Int.lt_irrefl]
      exact W.ret (kx _ _ _ (by simp) ⟨l3, out, rfl, by simpa using ho⟩)
  · rintro r H3 ⟨l3, out, rfl, h3⟩
    simp only [↓Xa, ↓Xb, ↓Xc, ↓Xd, ↓Xe, ↓Xf, ↓Xg, ↓Xh, ↓Xi, ↓Xj, ↓Xk, ↓Xl, ↓Xm, ↓Xn, ↓Xo, ↓Xp, ↓Xq, ↓Xr, ↓Xs, ↓Xt, ↓Xu, ↓Xv, ↓Xw, ↓Xx, ↓Xy, gx0, gx1, gx2, gx3, ife_e, ife_n, ife_r, Xz, ife_ne', XA, XB, XC, XD, decide_true, decide_false, Bool.not_true, Bool.not_false]
    exact W.ret (k _ _ ((l1.tr l2).tr l3) h3)
theorem word_lets {n : Nat} (h : WordOf n B) : ∀ l ∈ B, l ∈ lets n := by
  intro l hl
  obtain ⟨i, hi, rfl⟩ := List.mem_iff_getElem.1 hl
  have := h.2 i hi
  exact mem_lets.2 ⟨this.1, by omega, by omega⟩
theorem c_PatternAfter (hp : Hp H) (h : PuzA P P2 H v p) (ha : Ints .ro P3 H u A) (hb : Ints .ro P4 H x B) (hc : Ints .ro P5 H y C)
    (k : ∀ r H' z, Le H H' → r = .tuple [z, .bool (decide (Patt p A B ∧ WordOf p.moves.length C))] → Ints .own (Nw H) H' z (if Patt p A B ∧ WordOf p.moves.length C then acts p C B else []) → Q r H') : W (s_sp_PatternAfter v u x y) H Q := by
  have h' := h
  obtain ⟨mv, rfl, hm, h64, hnl⟩ := h
  unfold s_sp_PatternAfter
  refine W.box hp (by decide) rfl (cells_p hm.isCell) fun x1 H1 l1 h1 => ?_
  simp only [↓wr_ld3 h1]
  refine W.bnd (c_IsPattern (p := p) l1.wf (h'.le l1) (ha.leI l1) (hb.leI l1) fun H2 l2 => ?_)
  have h2 := h1.le l2
  have l := l1.tr l2
  by_cases h3 : Patt p A B
  · simp only [h3, ↓Xa, ↓Xb, ↓Xc, ↓Xd, ↓Xe, ↓Xf, ↓Xg, ↓Xh, ↓Xi, ↓Xj, ↓Xk, ↓Xl, ↓Xm, ↓Xn, ↓Xo, ↓Xp, ↓Xq, ↓Xr, ↓Xs, ↓Xt, ↓Xu, ↓Xv, ↓Xw, ↓Xx, ↓Xy, gx0, gx1, gx2, gx3, ife_e, ife_n, ife_r, Xz, ife_ne', XA, XB, XC, XD, decide_true, decide_false, Bool.not_true, Bool.not_false, ↓XE h2, ↓wr_f2 h2, ↓XG hm, ↓wr_e (c_IsValidWord (hc.leI l))]
    by_cases h4 : WordOf p.moves.length C
    · simp only [h4, ↓Xa, ↓Xb, ↓Xc, ↓Xd, ↓Xe, ↓Xf, ↓Xg, ↓Xh, ↓Xi, ↓Xj, ↓Xk, ↓Xl, ↓Xm, ↓Xn, ↓Xo, ↓Xp, ↓Xq, ↓Xr, ↓Xs, ↓Xt, ↓Xu, ↓Xv, ↓Xw, ↓Xx, ↓Xy, gx0, gx1, gx2, gx3, ife_e, ife_n, ife_r, Xz, ife_ne', XA, XB, XC, XD, decide_true, decide_false, Bool.not_true, Bool.not_false, ↓wr_ld3 h2]
      refine W.bnd (c_applyLetters (p := p) l2.wf (h'.le l) h3.1.1 (hb.leI l) (hc.leI l) (word_lets h4) h3.2.2.1 fun r H3 l3 hr => ?_)
      refine W.ret (k _ _ r (l.tr l3) (by simp only [h3, h4, and_self, decide_true]) ?_)
      simpa only [h3, h4, and_self, if_true] using hr.mono fun id _ hid => Nat.le_trans l.nx hid
    · simp only [h4, ↓Xa, ↓Xb, ↓Xc, ↓Xd, ↓Xe, ↓Xf, ↓Xg, ↓Xh, ↓Xi, ↓Xj, ↓Xk, ↓Xl, ↓Xm, ↓Xn, ↓Xo, ↓Xp, ↓Xq, ↓Xr, ↓Xs, ↓Xt, ↓Xu, ↓Xv, ↓Xw, ↓Xx, ↓Xy, gx0, gx1, gx2, gx3, ife_e, ife_n, ife_r, Xz, ife_ne', XA, XB, XC, XD, decide_true, decide_false, Bool.not_true, Bool.not_false]
      refine W.emp (R := RI) l2.wf fun r H3 l3 hr => ?_
      refine W.ret (k _ _ r (l.tr l3) (by simp only [h4, and_false, decide_false]) ?_)
      simpa only [h4, and_false, if_false] using hr.mono fun id _ hid => Nat.le_trans l.nx hid
  · simp only [h3, ↓Xa, ↓Xb, ↓Xc, ↓Xd, ↓Xe, ↓Xf, ↓Xg, ↓Xh, ↓Xi, ↓Xj, ↓Xk, ↓Xl, ↓Xm, ↓Xn, ↓Xo, ↓Xp, ↓Xq, ↓Xr, ↓Xs, ↓Xt, ↓Xu, ↓Xv, ↓Xw, ↓Xx, ↓Xy, gx0, gx1, gx2, gx3, ife_e, ife_n, ife_r, Xz, ife_ne', XA, XB, XC, XD, decide_true, decide_false, Bool.not_true, Bool.not_false]
    refine W.emp (R := RI) l2.wf fun r H3 l3 hr => ?_
    refine W.ret (k _ _ r (l.tr l3) (by simp only [h3, false_and, decide_false]) ?_)
    simpa only [h3, false_and, if_false] using hr.mono fun id _ hid => Nat.le_trans l.nx hid
/-- The place of the first member equal to A, or -1. -/
def idxL (LL : List (List Int)) (A : List Int) : Int := if A ∈ LL then (LL.idxOf A : Int) else -1
theorem idxOf_first {α : Type} [BEq α] [LawfulBEq α] : ∀ {LL : List α} {A : α} {i : Nat} (hi : i < LL.length), LL[i] = A → (∀ j (hj : j < i), LL[j] ≠ A) → LL.idxOf A = i
  | [], _, _, hi, _, _ => absurd hi (Nat.not_lt_zero _)
  | x :: LL, A, 0, _, h, _ => by
    simp only [List.getElem_cons_zero] at h
    subst h; simp
  | x :: LL, A, i + 1, hi, h, hf => by
    have h0 : x ≠ A := by simpa using hf 0 (by omega)
    have hb : (x == A) = false := by simpa using h0
    rw [List.idxOf_cons, hb, cond_false, idxOf_first (i := i) (by simpa using hi) (by simpa using h) fun j hj => by simpa using hf (j + 1) (by omega)]
theorem c_indexOfList (hl : Lists m P P2 H v LL) (ha : Ints .ro P3 H u A) : s_sp_indexOfList v u H = some (i64 (idxL LL A), H) := by
  refine eq_of_W fun Q kq => ?_
  have hbl := hl.bd
  unfold s_sp_indexOfList
  refine W.scan (e := 0) (w := [.undef]) LL.length (fun i => LL[i]? = some A) (fun i => [i64 (i : Int)]) (fun i hi Q' k1 k2 => ?_) (fun Q' k1 => ?_) (fun i hi hb hf => ?_) fun hb => ?_
  · have : (i : Int) < LL.length := by omega
    obtain ⟨z, hz, hL, _⟩ := hl.ld1 hi
    simp only [↓XG hl, this, ↓Xa, ↓Xb, ↓Xc, ↓Xd, ↓Xe, ↓Xf, ↓Xg, ↓Xh, ↓Xi, ↓Xj, ↓Xk, ↓Xl, ↓Xm, ↓Xn, ↓Xo, ↓Xp, ↓Xq, ↓Xr, ↓Xs, ↓Xt, ↓Xu, ↓Xv, ↓Xw, ↓Xx, ↓Xy, gx0, gx1, gx2, gx3, ife_e, ife_n, ife_r, Xz, ife_ne', XA, XB, XC, XD, decide_true, decide_false, Bool.not_true, Bool.not_false, ↓wr_ix hl hi, ↓wr_e hz, ↓wr_e (c_equalInts hL ha)]
    by_cases h : LL[i] = A
    · simp only [h, ↓Xa, ↓Xb, ↓Xc, ↓Xd, ↓Xe, ↓Xf, ↓Xg, ↓Xh, ↓Xi, ↓Xj, ↓Xk, ↓Xl, ↓Xm, ↓Xn, ↓Xo, ↓Xp, ↓Xq, ↓Xr, ↓Xs, ↓Xt, ↓Xu, ↓Xv, ↓Xw, ↓Xx, ↓Xy, gx0, gx1, gx2, gx3, ife_e, ife_n, ife_r, Xz, ife_ne', XA, XB, XC, XD, decide_true, decide_false, Bool.not_true, Bool.not_false]
      exact W.ret (k1 (by simp [hi, h]))
    · simp only [h, ↓Xa, ↓Xb, ↓Xc, ↓Xd, ↓Xe, ↓Xf, ↓Xg, ↓Xh, ↓Xi, ↓Xj, ↓Xk, ↓Xl, ↓Xm, ↓Xn, ↓Xo, ↓Xp, ↓Xq, ↓Xr, ↓Xs, ↓Xt, ↓Xu, ↓Xv, ↓Xw, ↓Xx, ↓Xy, gx0, gx1, gx2, gx3, ife_e, ife_n, ife_r, Xz, ife_ne', XA, XB, XC, XD, decide_true, decide_false, Bool.not_true, Bool.not_false]
      rw [wr_inc (by omega)]
      exact W.ret (k2 (by simp [hi, h]))
  · simp only [↓XG hl, ↓Xa, ↓Xb, ↓Xc, ↓Xd, ↓Xe, ↓Xf, ↓Xg, ↓Xh, ↓Xi, ↓Xj, ↓Xk, ↓Xl, ↓Xm, ↓Xn, ↓Xo, ↓Xp, ↓Xq, ↓Xr, ↓Xs, ↓Xt, ↓Xu, ↓Xv, ↓Xw, ↓Xx, ↓Xy, gx0, gx1, gx2, gx3, ife_e, ife_n, ife_r, Xz, ife_ne', XA, XB, XC, XD, decide_true, decide_false, Bool.not_true, Bool.not_false, Int.lt_irrefl]
    exact W.ret k1
  · simp only [↓Xa, ↓Xb, ↓Xc, ↓Xd, ↓Xe, ↓Xf, ↓Xg, ↓Xh, ↓Xi, ↓Xj, ↓Xk, ↓Xl, ↓Xm, ↓Xn, ↓Xo, ↓Xp, ↓Xq, ↓Xr, ↓Xs, ↓Xt, ↓Xu, ↓Xv, ↓Xw, ↓Xx, ↓Xy, gx0, gx1, gx2, gx3, ife_e, ife_n, ife_r, Xz, ife_ne', XA, XB, XC, XD, decide_true, decide_false, Bool.not_true, Bool.not_false]
    have h1 : LL[i] = A := by simpa [hi] using hb
    have : idxL LL A = (i : Int) := by
      rw [idxL, if_pos (h1 ▸ List.getElem_mem hi), idxOf_first hi h1 fun j hj h => hf j hj (by rw [List.getElem?_eq_getElem (by omega), h])]
    exact W.ret (by rw [← this]; exact kq)
  · simp only [↓Xa, ↓Xb, ↓Xc, ↓Xd, ↓Xe, ↓Xf, ↓Xg, ↓Xh, ↓Xi, ↓Xj, ↓Xk, ↓Xl, ↓Xm, ↓Xn, ↓Xo, ↓Xp, ↓Xq, ↓Xr, ↓Xs, ↓Xt, ↓Xu, ↓Xv, ↓Xw, ↓Xx, ↓Xy, gx0, gx1, gx2, gx3, ife_e, ife_n, ife_r, Xz, ife_ne', XA, XB, XC, XD, decide_true, decide_false, Bool.not_true, Bool.not_false]
    have : idxL LL A = -1 := if_neg fun h => by
      obtain ⟨i, hi, h⟩ := List.mem_iff_getElem.1 h
      exact hb i hi (by simp [hi, h])
    exact W.ret (by rw [← this]; exact kq)

/-! The order of lists -/
def prec : List Int → List Int → Bool
  | x :: a, y :: b => if x = y then prec a b else decide (x < y)
  | _, _ => false
theorem prec_irrefl : ∀ (a : List Int), prec a a = false
  | [] => rfl
  | x :: a => by simp [prec, prec_irrefl a]
theorem prec_trans : ∀ {a b c : List Int}, prec a b = true → prec b c = true → prec a c = true
  | [], _, _, h, _ => by simp [prec] at h
  | _ :: _, [], _, h, _ => by simp [prec] at h
  | _ :: _, _ :: _, [], _, h => by simp [prec] at h
  | x :: a, y :: b, z :: c, h1, h2 => by
    simp only [prec] at h1 h2 ⊢
    by_cases h3 : x = y
    · subst h3
      rw [if_pos rfl] at h1
      by_cases h4 : x = z
      · rw [if_pos h4] at h2 ⊢; exact prec_trans h1 h2
      · rw [if_neg h4] at h2 ⊢; exact h2
    · rw [if_neg h3] at h1
      by_cases h4 : y = z
      · subst h4; rw [if_neg h3]; exact h1
      · rw [if_neg h4] at h2
        simp only [decide_eq_true_eq] at h1 h2
        rw [if_neg (by omega)]; simp; omega
theorem prec_tri : ∀ {a b : List Int}, a.length = b.length → prec a b = false → prec b a = false → a = b
  | [], [], _, _, _ => rfl
  | [], _ :: _, h, _, _ => by simp at h
  | _ :: _, [], h, _, _ => by simp at h
  | x :: a, y :: b, h, h1, h2 => by
    simp only [prec] at h1 h2
    by_cases h3 : x = y
    · subst h3
      rw [if_pos rfl] at h1 h2
      rw [prec_tri (by simpa using h) h1 h2]
    · rw [if_neg h3] at h1
      rw [if_neg (fun h => h3 h.symm)] at h2
      simp only [decide_eq_false_iff_not] at h1 h2
      omega
theorem prec_first : ∀ {a b : List Int} {i : Nat} (hi : i < a.length) (hi' : i < b.length), (∀ j, j < i → a[j]? = b[j]?) → a[i] ≠ b[i] → prec a b = decide (a[i] < b[i])
  | [], _, _, hi, _, _, _ => absurd hi (Nat.not_lt_zero _)
  | _ :: _, [], _, _, hi, _, _ => absurd hi (Nat.not_lt_zero _)
  | x :: a, y :: b, 0, _, _, _, h => by simp only [List.getElem_cons_zero] at h; simp [prec, h]
  | x :: a, y :: b, i + 1, hi, hi', hf, h => by
    have h0 := hf 0 (by omega)
    simp only [List.getElem?_cons_zero, Option.some.injEq] at h0
    subst h0
    simp only [prec, if_true, List.getElem_cons_succ]
    exact prec_first (by simpa using hi) (by simpa using hi') (fun j hj => by simpa using hf (j + 1) (by omega)) (by simpa using h)
theorem c_listPrecedes (ha : Ints .ro P H v A) (hb : Ints .ro P2 H u B) (hl : A.length = B.length) : s_sp_listPrecedes v u H = some (.bool (prec A B), H) := by
  refine eq_of_W fun Q kq => ?_
  have hba := ha.bd
  unfold s_sp_listPrecedes
  refine W.scan (e := 0) (w := [.undef]) A.length (fun i => A[i]? ≠ B[i]?) (fun i => [.bool (decide (A.getD i 0 < B.getD i 0))]) (fun i hi Q' k1 k2 => ?_) (fun Q' k1 => ?_) (fun i hi hne hf => ?_) fun hf => ?_
  · have hi' : i < B.length := by omega
    have : (i : Int) < A.length := by omega
    simp only [↓XG ha, this, ↓Xa, ↓Xb, ↓Xc, ↓Xd, ↓Xe, ↓Xf, ↓Xg, ↓Xh, ↓Xi, ↓Xj, ↓Xk, ↓Xl, ↓Xm, ↓Xn, ↓Xo, ↓Xp, ↓Xq, ↓Xr, ↓Xs, ↓Xt, ↓Xu, ↓Xv, ↓Xw, ↓Xx, ↓Xy, gx0, gx1, gx2, gx3, ife_e, ife_n, ife_r, Xz, ife_ne', XA, XB, XC, XD, decide_true, decide_false, Bool.not_true, Bool.not_false, ↓wr_ix ha hi, ↓wr_ldI ha hi, ↓wr_ix hb hi', ↓wr_ldI hb hi']
    by_cases h : A[i] = B[i]
    · simp only [h, ↓Xa, ↓Xb, ↓Xc, ↓Xd, ↓Xe, ↓Xf, ↓Xg, ↓Xh, ↓Xi, ↓Xj, ↓Xk, ↓Xl, ↓Xm, ↓Xn, ↓Xo, ↓Xp, ↓Xq, ↓Xr, ↓Xs, ↓Xt, ↓Xu, ↓Xv, ↓Xw, ↓Xx, ↓Xy, gx0, gx1, gx2, gx3, ife_e, ife_n, ife_r, Xz, ife_ne', XA, XB, XC, XD, decide_true, decide_false, Bool.not_true, Bool.not_false]
      rw [wr_inc (by omega)]
      exact W.ret (k2 (by simp [hi, hi', h]))
    · simp only [h, ↓Xa, ↓Xb, ↓Xc, ↓Xd, ↓Xe, ↓Xf, ↓Xg, ↓Xh, ↓Xi, ↓Xj, ↓Xk, ↓Xl, ↓Xm, ↓Xn, ↓Xo, ↓Xp, ↓Xq, ↓Xr, ↓Xs, ↓Xt, ↓Xu, ↓Xv, ↓Xw, ↓Xx, ↓Xy, gx0, gx1, gx2, gx3, ife_e, ife_n, ife_r, Xz, ife_ne', XA, XB, XC, XD, decide_true, decide_false, Bool.not_true, Bool.not_false, ↓wr_ix ha hi, ↓wr_ldI ha hi, ↓wr_ix hb hi', ↓wr_ldI hb hi']
      exact W.ret (by simpa [hi, hi'] using k1 (by simp [hi, hi', h]))
  · simp only [↓XG ha, ↓Xa, ↓Xb, ↓Xc, ↓Xd, ↓Xe, ↓Xf, ↓Xg, ↓Xh, ↓Xi, ↓Xj, ↓Xk, ↓Xl, ↓Xm, ↓Xn, ↓Xo, ↓Xp, ↓Xq, ↓Xr, ↓Xs, ↓Xt, ↓Xu, ↓Xv, ↓Xw, ↓Xx, ↓Xy, gx0, gx1, gx2, gx3, ife_e, ife_n, ife_r, Xz, ife_ne', XA, XB, XC, XD, decide_true, decide_false, Bool.not_true, Bool.not_false, Int.lt_irrefl]
    exact W.ret k1
  · have hi' : i < B.length := by omega
    simp only [↓Xa, ↓Xb, ↓Xc, ↓Xd, ↓Xe, ↓Xf, ↓Xg, ↓Xh, ↓Xi, ↓Xj, ↓Xk, ↓Xl, ↓Xm, ↓Xn, ↓Xo, ↓Xp, ↓Xq, ↓Xr, ↓Xs, ↓Xt, ↓Xu, ↓Xv, ↓Xw, ↓Xx, ↓Xy, gx0, gx1, gx2, gx3, ife_e, ife_n, ife_r, Xz, ife_ne', XA, XB, XC, XD, decide_true, decide_false, Bool.not_true, Bool.not_false]
    refine W.ret ?_
    rw [prec_first hi hi' (fun j hj => Classical.not_not.1 (hf j hj)) (by simpa [hi, hi'] using hne)] at kq
    simpa [hi, hi'] using kq
  · simp only [↓Xa, ↓Xb, ↓Xc, ↓Xd, ↓Xe, ↓Xf, ↓Xg, ↓Xh, ↓Xi, ↓Xj, ↓Xk, ↓Xl, ↓Xm, ↓Xn, ↓Xo, ↓Xp, ↓Xq, ↓Xr, ↓Xs, ↓Xt, ↓Xu, ↓Xv, ↓Xw, ↓Xx, ↓Xy, gx0, gx1, gx2, gx3, ife_e, ife_n, ife_r, Xz, ife_ne', XA, XB, XC, XD, decide_true, decide_false, Bool.not_true, Bool.not_false]
    have : A = B := List.ext_getElem? fun i => by
      by_cases hi : i < A.length
      · exact Classical.not_not.1 (hf i hi)
      · rw [List.getElem?_eq_none (by omega), List.getElem?_eq_none (by omega)]
    subst this
    rw [prec_irrefl] at kq
    exact W.ret kq
end
end Go.Am

end

section
set_option linter.unusedSimpArgs false
set_option linter.unusedVariables false
/- Contracts: the slot and the index of a list in a sorted search. -/
namespace Go.Am
section
variable {β : Type} {f : AVal → AM β} {Q : AVal → AHeap → Prop} {m m2 : Md} {P P2 P3 P4 P5 P' : Nat → Prop} {e e2 : TypeId} {H H' : AHeap} {v u x y lv dv sv : AVal} {A B C S s : List Int} {L : List (List Int)} {p : Puz} {kk : Nat} {w : Bool}
theorem wr_half {Q : β → AHeap → Prop} {a : Nat} (h : a ≤ 9223372036854775807) : W (bnd (abin .quo (i64 (a : Int)) (i64 2)) f) H Q ↔ W (f (i64 ((a / 2 : Nat) : Int))) H Q := by
  refine wr_p ?_
  have h1 : ((a : Int).tdiv 2) = ((a / 2 : Nat) : Int) := rfl
  simp only [abin, wr]
  rw [if_neg (by simp), if_neg (by decide), h1, wrap_in (by unfold In64; omega)]
theorem wr_addn {Q : β → AHeap → Prop} {a b : Nat} (h : a + b ≤ 9223372036854775807) : W (bnd (abin .add (i64 (a : Int)) (i64 (b : Int))) f) H Q ↔ W (f (i64 ((a + b : Nat) : Int))) H Q := by
  rw [wr_add (by unfold In64; omega)]; simp
def keys (L : List (List Int)) (S : List Int) : List (List Int) := S.map fun x => L.getD x.toNat []
/-- S holds the places of L in the order of its members. -/
structure SOK (L : List (List Int)) (S : List Int) (kk : Nat) : Prop where
  len : S.length = L.length
  wid : ∀ a ∈ L, a.length = kk
  rng : ∀ x ∈ S, 0 ≤ x ∧ x < (L.length : Int)
  srt : (keys L S).Pairwise fun a b => prec a b = true
theorem keys_length : (keys L S).length = S.length := by simp [keys]
theorem SOK.key (h : SOK L S kk) {i : Nat} (hi : i < S.length) : ∃ j : Nat, ∃ hj : j < L.length, S[i] = (j : Int) ∧ (keys L S)[i]'(by rw [keys_length]; exact hi) = L[j] := by
  have hr := h.rng _ (List.getElem_mem hi)
  have hj : S[i].toNat < L.length := by omega
  refine ⟨S[i].toNat, hj, by omega, ?_⟩
  simp [keys, List.getD_eq_getElem?_getD, hj]
theorem SOK.nodup (h : SOK L S kk) : (keys L S).Nodup := by
  rw [List.nodup_iff_pairwise_ne]
  exact h.srt.imp fun {a b} hab he => by rw [he, prec_irrefl] at hab; cases hab
theorem SOK.sub (h : SOK L S kk) : ∀ a ∈ keys L S, a ∈ L := by
  intro a ha
  obtain ⟨i, hi, rfl⟩ := List.mem_iff_getElem.1 ha
  obtain ⟨j, hj, _, h2⟩ := h.key (i := i) (by rw [keys_length] at hi; exact hi)
  rw [h2]; exact List.getElem_mem hj
theorem SOK.full (h : SOK L S kk) : ∀ a ∈ L, a ∈ keys L S := nodup_full h.nodup h.sub (by rw [keys_length, h.len]; exact Nat.le_refl _)
theorem SOK.nodupL (h : SOK L S kk) : L.Nodup := nodup_of_full h.nodup h.sub (by rw [keys_length, h.len]; exact Nat.le_refl _)
def SlotAt (K : List (List Int)) (s : List Int) (at_ : Nat) : Prop := (∀ i (h : i < K.length), i < at_ → prec K[i] s = true) ∧ (∀ i (h : i < K.length), at_ ≤ i → prec K[i] s = false)
theorem SOK.found (h : SOK L S kk) {a : Nat} (hs : s.length = kk) (hsl : SlotAt (keys L S) s a) : s ∈ L ↔ ∃ h : a < (keys L S).length, (keys L S)[a] = s := by
  constructor
  · intro hm
    obtain ⟨i, hi, he⟩ := List.mem_iff_getElem.1 (h.full s hm)
    have hai : a = i := by
      rcases Nat.lt_trichotomy a i with hl | hl | hl
      · have h1 := hsl.2 a (Nat.lt_trans hl hi) (Nat.le_refl _)
        have h2 := List.pairwise_iff_getElem.1 h.srt a i (Nat.lt_trans hl hi) hi hl
        rw [he] at h2; rw [h1] at h2; cases h2
      · exact hl
      · have h1 := hsl.1 i hi hl
        rw [he, prec_irrefl] at h1; cases h1
    subst hai
    exact ⟨hi, he⟩
  · rintro ⟨h1, h2⟩
    exact h2 ▸ h.sub _ (List.getElem_mem h1)
theorem cells_f (h1 : lv.isCell = true) (h2 : dv.isCell = true) (h3 : sv.isCell = true) : ([lv, dv, sv, .bool w] : List AVal).all AVal.isCell = true := by simp only [List.all_cons, List.all_nil, h1, h2, h3]; rfl
theorem c_searchSlot (hp : Hp H) (hd : dv.isCell = true) (hl : Lists m P P2 H lv L) (hs : Seq RI m2 P3 t_int H sv S) (hok : SOK L S kk) (hx : Ints .ro P4 H u s) (hk : s.length = kk)
    (k : ∀ H' (a : Nat), Le H H' → a ≤ S.length → SlotAt (keys L S) s a → Q (i64 (a : Int)) H') : W (s_sp_searchSlot (.agg [lv, dv, sv, .bool w]) u) H Q := by
  have hbs := hs.bd
  unfold s_sp_searchSlot
  refine W.box hp (by decide) rfl (cells_f hl.isCell hd hs.isCell) fun x1 H1 l1 h1 => ?_
  have hs1 := hs.leI l1
  have hl1 := hl.leL l1
  have hx1 := hx.leI l1
  simp only [↓XE h1, ↓wr_f2 h1, ↓XG hs]
  refine W.lq (fun q st H2 => H2 = H1 ∧ ∃ lo hi : Nat, q = hi - lo ∧ lo ≤ hi ∧ hi ≤ S.length ∧ st = [i64 (lo : Int), i64 (hi : Int)] ∧ (∀ i (h : i < (keys L S).length), i < lo → prec (keys L S)[i] s = true) ∧ (∀ i (h : i < (keys L S).length), hi ≤ i → prec (keys L S)[i] s = false))
    (fun r H2 => H2 = H1 ∧ ∃ lo : Nat, r = (.exit 0, [i64 (lo : Int)]) ∧ lo ≤ S.length ∧ SlotAt (keys L S) s lo) S.length ⟨rfl, 0, S.length, rfl, Nat.zero_le _, Nat.le_refl _, rfl, fun _ _ h => absurd h (Nat.not_lt_zero _), fun i h h' => by rw [keys_length] at h; omega⟩ ?_ ?_
  · rintro q st H2 ⟨rfl, lo, hi, rfl, hlh, hhi, rfl, hlo, hhi'⟩ Q' kn kx
    by_cases hlt : lo < hi
    · have h2 : ((lo : Int) < hi) := by omega
      have hmid : (lo + hi) / 2 < S.length := by omega
      obtain ⟨j, hj, e1, e2⟩ := hok.key hmid
      obtain ⟨z, hz, hL, _⟩ := hl1.ld1 hj
      have hw : L[j].length = s.length := by rw [hk]; exact hok.wid _ (List.getElem_mem hj)
      have h3 : lo + hi ≤ 9223372036854775807 := by omega
      simp only [h2, ↓Xa, ↓Xb, ↓Xc, ↓Xd, ↓Xe, ↓Xf, ↓Xg, ↓Xh, ↓Xi, ↓Xj, ↓Xk, ↓Xl, ↓Xm, ↓Xn, ↓Xo, ↓Xp, ↓Xq, ↓Xr, ↓Xs, ↓Xt, ↓Xu, ↓Xv, ↓Xw, ↓Xx, ↓Xy, gx0, gx1, gx2, gx3, ife_e, ife_n, ife_r, Xz, ife_ne', XA, XB, XC, XD, decide_true, decide_false, Bool.not_true, Bool.not_false, ↓wr_addn h3, ↓wr_half h3, ↓XE h1, ↓wr_f0 h1, ↓wr_f2 h1, ↓wr_ix hs1 hmid, ↓wr_ldI hs1 hmid, e1, ↓wr_ix hl1 hj, ↓wr_e hz, ↓wr_e (c_listPrecedes hL hx1 hw)]
      have hmk : (lo + hi) / 2 < (keys L S).length := by rw [keys_length]; exact hmid
      cases hpr : prec L[j] s with
      | true =>
        simp only [↓Xa, ↓Xb, ↓Xc, ↓Xd, ↓Xe, ↓Xf, ↓Xg, ↓Xh, ↓Xi, ↓Xj, ↓Xk, ↓Xl, ↓Xm, ↓Xn, ↓Xo, ↓Xp, ↓Xq, ↓Xr, ↓Xs, ↓Xt, ↓Xu, ↓Xv, ↓Xw, ↓Xx, ↓Xy, gx0, gx1, gx2, gx3, ife_e, ife_n, ife_r, Xz, ife_ne', XA, XB, XC, XD, decide_true, decide_false, Bool.not_true, Bool.not_false, ↓XH]
        rw [wr_inc (by omega)]
        simp only [↓Xa, ↓Xb, ↓Xc, ↓Xd, ↓Xe, ↓Xf, ↓Xg, ↓Xh, ↓Xi, ↓Xj, ↓Xk, ↓Xl, ↓Xm, ↓Xn, ↓Xo, ↓Xp, ↓Xq, ↓Xr, ↓Xs, ↓Xt, ↓Xu, ↓Xv, ↓Xw, ↓Xx, ↓Xy, gx0, gx1, gx2, gx3, ife_e, ife_n, ife_r, Xz, ife_ne', XA, XB, XC, XD, decide_true, decide_false, Bool.not_true, Bool.not_false]
        refine W.ret (kn (hi - ((lo + hi) / 2 + 1)) _ _ (by omega) ⟨rfl, (lo + hi) / 2 + 1, hi, rfl, by omega, hhi, rfl, fun i h hi' => ?_, hhi'⟩)
        by_cases hie : i = (lo + hi) / 2
        · subst hie; rw [e2]; exact hpr
        · refine prec_trans (List.pairwise_iff_getElem.1 hok.srt i _ h hmk (by omega)) ?_
          rw [e2]; exact hpr
      | false =>
        simp only [↓Xa, ↓Xb, ↓Xc, ↓Xd, ↓Xe, ↓Xf, ↓Xg, ↓Xh, ↓Xi, ↓Xj, ↓Xk, ↓Xl, ↓Xm, ↓Xn, ↓Xo, ↓Xp, ↓Xq, ↓Xr, ↓Xs, ↓Xt, ↓Xu, ↓Xv, ↓Xw, ↓Xx, ↓Xy, gx0, gx1, gx2, gx3, ife_e, ife_n, ife_r, Xz, ife_ne', XA, XB, XC, XD, decide_true, decide_false, Bool.not_true, Bool.not_false]
        refine W.ret (kn ((lo + hi) / 2 - lo) _ _ (by omega) ⟨rfl, lo, (lo + hi) / 2, rfl, by omega, by omega, rfl, hlo, fun i h hi' => ?_⟩)
        by_cases hie : i = (lo + hi) / 2
        · subst hie; rw [e2]; exact hpr
        · cases hpi : prec (keys L S)[i] s with
          | false => rfl
          | true =>
            have := prec_trans (List.pairwise_iff_getElem.1 hok.srt _ i hmk h (by omega)) hpi
            rw [e2, hpr] at this; cases this
    · have h2 : ¬((lo : Int) < hi) := by omega
      have : lo = hi := by omega
      subst this
      simp only [h2, ↓Xa, ↓Xb, ↓Xc, ↓Xd, ↓Xe, ↓Xf, ↓Xg, ↓Xh, ↓Xi, ↓Xj, ↓Xk, ↓Xl, ↓Xm, ↓Xn, ↓Xo, ↓Xp, ↓Xq, ↓Xr, ↓Xs, ↓Xt, ↓Xu, ↓Xv, ↓Xw, ↓Xx, ↓Xy, gx0, gx1, gx2, gx3, ife_e, ife_n, ife_r, Xz, ife_ne', XA, XB, XC, XD, decide_true, decide_false, Bool.not_true, Bool.not_false]
      exact W.ret (kx _ _ _ (by simp) ⟨rfl, lo, rfl, hhi, hlo, hhi'⟩)
  · rintro r H2 ⟨rfl, lo, rfl, h2, h3⟩
    simp only [↓Xa, ↓Xb, ↓Xc, ↓Xd, ↓Xe, ↓Xf, ↓Xg, ↓Xh, ↓Xi, ↓Xj, ↓Xk, ↓Xl, ↓Xm, ↓Xn, ↓Xo, ↓Xp, ↓Xq, ↓Xr, ↓Xs, ↓Xt, ↓Xu, ↓Xv, ↓Xw, ↓Xx, ↓Xy, gx0, gx1, gx2, gx3, ife_e, ife_n, ife_r, Xz, ife_ne', XA, XB, XC, XD, decide_true, decide_false, Bool.not_true, Bool.not_false]
    exact W.ret (k _ lo l1 h2 h3)
theorem c_searchIndex (hp : Hp H) (hd : dv.isCell = true) (hl : Lists m P P2 H lv L) (hs : Seq RI m2 P3 t_int H sv S) (hok : SOK L S kk) (hx : Ints .ro P4 H u s) (hk : s.length = kk)
    (k : ∀ H', Le H H' → Q (i64 (idxL L s)) H') : W (s_sp_searchIndex (.agg [lv, dv, sv, .bool w]) u) H Q := by
  unfold s_sp_searchIndex
  refine W.box hp (by decide) rfl (cells_f hl.isCell hd hs.isCell) fun x1 H1 l1 h1 => ?_
  simp only [↓wr_ld4 h1]
  refine W.bnd (c_searchSlot l1.wf hd (hl.leL l1) (hs.leI l1) hok (hx.leI l1) hk fun H2 a l2 ha hsl => ?_)
  have h2 := h1.le l2
  have l := l1.tr l2
  have hf := hok.found hk hsl
  simp only [↓XE h2, ↓wr_f2 h2, ↓XG hs, ↓Xa, ↓Xb, ↓Xc, ↓Xd, ↓Xe, ↓Xf, ↓Xg, ↓Xh, ↓Xi, ↓Xj, ↓Xk, ↓Xl, ↓Xm, ↓Xn, ↓Xo, ↓Xp, ↓Xq, ↓Xr, ↓Xs, ↓Xt, ↓Xu, ↓Xv, ↓Xw, ↓Xx, ↓Xy, gx0, gx1, gx2, gx3, ife_e, ife_n, ife_r, Xz, ife_ne', XA, XB, XC, XD, decide_true, decide_false, Bool.not_true, Bool.not_false]
  by_cases h3 : a < S.length
  · have h3' : (a : Int) < S.length := by omega
    obtain ⟨j, hj, e1, e2⟩ := hok.key h3
    have hs2 := hs.leI l
    have hl2 := hl.leL l
    obtain ⟨z, hz, hL, _⟩ := hl2.ld1 hj
    simp only [h3', ↓Xa, ↓Xb, ↓Xc, ↓Xd, ↓Xe, ↓Xf, ↓Xg, ↓Xh, ↓Xi, ↓Xj, ↓Xk, ↓Xl, ↓Xm, ↓Xn, ↓Xo, ↓Xp, ↓Xq, ↓Xr, ↓Xs, ↓Xt, ↓Xu, ↓Xv, ↓Xw, ↓Xx, ↓Xy, gx0, gx1, gx2, gx3, ife_e, ife_n, ife_r, Xz, ife_ne', XA, XB, XC, XD, decide_true, decide_false, Bool.not_true, Bool.not_false, ↓XE h2, ↓wr_f0 h2, ↓wr_f2 h2, ↓wr_ix hs2 h3, ↓wr_ldI hs2 h3, e1, ↓wr_ix hl2 hj, ↓wr_e hz, ↓wr_e (c_equalInts hL (hx.leI l))]
    by_cases h4 : L[j] = s
    · simp only [h4, ↓Xa, ↓Xb, ↓Xc, ↓Xd, ↓Xe, ↓Xf, ↓Xg, ↓Xh, ↓Xi, ↓Xj, ↓Xk, ↓Xl, ↓Xm, ↓Xn, ↓Xo, ↓Xp, ↓Xq, ↓Xr, ↓Xs, ↓Xt, ↓Xu, ↓Xv, ↓Xw, ↓Xx, ↓Xy, gx0, gx1, gx2, gx3, ife_e, ife_n, ife_r, Xz, ife_ne', XA, XB, XC, XD, decide_true, decide_false, Bool.not_true, Bool.not_false, ↓XE h2, ↓wr_f2 h2, ↓wr_ix hs2 h3, ↓wr_ldI hs2 h3, e1]
      have : idxL L s = (j : Int) := by
        rw [idxL, if_pos (h4 ▸ List.getElem_mem hj), idxOf_first hj h4 fun i hi he => ?_]
        have := nodup_inj hok.nodupL (Nat.lt_trans hi hj) hj (he.trans h4.symm)
        omega
      exact W.ret (by rw [← this]; exact k _ l)
    · simp only [h4, ↓Xa, ↓Xb, ↓Xc, ↓Xd, ↓Xe, ↓Xf, ↓Xg, ↓Xh, ↓Xi, ↓Xj, ↓Xk, ↓Xl, ↓Xm, ↓Xn, ↓Xo, ↓Xp, ↓Xq, ↓Xr, ↓Xs, ↓Xt, ↓Xu, ↓Xv, ↓Xw, ↓Xx, ↓Xy, gx0, gx1, gx2, gx3, ife_e, ife_n, ife_r, Xz, ife_ne', XA, XB, XC, XD, decide_true, decide_false, Bool.not_true, Bool.not_false]
      have : idxL L s = -1 := if_neg fun hm => by
        obtain ⟨q1, q2⟩ := hf.1 hm
        exact h4 (e2 ▸ q2)
      exact W.ret (by rw [← this]; exact k _ l)
  · have h3' : ¬(a : Int) < S.length := by omega
    simp only [h3', ↓Xa, ↓Xb, ↓Xc, ↓Xd, ↓Xe, ↓Xf, ↓Xg, ↓Xh, ↓Xi, ↓Xj, ↓Xk, ↓Xl, ↓Xm, ↓Xn, ↓Xo, ↓Xp, ↓Xq, ↓Xr, ↓Xs, ↓Xt, ↓Xu, ↓Xv, ↓Xw, ↓Xx, ↓Xy, gx0, gx1, gx2, gx3, ife_e, ife_n, ife_r, Xz, ife_ne', XA, XB, XC, XD, decide_true, decide_false, Bool.not_true, Bool.not_false]
    have : idxL L s = -1 := if_neg fun hm => by
      obtain ⟨q1, _⟩ := hf.1 hm
      rw [keys_length] at q1; exact h3 q1
    exact W.ret (by rw [← this]; exact k _ l)
end
end Go.Am

end

section
set_option linter.unusedSimpArgs false
set_option linter.unusedVariables false
/- Contracts: a list is added to a sorted search. -/
namespace Go.Am
section
variable {β X : Type} {f : AVal → AM β} {Q : β → AHeap → Prop} {R : AHeap → AVal → X → Prop} {m m2 : Md} {P P2 P3 P4 P5 P' : Nat → Prop} {e e2 : TypeId} {H H' : AHeap} {v u x y lv dv sv : AVal} {A B C S s : List Int} {w : Bool}
theorem Seq.place {L : List X} (h : Seq R m P e H v L) (hL : L ≠ []) : ∃ id, P id ∧ id < H.next := by
  cases h with
  | nil => exact absurd rfl hL
  | mk id off fz c L' hP hid hg hl hb hm hR => exact ⟨id, hP, hid⟩
/-- A sequence with a place of its own name. -/
theorem W.app1n {L : List X} {a : X} {bytes : Nat} (hp : Hp H) (h : Seq R .own P e H v L) (hs : Stb P e R) (hu : u.isCell = true) (hb : bytes ≤ 4096) (hlen : L.length + 1 ≤ 1073741824) (hw : R H u a)
    (k : ∀ y H' d, H.next ≤ d → d < H'.next → Fr (Bk P e H) H H' → Seq R .own (· = d) e H' y (L ++ [a]) → W (f y) H' Q) :
    W (Am.bnd (Am.bnd (Am.bnd (Am.cell1 u) fun y => Am.ret [y]) fun cs => allocS none e 1 1 cs) fun z => Am.bnd (appS e 1 bytes v z) f) H Q := by
  refine W.lit1 (R := R) hp hu (a := a) (fun H' l => hs l.bk hw) fun z H1 l1 h1 => ?_
  exact W.appn l1.wf (h.fr l1 (fun _ _ _ _ _ _ h => h) fun v x hx => hs l1.bk hx) h1 (by simp) hb (by simpa using hlen) (fun H' f v x hx => hs f hx) fun y H2 f2 h2 => k y H2 _ l1.nx (by
    obtain ⟨id, hP, hid⟩ := h2.place (by simp)
    subst hP; exact hid) (l1.bk.bk f2) h2
/-- The part of a slice from l on. -/
def slP (v : AVal) (l : Nat) : AVal :=
  match v with
  | .slice id off n sz => .slice id (off + l * 1) (n - l) sz
  | w => w
theorem wr_slP {γ : Type} {g : AVal → AM γ} {Q : γ → AHeap → Prop} {L : List X} {H0 : AHeap} (h : Seq R m P e H v L) {l : Nat} (hl : l ≤ L.length) {k : IntKind} : W (bnd (slS 1 v (some (.int k (l : Int))) none) g) H0 Q ↔ W (g (slP v l)) H0 Q := by
  refine wr_p ?_
  cases h with
  | nil =>
    have : l = 0 := Nat.le_zero.1 hl
    subst this; rfl
  | mk id off fz c L' hP hid hg hl' hb hm hR =>
    have : bnds L.length (some (.int k (l : Int))) none = some (l, L.length) := by simp [bnds, bndOf, hl]
    simp [slS, this, slP]
theorem spliceGet {c d : List AVal} {o n : Nat} (ho : o + d.length ≤ c.length) : (splice c o d)[n]? = if n < o then c[n]? else if n < o + d.length then d[n - o]? else c[n]? := by
  unfold splice
  by_cases h1 : n < o
  · rw [List.append_assoc, List.getElem?_append_left (by simp; omega), List.getElem?_take_of_lt h1, if_pos h1]
  · rw [if_neg h1]
    by_cases h2 : n < o + d.length
    · rw [List.append_assoc, List.getElem?_append_right (by simp; omega), List.length_take, Nat.min_eq_left (by omega), List.getElem?_append_left (by omega), if_pos h2]
    · rw [List.getElem?_append_right (by simp; omega), List.getElem?_drop, if_neg h2]
      congr 1; simp; omega
theorem spliceLen {c d : List AVal} {o : Nat} (ho : o + d.length ≤ c.length) : (splice c o d).length = c.length := by simp [splice]; omega
/-- copy(v[a+1:], v[a:]). -/
theorem W.shift {L : List X} {a : Nat} (hp : Hp H) (h : Seq R m P e H v L) (hm : m ≠ .ro) (ha : a < L.length) (hs : Stb P e R)
    (k : ∀ r H', Fr (Bk P e H) H H' → Seq R m P e H' v (L.take (a + 1) ++ (L.drop a).take (L.length - a - 1)) → W (f r) H' Q) : W (Am.bnd (copyS 1 (slP v (a + 1)) (slP v a)) f) H Q := by
  cases h with
  | nil => exact absurd ha (Nat.not_lt_zero _)
  | mk id off fz c L' hP hid hg hl hb hmo hR =>
    have hfz : fz ≤ off := by
      cases m with
      | ro => exact absurd rfl hm
      | rw => exact hmo
      | own => exact hmo.1
    have hmin : Min.min (L.length - a) (L.length - (a + 1)) = L.length - a - 1 := by omega
    have hsrc : srcCells 1 (slP (.slice id off L.length 1) a) (L.length - a - 1) H = some ((c.drop (off + a)).take (L.length - a - 1)) := by
      simp only [slP, srcCells, rd, hg, Nat.mul_one]
      rw [if_pos ⟨trivial, by omega⟩]
    have hnl : ((c.drop (off + a)).take (L.length - a - 1)).length = L.length - a - 1 := by simp; omega
    have hall : ((c.drop (off + a)).take (L.length - a - 1)).all AVal.isCell = true := by
      rw [List.all_eq_true]
      intro u hu
      obtain ⟨i, hi, rfl⟩ := List.mem_iff_getElem.1 hu
      rw [hnl] at hi
      obtain ⟨w, h1, h2, h3⟩ := hR (a + i) (by omega)
      simp only [List.getElem_take, List.getElem_drop]
      rw [List.getElem?_eq_some_iff] at h1
      obtain ⟨_, h1⟩ := h1
      simp only [Nat.add_assoc]
      rw [h1]; exact h2
    by_cases h0 : L.length - a - 1 = 0
    · refine W.e (a := .int .i64 0) (H' := H) ?_ (k _ H ((Le.refl hp).mono fun _ _ h => h.elim) ?_)
      · simp only [copyS, slP, srcLen, hmin]
        simp only [slP] at hsrc
        rw [hsrc]
        simp only [hall, h0]
        rfl
      · have hle : a + 1 = L.length := by omega
        have e1 : L.take (a + 1) ++ (L.drop a).take (L.length - a - 1) = L := by rw [h0, hle]; simp
        rw [e1]
        exact .mk id off fz c L hP hid hg hl hb hmo hR
    · have hfr : Fr (Bk P e H) H (H.set id (.cells (splice c (off + (a + 1)) ((c.drop (off + a)).take (L.length - a - 1))) e fz)) := (Fr.set hp hid _).mono fun i hi h => by subst h; exact ⟨hP, c, fz, hg⟩
      refine W.e (a := .int .i64 ((L.length - a - 1 : Nat) : Int)) (H' := H.set id (.cells (splice c (off + (a + 1)) ((c.drop (off + a)).take (L.length - a - 1))) e fz)) ?_ (k _ _ hfr ?_)
      · simp only [copyS, slP, srcLen, hmin]
        simp only [slP] at hsrc
        rw [hsrc]
        simp only [hall, h0, stCells, hg, hnl, and_self, if_true, if_false, Nat.mul_one]
        rw [if_pos ⟨by omega, by omega⟩]
      · have hlen : (L.take (a + 1) ++ (L.drop a).take (L.length - a - 1)).length = L.length := by simp; omega
        have hsl : off + (a + 1) + ((c.drop (off + a)).take (L.length - a - 1)).length ≤ c.length := by rw [hnl]; omega
        have := Seq.mk (R := R) (m := m) (P := P) (e := e) (H := H.set id (.cells (splice c (off + (a + 1)) ((c.drop (off + a)).take (L.length - a - 1))) e fz)) id off fz _ (L.take (a + 1) ++ (L.drop a).take (L.length - a - 1)) hP hid get_set
          (by rw [spliceLen hsl, hlen]; exact hl) (by rw [hlen]; exact hb) (by rw [spliceLen hsl, hlen]; exact hmo) (fun i hi => by
            rw [hlen] at hi
            rw [spliceGet hsl, hnl]
            by_cases hia : i < a + 1
            · obtain ⟨w, h1, h2, h3⟩ := hR i hi
              rw [if_pos (by omega), List.getElem_append_left (by simp; omega)]
              exact ⟨w, h1, h2, by rw [List.getElem_take]; exact hs hfr h3⟩
            · obtain ⟨w, h1, h2, h3⟩ := hR (i - 1) (by omega)
              rw [if_neg (by omega), if_pos (by omega), List.getElem_append_right (by simp; omega)]
              refine ⟨w, ?_, h2, ?_⟩
              · rw [List.getElem?_take_of_lt (by omega), List.getElem?_drop, ← h1]
                congr 1; omega
              · have e2 : ((L.drop a).take (L.length - a - 1))[i - (L.take (a + 1)).length]'(by simp; omega) = L[i - 1] := by
                  rw [List.getElem_take, List.getElem_drop]
                  congr 1; simp; omega
                rw [e2]; exact hs hfr h3)
        rw [hlen] at this
        exact this
end
end Go.Am

end

section
set_option linter.unusedSimpArgs false
set_option linter.unusedVariables false
/- Contracts: searchAdd. -/
namespace Go.Am
section
variable {S : List Int} {L : List (List Int)} {s : List Int} {a kk : Nat}
theorem shift_set {S : List Int} {a : Nat} (ha : a ≤ S.length) (z n : Int) : ((S ++ [z]).take (a + 1) ++ ((S ++ [z]).drop a).take ((S ++ [z]).length - a - 1)).set a n = S.take a ++ n :: S.drop a := by
  have h1 : (S ++ [z]).take (a + 1) = S.take a ++ [(S ++ [z])[a]'(by simp; omega)] := by
    rw [List.take_succ_eq_append_getElem (by simp; omega), List.take_append_of_le_length ha]
  have h2 : ((S ++ [z]).drop a).take ((S ++ [z]).length - a - 1) = S.drop a := by
    rw [List.drop_append_of_le_length ha, List.take_append_of_le_length (by simp; omega), List.take_of_length_le (by simp; omega)]
  rw [h1, h2, List.append_assoc, List.set_append_right _ _ (by simp; omega)]
  congr 1
  have : a - (S.take a).length = 0 := by simp; omega
  rw [this]; rfl
theorem keys_add (h : SOK L S kk) : keys (L ++ [s]) (S.take a ++ (L.length : Int) :: S.drop a) = (keys L S).take a ++ s :: (keys L S).drop a := by
  have h1 : ∀ T : List Int, (∀ x ∈ T, x ∈ S) → T.map (fun x => (L ++ [s]).getD x.toNat []) = T.map (fun x => L.getD x.toNat []) := fun T hT => List.map_congr_left fun x hx => by
    have := h.rng x (hT x hx)
    have hj : x.toNat < L.length := by omega
    rw [List.getD_eq_getElem?_getD, List.getD_eq_getElem?_getD, List.getElem?_append_left hj]
  unfold keys
  rw [List.map_append, List.map_cons, h1 _ fun x hx => List.mem_of_mem_take hx, h1 _ fun x hx => List.mem_of_mem_drop hx]
  simp
theorem SOK.add (h : SOK L S kk) (hs : s.length = kk) (hn : s ∉ L) (ha : a ≤ S.length) (hsl : SlotAt (keys L S) s a) : SOK (L ++ [s]) (S.take a ++ (L.length : Int) :: S.drop a) kk := by
  refine ⟨by simp [h.len]; have := h.len; omega, fun b hb => ?_, fun x hx => ?_, ?_⟩
  · rcases List.mem_append.1 hb with hb | hb
    · exact h.wid b hb
    · rw [List.mem_singleton.1 hb]; exact hs
  · simp only [List.length_append, List.length_singleton]
    rcases List.mem_append.1 hx with hx | hx
    · have := h.rng x (List.mem_of_mem_take hx); omega
    · rcases List.mem_cons.1 hx with rfl | hx
      · omega
      · have := h.rng x (List.mem_of_mem_drop hx); omega
  · rw [keys_add h]
    have hk := h.srt
    have hpw : ((keys L S).take a ++ (keys L S).drop a).Pairwise fun a b => prec a b = true := by rw [List.take_append_drop]; exact hk
    obtain ⟨p1, p2, p3⟩ := List.pairwise_append.1 hpw
    refine List.pairwise_append.2 ⟨p1, List.pairwise_cons.2 ⟨fun b hb => ?_, p2⟩, fun x hx b hb => ?_⟩
    · obtain ⟨i, hi, rfl⟩ := List.mem_iff_getElem.1 hb
      simp only [List.length_drop] at hi
      rw [List.getElem_drop]
      have h1 := hsl.2 (a + i) (by omega) (by omega)
      cases h2 : prec s (keys L S)[a + i] with
      | true => rfl
      | false =>
        have hm := h.sub _ (List.getElem_mem (show a + i < (keys L S).length by omega))
        have := prec_tri (by rw [h.wid _ hm, hs]) h1 h2
        exact absurd (this ▸ hm) hn
    · rcases List.mem_cons.1 hb with rfl | hb
      · obtain ⟨i, hi, rfl⟩ := List.mem_iff_getElem.1 hx
        simp only [List.length_take] at hi
        rw [List.getElem_take]
        exact hsl.1 i (by omega) (by omega)
      · exact p3 x hx b hb
end
section
variable {β X : Type} {f : AVal → AM β} {Q : AVal → AHeap → Prop} {m m2 : Md} {P P2 P3 P4 P5 P' S T : Nat → Prop} {e e2 : TypeId} {H H1 H2 H' : AHeap} {v u x y lv dv sv : AVal} {A B C s D : List Int} {L : List (List Int)} {w : Bool} {n0 dd kk : Nat}
theorem Fr.ext (h : Fr T H H1) (h' : Fr S H1 H2) (hs : ∀ id, id < H.next → H1.get id = H.get id → S id → T id) : Fr T H H2 := by
  refine ⟨h'.wf, Nat.le_trans h.nx h'.nx, fun id hi hn => ?_⟩
  have h1 := h.keep id hi hn
  rw [h'.keep id (Nat.lt_of_lt_of_le hi h.nx) fun hS => hn (hs id hi h1 hS), h1]
theorem Bk.eq {id : Nat} (he : H1.get id = H.get id) (h : Bk P e H1 id) : Bk P e H id := ⟨h.1, by obtain ⟨c, fz, hc⟩ := h.2; exact ⟨c, fz, he ▸ hc⟩⟩
theorem Seq.monoR {P2' : Nat → Prop} (h : Lists m P P2 H v L) (hp : ∀ id, id < H.next → P2 id → P2' id) : Lists m P P2' H v L := by
  cases h with
  | nil => exact .nil
  | mk id off fz c L hP hid hg hl hb hm hR =>
    refine .mk id off fz c _ hP hid hg hl hb hm fun i hi => ?_
    obtain ⟨z, z1, z2, z3⟩ := hR i hi
    exact ⟨z, z1, z2, Seq.mono z3 hp⟩
abbrev Ne0 (n0 dd : Nat) : Nat → Prop := fun id => n0 ≤ id ∧ id ≠ dd
abbrev Eq0 (n0 dd : Nat) : Nat → Prop := fun id => n0 ≤ id ∧ id = dd
/-- A search that stands in blocks since n0; its depths in block dd. -/
def SSA (n0 dd : Nat) (H : AHeap) (v : AVal) (L : List (List Int)) (D : List Int) (w : Bool) (kk : Nat) : Prop :=
  ∃ lv dv sv S, v = .agg [lv, dv, sv, .bool w] ∧ Lists .own (n0 ≤ ·) (Ne0 n0 dd) H lv L ∧ Seq RI .own (Eq0 n0 dd) t_int64 H dv D ∧ IntsI .own (n0 ≤ ·) H sv S ∧ SOK L S kk ∧ D.length = L.length
/-- What an addition may change. -/
def SF (n0 dd : Nat) (H : AHeap) : Nat → Prop := fun id => Bk (n0 ≤ ·) t_Sint64 H id ∨ Bk (n0 ≤ ·) t_int H id ∨ Bk (Eq0 n0 dd) t_int64 H id
theorem cell_i64 {n : Int} : (i64 n).isCell = true := rfl
theorem c_searchAdd {d : Int} (hp : Hp H) (hn0 : n0 ≤ H.next) (h : SSA n0 dd H v L D w kk) (hx : Ints .ro (Ne0 n0 dd) H u s) (hk : s.length = kk) (hns : s ∉ L) (hL : L.length ≤ 1000000)
    (k : ∀ r H' dd', Fr (SF n0 dd H) H H' → H.next ≤ dd' → dd' < H'.next → SSA n0 dd' H' r (L ++ [s]) (D ++ [d]) w kk → Q r H') : W (s_sp_searchAdd v u (i64 d)) H Q := by
  obtain ⟨lv, dv, sv, S, rfl, hl, hd, hs, hok, hDL⟩ := h
  have hSL := hok.len
  unfold s_sp_searchAdd
  refine W.box hp (by decide) rfl (cells_f hl.isCell hd.isCell hs.isCell) fun x1 H1 l1 b1 => ?_
  have b1 := b1.mono (P' := fun id => H.next ≤ id ∧ id < H1.next) fun id hid h => ⟨h, hid⟩
  refine W.alloc l1.wf fun x2 H2 l2 b2 => ?_
  have b1 := b1.le l2
  simp only [↓wr_ld4 b1]
  have l12 := l1.tr l2
  refine W.bnd (c_searchSlot l2.wf hd.isCell (hl.leL l12) (hs.leI l12) hok (hx.leI l12) hk fun H3 a l3 ha hsl => ?_)
  have l := l12.tr l3
  have b1 := b1.le l3
  have b2 := b2.le l3
  have hl := hl.leL l
  have hd := hd.leI l
  have hs := hs.leI l
  have hx := hx.leI l
  have g3 : Fr (SF n0 dd H) H H3 := l.mono fun _ _ h => h.elim
  simp only [↓XE b1, ↓wr_f2 b1]
  -- sorted grows
  refine W.app1n (a := 0) l3.wf hs stb_RI rfl (by decide) (by omega) rfl fun y9 H4 d4 hd4 hd4' f4 hs => ?_
  have b1 := b1.bk f4 (by decide)
  have b2 := b2.bk f4 (by decide)
  have hl := hl.bkL f4 (by decide) (by decide)
  have hd := hd.bkI f4 (by decide)
  have hx := hx.bkI f4 (by decide)
  have g4 : Fr (SF n0 dd H) H H4 := g3.ext f4 fun id hid he hb => .inr (.inl (hb.eq he))
  simp only [↓XE b1]
  refine W.fst f4.wf b1 (by simp) hs.isCell fun H5 f5 b1 => ?_
  simp only [List.set_cons_succ, List.set_cons_zero] at b1
  have b2 := b2.fr f5 fun id c fz hid hP hg hb => absurd hb.1.2 (by have : H1.next ≤ id := hP; omega)
  have hl := hl.bkL f5 (by decide) (by decide)
  have hd := hd.bkI f5 (by decide)
  have hx := hx.bkI f5 (by decide)
  have hs := hs.bkI f5 (by decide)
  have g5 : Fr (SF n0 dd H) H H5 := g4.ext f5 fun id hid he hb => absurd hb.1.1 (by omega)
  -- the later ones move up
  have ha1 : a + 1 ≤ (S ++ [0]).length := by simp; omega
  have ha0 : a ≤ (S ++ [0]).length := by simp; omega
  simp only [↓XE b1, ↓wr_f2 b1]
  rw [wr_inc (by omega)]
  simp only [↓wr_slP hs ha1, ↓wr_slP hs ha0, ↓XE b1, ↓wr_f2 b1]
  refine W.shift f5.wf hs (by simp) (by simp; omega) stb_RI fun _ H6 f6 hs => ?_
  have b1 := b1.bk f6 (by decide)
  have b2 := b2.bk f6 (by decide)
  have hl := hl.bkL f6 (by decide) (by decide)
  have hd := hd.bkI f6 (by decide)
  have hx := hx.bkI f6 (by decide)
  have g6 : Fr (SF n0 dd H) H H6 := g5.ext f6 fun id hid he hb => absurd hb.1 (by have := l.nx; omega)
  have hlen6 : ((S ++ [0]).take (a + 1) ++ ((S ++ [0]).drop a).take ((S ++ [0]).length - a - 1)).length = S.length + 1 := by simp; omega
  have ha6 : a < ((S ++ [0]).take (a + 1) ++ ((S ++ [0]).drop a).take ((S ++ [0]).length - a - 1)).length := by omega
  simp only [↓XE b1, ↓wr_f2 b1, ↓wr_f0 b1, ↓XG hl, ↓wr_ix hs ha6]
  refine W.st (a := (L.length : Int)) f6.wf hs (by simp) ha6 rfl (fun _ _ _ _ h => h) rfl fun H7 f7 hs => ?_
  rw [shift_set ha] at hs
  have b1 := b1.bk f7 (by decide)
  have b2 := b2.bk f7 (by decide)
  have hl := hl.bkL f7 (by decide) (by decide)
  have hd := hd.bkI f7 (by decide)
  have hx := hx.bkI f7 (by decide)
  have g7 : Fr (SF n0 dd H) H H7 := g6.ext f7 fun id hid he hb => absurd hb.1 (by have := l.nx; omega)
  -- lists grow
  simp only [↓XE b1, ↓wr_f0 b1]
  refine W.app1n f7.wf hl (stb_RL (by decide)) hx.isCell (by decide) (by omega) (show RL (Ne0 n0 dd) H7 u s from hx) fun y29 H8 d8 hd8 hd8' f8 hl => ?_
  have b1 := b1.bk f8 (by decide)
  have b2 := b2.bk f8 (by decide)
  have hd := hd.bkI f8 (by decide)
  have hs := hs.bkI f8 (by decide)
  have g8 : Fr (SF n0 dd H) H H8 := g7.ext f8 fun id hid he hb => .inl (hb.eq he)
  simp only [↓XE b1]
  refine W.fst f8.wf b1 (by simp) hl.isCell fun H9 f9 b1 => ?_
  simp only [List.set_cons_succ, List.set_cons_zero] at b1
  have b2 := b2.fr f9 fun id c fz hid hP hg hb => absurd hb.1.2 (by have : H1.next ≤ id := hP; omega)
  have hl := hl.bkL f9 (by decide) (by decide)
  have hd := hd.bkI f9 (by decide)
  have hs := hs.bkI f9 (by decide)
  have g9 : Fr (SF n0 dd H) H H9 := g8.ext f9 fun id hid he hb => absurd hb.1.1 (by omega)
  -- the elements stand ahead of H9
  have hl := hl.monoR (P2' := fun id => Ne0 n0 dd id ∧ id < H9.next) fun id hid h => ⟨h, hid⟩
  -- depths grow
  simp only [↓XE b1, ↓wr_f1 b1]
  refine W.app1n f9.wf hd stb_RI rfl (by decide) (by omega) rfl fun y35 H10 d10 hd10 hd10' f10 hd => ?_
  have b1 := b1.bk f10 (by decide)
  have b2 := b2.bk f10 (by decide)
  have hs := hs.bkI f10 (by decide)
  have hl : Lists .own (· = d8) (fun id => Ne0 n0 dd id ∧ id < H9.next) H10 y29 (L ++ [s]) := hl.fr f10 (fun id c fz _ _ hg => Bk.ne (by decide) hg) fun v x hv => Seq.frI hv f10 fun id c fz hid hP hg hb => hP.1.2 hb.1.2
  have g10 : Fr (SF n0 dd H) H H10 := g9.ext f10 fun id hid he hb => .inr (.inr (hb.eq he))
  simp only [↓XE b1]
  refine W.fst f10.wf b1 (by simp) hd.isCell fun H11 f11 b1 => ?_
  simp only [List.set_cons_succ, List.set_cons_zero] at b1
  have b2 := b2.fr f11 fun id c fz hid hP hg hb => absurd hb.1.2 (by have : H1.next ≤ id := hP; omega)
  have hl := hl.bkL f11 (by decide) (by decide)
  have hd := hd.bkI f11 (by decide)
  have hs := hs.bkI f11 (by decide)
  have g11 : Fr (SF n0 dd H) H H11 := g10.ext f11 fun id hid he hb => absurd hb.1.1 (by omega)
  simp only [↓wr_ld4 b1]
  refine W.fsw f11.wf b2 rfl rfl (cells_f hl.isCell hd.isCell hs.isCell) fun H12 f12 b2 => ?_
  have hl := hl.bkL f12 (by decide) (by decide)
  have hd := hd.bkI f12 (by decide)
  have hs := hs.bkI f12 (by decide)
  have g12 : Fr (SF n0 dd H) H H12 := g11.ext f12 fun id hid he hb => absurd hb.1 (by have := l1.nx; show ¬H1.next ≤ id; omega)
  simp only [↓wr_ld4 b2]
  have n9 : H.next ≤ H9.next := g9.nx
  have n3 : H.next ≤ H3.next := l.nx
  refine W.ret (k _ H12 d10 g12 (by omega) (by have := f11.nx; have := f12.nx; omega) ⟨y29, y35, y9, _, rfl, ?_, hd.mono fun id _ h => ⟨by have : id = d10 := h; omega, h⟩, hs.mono fun id _ h => by have : id = d4 := h; omega, hok.add hk hns ha hsl, by simp [hDL]⟩)
  exact (hl.mono (P' := (n0 ≤ ·)) fun id _ h => by have : id = d8 := h; have := g7.nx; omega).monoR fun id _ h => ⟨h.1.1, by have := h.2; omega⟩
end
end Go.Am

end

section
set_option linter.unusedSimpArgs false
set_option linter.unusedVariables false
/- Contracts: the breadth-first search. -/
namespace Go.Am
section
variable {p : Puz} {r : List Int} {L : List (List Int)} {D : List Int} {kk : Nat}
/-- What has been found: the root first, each further one from an earlier one by a letter. -/
structure BFS (p : Puz) (r : List Int) (L : List (List Int)) (D : List Int) : Prop where
  len : D.length = L.length
  root : L[0]? = some r
  root0 : D[0]? = some 0
  rng : ∀ a ∈ L, ∀ x ∈ a, 0 ≤ x ∧ x ≤ p.points - 1
  par : ∀ j, 0 < j → j < L.length → ∃ i l, i < j ∧ l ∈ lets p.moves.length ∧ L[j]? = (L[i]?).map (act p l) ∧ D.getD j 0 = D.getD i 0 + 1
  mono : ∀ i j, i ≤ j → j < L.length → D.getD i 0 ≤ D.getD j 0
  small : ∀ j, D.getD j 0 ≤ j
/-- The letter l leads from member j to a member that is not much deeper. -/
def Cl (p : Puz) (L : List (List Int)) (D : List Int) (j : Nat) (l : Int) : Prop := ∃ m, L[m]? = (L[j]?).map (act p l) ∧ m < L.length ∧ D.getD m 0 ≤ D.getD j 0 + 1
theorem Cl.add {j : Nat} {l : Int} {a : List Int} {d : Int} (h : Cl p L D j l) (hj : j < L.length) (hD : D.length = L.length) : Cl p (L ++ [a]) (D ++ [d]) j l := by
  obtain ⟨m, h1, h2, h3⟩ := h
  refine ⟨m, ?_, by simp; omega, ?_⟩
  · rw [List.getElem?_append_left h2, List.getElem?_append_left hj, h1]
  · rw [List.getD_eq_getElem?_getD, List.getD_eq_getElem?_getD, List.getElem?_append_left (by omega), List.getElem?_append_left (by omega), ← List.getD_eq_getElem?_getD, ← List.getD_eq_getElem?_getD]
    exact h3
theorem BFS.nonneg (h : BFS p r L D) {j : Nat} (hj : j < L.length) : 0 ≤ D.getD j 0 := by
  have := h.mono 0 j (Nat.zero_le _) hj
  rw [List.getD_eq_getElem?_getD, h.root0] at this
  exact this
theorem getD_app {D : List Int} {d : Int} {j : Nat} (hj : j < D.length) : (D ++ [d]).getD j 0 = D.getD j 0 := by
  rw [List.getD_eq_getElem?_getD, List.getD_eq_getElem?_getD, List.getElem?_append_left hj]
theorem getD_last {D : List Int} {d : Int} : (D ++ [d]).getD D.length 0 = d := by simp
theorem BFS.add (h : BFS p r L D) (hv : Valid p) {k : Nat} (hk : k < L.length) {l : Int} (hl : l ∈ lets p.moves.length) (hq : ∀ m, m < L.length → D.getD m 0 ≤ D.getD k 0 + 1) : BFS p r (L ++ [act p l L[k]]) (D ++ [D.getD k 0 + 1]) := by
  have hlen := h.len
  have hL0 : 0 < L.length := by omega
  refine ⟨by simp [h.len], by rw [List.getElem?_append_left hL0]; exact h.root, by rw [List.getElem?_append_left (by omega)]; exact h.root0, fun a ha => ?_, fun j hj0 hj => ?_, fun i j hij hj => ?_, fun j => ?_⟩
  · rcases List.mem_append.1 ha with ha | ha
    · exact h.rng a ha
    · rw [List.mem_singleton.1 ha]
      exact fun x hx => act_range hv hl (h.rng _ (List.getElem_mem hk)) hx
  · simp only [List.length_append, List.length_singleton] at hj
    by_cases hjl : j < L.length
    · obtain ⟨i, l', h1, h2, h3, h4⟩ := h.par j hj0 hjl
      refine ⟨i, l', h1, h2, ?_, ?_⟩
      · rw [List.getElem?_append_left hjl, List.getElem?_append_left (by omega), h3]
      · rw [getD_app (by omega), getD_app (by omega)]; exact h4
    · have : j = L.length := by omega
      subst this
      refine ⟨k, l, hk, hl, ?_, ?_⟩
      · rw [List.getElem?_append_left hk, List.getElem?_eq_getElem hk]; simp
      · have e := getD_last (D := D) (d := D.getD k 0 + 1)
        rw [hlen] at e
        rw [e, getD_app (by omega)]
  · simp only [List.length_append, List.length_singleton] at hj
    by_cases hjl : j < L.length
    · rw [getD_app (by omega), getD_app (by omega)]; exact h.mono i j hij hjl
    · have : j = D.length := by omega
      subst this
      rw [getD_last]
      by_cases hil : i < D.length
      · rw [getD_app hil]; exact hq i (by omega)
      · have : i = D.length := by omega
        subst this
        rw [getD_last]; exact Int.le_refl _
  · by_cases hjl : j < D.length
    · rw [getD_app hjl]; exact h.small j
    · by_cases hje : j = D.length
      · subst hje
        rw [getD_last]
        have := h.small k
        omega
      · rw [List.getD_eq_getElem?_getD, List.getElem?_eq_none (by simp; omega)]
        simp
theorem act_length {l : Int} {a : List Int} : (act p l a).length = a.length := by simp [act]
end
section
variable {β X : Type} {f : AVal → AM β} {Q : AVal → AHeap → Prop} {m m2 : Md} {P P1 Pb2 Pb6 P2 P3 P4 P5 P' S T : Nat → Prop} {e e2 : TypeId} {H Hk H1 H2 H' : AHeap} {v u x y lv dv sv x1 x2 x6 x8 mv : AVal} {A B C s D r : List Int} {L : List (List Int)} {w : Bool} {n0 dd kk : Nat} {p : Puz} {cs : List AVal}
theorem SF.ne {id : Nat} {c : List AVal} {fz : Nat} (hg : H.get id = some (.cells c e fz)) (h1 : t_Sint64 ≠ e) (h2 : t_int ≠ e) (h3 : t_int64 ≠ e) : ¬SF n0 dd H id := by
  rintro (h | h | h)
  · exact Bk.ne h1 hg h
  · exact Bk.ne h2 hg h
  · exact Bk.ne h3 hg h
theorem Bx.sf (h : Bx P e H x cs) (hf : Fr (SF n0 dd H) H H') (h1 : t_Sint64 ≠ e) (h2 : t_int ≠ e) (h3 : t_int64 ≠ e) : Bx P e H' x cs := h.fr hf fun id c fz _ _ hg => SF.ne hg h1 h2 h3
theorem SSA.le (h : SSA n0 dd H v L D w kk) (hl : Le H H') : SSA n0 dd H' v L D w kk := by
  obtain ⟨lv, dv, sv, S, rfl, h1, h2, h3, h4, h5⟩ := h
  exact ⟨lv, dv, sv, S, rfl, h1.leL hl, h2.leI hl, h3.leI hl, h4, h5⟩
theorem SSA.bk (h : SSA n0 dd H v L D w kk) (hf : Fr (Bk P e H) H H') (e1 : e ≠ t_Sint64) (e2 : e ≠ t_int) (e3 : e ≠ t_int64) : SSA n0 dd H' v L D w kk := by
  obtain ⟨lv, dv, sv, S, rfl, h1, h2, h3, h4, h5⟩ := h
  exact ⟨lv, dv, sv, S, rfl, h1.bkL hf e1 e3, h2.bkI hf e3, h3.bkI hf e2, h4, h5⟩
theorem SSA.agg (h : SSA n0 dd H v L D w kk) : ∃ lv dv sv, v = .agg [lv, dv, sv, .bool w] ∧ ([lv, dv, sv, .bool w] : List AVal).all AVal.isCell = true := by
  obtain ⟨lv, dv, sv, S, rfl, h1, h2, h3, h4, h5⟩ := h
  exact ⟨lv, dv, sv, rfl, cells_f h1.isCell h2.isCell h3.isCell⟩
theorem SSA.parts (h : SSA n0 dd H (.agg [lv, dv, sv, .bool w]) L D w kk) : Lists .own (n0 ≤ ·) (Ne0 n0 dd) H lv L ∧ Seq RI .own (Eq0 n0 dd) t_int64 H dv D ∧ ∃ S, IntsI .own (n0 ≤ ·) H sv S ∧ SOK L S kk ∧ D.length = L.length := by
  obtain ⟨lv', dv', sv', S, he, h1, h2, h3, h4, h5⟩ := h
  simp only [AVal.agg.injEq, List.cons.injEq, and_true] at he
  obtain ⟨rfl, rfl, rfl⟩ := he
  exact ⟨h1, h2, S, h3, h4, h5⟩
/-- The state of the search. -/
structure SJ (H Hk : AHeap) (x1 x2 x6 x8 mv : AVal) (p : Puz) (r : List Int) (P1 Pb2 Pb6 : Nat → Prop) (L : List (List Int)) (D : List Int) (dd : Nat) (lv dv sv : AVal) : Prop where
  le : Le H Hk
  b1 : Bx P1 t_impl_Puzzle Hk x1 [i64 p.points, .str p.names, mv]
  b2 : ∃ c2, c2.length = 4 ∧ Bx Pb2 t_spec_stateSearch Hk x2 c2
  b6 : Bx Pb6 t_spec_stateSearch Hk x6 [lv, dv, sv, .bool false]
  ss : SSA H.next dd Hk (.agg [lv, dv, sv, .bool false]) L D false r.length
  x8 : Ints .ro (Ne0 H.next dd) Hk x8 (lets p.moves.length)
  bf : BFS p r L D
  hd : dd < Hk.next
theorem SJ.to (h : SJ H Hk x1 x2 x6 x8 mv p r P1 Pb2 Pb6 L D dd lv dv sv) (hl : Le Hk H') : SJ H H' x1 x2 x6 x8 mv p r P1 Pb2 Pb6 L D dd lv dv sv :=
  ⟨h.le.tr hl, h.b1.le hl, by obtain ⟨c2, h1, h2⟩ := h.b2; exact ⟨c2, h1, h2.le hl⟩, h.b6.le hl, h.ss.le hl, h.x8.leI hl, h.bf, Nat.lt_of_lt_of_le h.hd hl.nx⟩
end
end Go.Am

end

section
set_option linter.unusedSimpArgs false
set_option linter.unusedVariables false
/- Contracts: searchFrom. -/
namespace Go.Am
section
variable {β X : Type} {f : AVal → AM β} {Q : AVal → AHeap → Prop} {m m2 : Md} {P P1 Pb2 Pb6 P2 P3 P4 P5 P' S T : Nat → Prop} {e e2 : TypeId} {H Hk H1 H2 H' : AHeap} {v u x y lv dv sv x1 x2 x6 x8 mv : AVal} {A B C s D r : List Int} {L : List (List Int)} {w : Bool} {n0 dd kk : Nat} {p : Puz} {cs : List AVal}
/-- What a search has found when it ends. -/
structure Found (p : Puz) (r : List Int) (L : List (List Int)) (D : List Int) (w : Bool) : Prop where
  bf : BFS p r L D
  nd : L.Nodup
  wid : ∀ a ∈ L, a.length = r.length
  all : w = true → L.length ≤ 3000 ∧ ∀ j, j < L.length → ∀ l ∈ lets p.moves.length, Cl p L D j l
  many : w = false → L.length = 3000 ∧ ∃ j l, ∃ h : j < L.length, l ∈ lets p.moves.length ∧ act p l L[j] ∉ L
theorem SSA.sok (h : SSA n0 dd H v L D w kk) : ∃ S, SOK L S kk := by
  obtain ⟨lv, dv, sv, S, rfl, h1, h2, h3, h4, h5⟩ := h
  exact ⟨S, h4⟩
theorem c_searchFrom (hp : Hp H) (h : PuzA P P2 H v p) (hv : Valid p) (ha : Ints .ro P3 H u r) (hr : ∀ x ∈ r, 0 ≤ x ∧ x ≤ p.points - 1)
    (k : ∀ v' H' L D w dd, Le H H' → SSA H.next dd H' v' L D w r.length → Found p r L D w → Q v' H') : W (s_sp_searchFrom v u) H Q := by
  have hpz := h
  obtain ⟨mv, rfl, hm, h64, hnl⟩ := h
  have h8 := hv.h8
  unfold s_sp_searchFrom
  refine W.box hp (by decide) rfl (cells_p hm.isCell) fun x1 H1 l1 b1 => ?_
  have b1 := b1.mono (P' := fun id => H.next ≤ id ∧ id < H1.next) fun id hid h => ⟨h, hid⟩
  refine W.alloc l1.wf fun x2 H2 l2 b2 => ?_
  have b1 := b1.le l2
  have b2 := b2.mono (P' := fun id => H1.next ≤ id ∧ id < H2.next) fun id hid h => ⟨h, hid⟩
  have l12 := l1.tr l2
  simp only [↓XH, ↓Xa]
  refine W.bnd (c_copyInts l2.wf (ha.leI l12) fun x4 H3 l3 hx4 => ?_)
  have b1 := b1.le l3
  have b2 := b2.le l3
  have l13 := l12.tr l3
  have hs0 : SSA H.next H3.next H3 (.agg [.nilS, .nilS, .nilS, .bool false]) [] [] false r.length := ⟨.nilS, .nilS, .nilS, [], rfl, .nil, .nil, .nil, ⟨rfl, by simp, by simp, by simp [keys]⟩, rfl⟩
  refine W.bnd (c_searchAdd (d := 0) l13.wf l13.nx hs0 ((hx4.ro.mono fun id hid h => ⟨Nat.le_trans l12.nx h, by omega⟩)) rfl (by simp) (by simp) fun x5 H4 dd f4 hd4 hd4' ss => ?_)
  have b1 := b1.sf f4 (by decide) (by decide) (by decide)
  have b2 := b2.sf f4 (by decide) (by decide) (by decide)
  have l4 : Le H H4 := l13.nw f4 fun id hid h => by
    rcases h with h | h | h
    · exact absurd h.1 (by omega)
    · exact absurd h.1 (by omega)
    · exact absurd h.1.1 (by omega)
  refine W.alloc l4.wf fun x6 H5 l5 b6 => ?_
  have b6 := b6.mono (P' := fun id => H4.next ≤ id ∧ id < H5.next) fun id hid h => ⟨h, hid⟩
  have b1 := b1.le l5
  have b2 := b2.le l5
  have ss := ss.le l5
  obtain ⟨lv, dv, sv, rfl, hcell⟩ := ss.agg
  refine W.fsw l5.wf b6 rfl rfl hcell fun H6 f6 b6 => ?_
  have b1 := b1.bk f6 (by decide)
  have n2 : H2.next ≤ H4.next := Nat.le_trans l3.nx f4.nx
  have b2 := b2.fr f6 fun id c fz hid hP hg hb => absurd hb.1.1 (by have := hP.2; omega)
  have ss := ss.bk f6 (by decide) (by decide) (by decide)
  have l6 : Le H H6 := (l4.tr l5).nw f6 fun id hid h => absurd h.1.1 (by have := l4.nx; omega)
  simp only [↓wr_ld3 b1]
  refine W.bnd (c_lettersOf (p := p) l6.wf (hpz.le l6) (by omega) fun x8 H7 l7 hx8 => ?_)
  have n6 : H4.next ≤ H6.next := Nat.le_trans l5.nx f6.nx
  have sj : SJ H H7 x1 x2 x6 x8 mv p r (fun id => H.next ≤ id ∧ id < H1.next) (fun id => H1.next ≤ id ∧ id < H2.next) (fun id => H4.next ≤ id ∧ id < H5.next) ([] ++ [r]) ([] ++ [0]) dd lv dv sv :=
    ⟨l6.tr l7, b1.le l7, ⟨_, rfl, b2.le l7⟩, b6.le l7, ss.le l7, hx8.ro.mono fun id _ h => ⟨Nat.le_trans l6.nx h, by have : H6.next ≤ id := h; omega⟩,
      ⟨rfl, rfl, rfl, by simpa using hr, fun j h1 h2 => by simp at h2; omega, fun i j h1 h2 => by
        have : j = 0 := by simpa using h2
        subst this
        have : i = 0 := by omega
        subst this; exact Int.le_refl _, fun j => by
        cases j with
        | zero => simp
        | succ n => simp; omega⟩, by have := l7.nx; omega⟩
  clear b1 b2 b6 ss hx8 hs0
  have hml : (lets p.moves.length).length ≤ 16 := by rw [lets_length]; omega
  refine W.lq (fun q st Hk => ∃ (k : Nat) (L : List (List Int)) (D : List Int) (dd : Nat) (lv dv sv : AVal), q = 3000 - k ∧ st = [i64 (k : Int)] ∧ k ≤ L.length ∧ L.length ≤ 3000 ∧
      SJ H Hk x1 x2 x6 x8 mv p r (fun id => H.next ≤ id ∧ id < H1.next) (fun id => H1.next ≤ id ∧ id < H2.next) (fun id => H4.next ≤ id ∧ id < H5.next) L D dd lv dv sv ∧
      (∀ j, j < k → ∀ l ∈ lets p.moves.length, Cl p L D j l) ∧ (k < L.length → ∀ m, m < L.length → D.getD m 0 ≤ D.getD k 0 + 1))
    (fun rr Hk => ∃ (L : List (List Int)) (D : List Int) (dd : Nat) (lv dv sv : AVal), SJ H Hk x1 x2 x6 x8 mv p r (fun id => H.next ≤ id ∧ id < H1.next) (fun id => H1.next ≤ id ∧ id < H2.next) (fun id => H4.next ≤ id ∧ id < H5.next) L D dd lv dv sv ∧
      ((rr = (.exit 0, []) ∧ L.length ≤ 3000 ∧ ∀ j, j < L.length → ∀ l ∈ lets p.moves.length, Cl p L D j l) ∨
       (rr = (.ret, []) ∧ Bx (fun id => H1.next ≤ id ∧ id < H2.next) t_spec_stateSearch Hk x2 [lv, dv, sv, .bool false] ∧ L.length = 3000 ∧ ∃ j l, ∃ h : j < L.length, l ∈ lets p.moves.length ∧ act p l L[j] ∉ L))) 3000
    ⟨0, _, _, dd, lv, dv, sv, rfl, rfl, Nat.zero_le _, by simp, sj, fun _ h => absurd h (Nat.not_lt_zero _), fun _ m hm => by
      have : m = 0 := by simpa using hm
      subst this; omega⟩ ?_ ?_
  · rintro q st Hk ⟨k, L, D, dd, lv, dv, sv, rfl, rfl, hkL, hL3, sj, hcl, hq⟩ Q' kn kx
    obtain ⟨pl, pd, S, ps, sok, hDL⟩ := sj.ss.parts
    simp only [↓XE sj.b6, ↓wr_f0 sj.b6, ↓XG pl, ↓Xa, ↓Xb, ↓Xc, ↓Xd, ↓Xe, ↓Xf, ↓Xg, ↓Xh, ↓Xi, ↓Xj, ↓Xk, ↓Xl, ↓Xm, ↓Xn, ↓Xo, ↓Xp, ↓Xq, ↓Xr, ↓Xs, ↓Xt, ↓Xu, ↓Xv, ↓Xw, ↓Xx, ↓Xy, gx0, gx1, gx2, gx3, ife_e, ife_n, ife_r, Xz, ife_ne', XA, XB, XC, XD, decide_true, decide_false, Bool.not_true, Bool.not_false]
    by_cases hk : k < L.length
    · have hk' : (k : Int) < L.length := by omega
      simp only [hk', ↓Xa, ↓Xb, ↓Xc, ↓Xd, ↓Xe, ↓Xf, ↓Xg, ↓Xh, ↓Xi, ↓Xj, ↓Xk, ↓Xl, ↓Xm, ↓Xn, ↓Xo, ↓Xp, ↓Xq, ↓Xr, ↓Xs, ↓Xt, ↓Xu, ↓Xv, ↓Xw, ↓Xx, ↓Xy, gx0, gx1, gx2, gx3, ife_e, ife_n, ife_r, Xz, ife_ne', XA, XB, XC, XD, decide_true, decide_false, Bool.not_true, Bool.not_false]
      have hqk := hq hk
      refine W.lq (fun q st Ha => ∃ (i : Nat) (L : List (List Int)) (D : List Int) (dd : Nat) (lv dv sv : AVal), q = 16 - i ∧ st = [i64 (i : Int)] ∧ i ≤ (lets p.moves.length).length ∧ k < L.length ∧ L.length ≤ 3000 ∧
          SJ H Ha x1 x2 x6 x8 mv p r (fun id => H.next ≤ id ∧ id < H1.next) (fun id => H1.next ≤ id ∧ id < H2.next) (fun id => H4.next ≤ id ∧ id < H5.next) L D dd lv dv sv ∧
          (∀ j, j < k → ∀ l ∈ lets p.moves.length, Cl p L D j l) ∧ (∀ l ∈ (lets p.moves.length).take i, Cl p L D k l) ∧ (∀ m, m < L.length → D.getD m 0 ≤ D.getD k 0 + 1))
        (fun rr Ha => ∃ (L : List (List Int)) (D : List Int) (dd : Nat) (lv dv sv : AVal), k < L.length ∧ L.length ≤ 3000 ∧
          SJ H Ha x1 x2 x6 x8 mv p r (fun id => H.next ≤ id ∧ id < H1.next) (fun id => H1.next ≤ id ∧ id < H2.next) (fun id => H4.next ≤ id ∧ id < H5.next) L D dd lv dv sv ∧
          ((rr = (.exit 2, []) ∧ (∀ j, j < k → ∀ l ∈ lets p.moves.length, Cl p L D j l) ∧ (∀ l ∈ lets p.moves.length, Cl p L D k l) ∧ (∀ m, m < L.length → D.getD m 0 ≤ D.getD k 0 + 1)) ∨
           (rr = (.ret, []) ∧ Bx (fun id => H1.next ≤ id ∧ id < H2.next) t_spec_stateSearch Ha x2 [lv, dv, sv, .bool false] ∧ L.length = 3000 ∧ ∃ j l, ∃ h : j < L.length, l ∈ lets p.moves.length ∧ act p l L[j] ∉ L))) 16
        ⟨0, L, D, dd, lv, dv, sv, rfl, rfl, Nat.zero_le _, hk, hL3, sj, hcl, by simp, hqk⟩ ?_ ?_
      · rintro q st Ha ⟨i, L, D, dd, lv, dv, sv, rfl, rfl, hi0, hk, hL3, sj, hcl, hck, hqk⟩ Q' kn kx
        obtain ⟨pl, pd, S, ps, sok, hDL⟩ := sj.ss.parts
        by_cases hi : i < (lets p.moves.length).length
        · have hi' : (i : Int) < (lets p.moves.length).length := by omega
          obtain ⟨z, hz, hL, _⟩ := pl.ld1 hk
          have hlm : (lets p.moves.length)[i] ∈ lets p.moves.length := List.getElem_mem hi
          simp only [↓XG sj.x8, hi', ↓Xa, ↓Xb, ↓Xc, ↓Xd, ↓Xe, ↓Xf, ↓Xg, ↓Xh, ↓Xi, ↓Xj, ↓Xk, ↓Xl, ↓Xm, ↓Xn, ↓Xo, ↓Xp, ↓Xq, ↓Xr, ↓Xs, ↓Xt, ↓Xu, ↓Xv, ↓Xw, ↓Xx, ↓Xy, gx0, gx1, gx2, gx3, ife_e, ife_n, ife_r, Xz, ife_ne', XA, XB, XC, XD, decide_true, decide_false, Bool.not_true, Bool.not_false, ↓wr_ld3 sj.b1, ↓XE sj.b6, ↓wr_f0 sj.b6, ↓wr_ix pl hk, ↓wr_e hz, ↓wr_ix sj.x8 hi, ↓wr_ldI sj.x8 hi]
          refine W.bnd (c_applyLetter (p := p) sj.le.wf (hpz.le sj.le) hv hL hlm (sj.bf.rng _ (List.getElem_mem hk)) fun x24 Hb lb hx24 => ?_)
          have hx24 : Ints .ro (Ne0 H.next dd) Hb x24 (act p (lets p.moves.length)[i] L[k]) := hx24.ro.mono fun id _ h => ⟨Nat.le_trans sj.le.nx h, by have := sj.hd; have : Ha.next ≤ id := h; omega⟩
          have sj := sj.to lb
          have hlen : (act p (lets p.moves.length)[i] L[k]).length = r.length := by rw [act_length]; exact sok.wid _ (List.getElem_mem hk)
          simp only [↓wr_ld4 sj.b6]
          refine W.bnd (c_searchIndex lb.wf pd.isCell (pl.leL lb) (ps.leI lb) sok hx24 hlen fun Hc lc => ?_)
          have sj := sj.to lc
          have hx24 := hx24.leI lc
          have lbc := lb.tr lc
          have take1 : (lets p.moves.length).take (i + 1) = (lets p.moves.length).take i ++ [(lets p.moves.length)[i]] := List.take_succ_eq_append_getElem hi
          by_cases hin : act p (lets p.moves.length)[i] L[k] ∈ L
          · have hge : 0 ≤ idxL L (act p (lets p.moves.length)[i] L[k]) := by rw [idxL, if_pos hin]; omega
            simp only [↓Xa, ↓Xb, ↓Xc, ↓Xd, ↓Xe, ↓Xf, ↓Xg, ↓Xh, ↓Xi, ↓Xj, ↓Xk, ↓Xl, ↓Xm, ↓Xn, ↓Xo, ↓Xp, ↓Xq, ↓Xr, ↓Xs, ↓Xt, ↓Xu, ↓Xv, ↓Xw, ↓Xx, ↓Xy, gx0, gx1, gx2, gx3, ife_e, ife_n, ife_r, Xz, ife_ne', XA, XB, XC, XD, decide_true, decide_false, Bool.not_true, Bool.not_false, hge]
            rw [wr_inc (by omega)]
            refine W.ret (kn (16 - (i + 1)) _ _ (by omega) ⟨i + 1, L, D, dd, lv, dv, sv, rfl, rfl, hi, hk, hL3, sj, hcl, fun l hl => ?_, hqk⟩)
            rw [take1] at hl
            rcases List.mem_append.1 hl with hl | hl
            · exact hck l hl
            · rw [List.mem_singleton.1 hl]
              obtain ⟨m, hm1, hm2⟩ := List.mem_iff_getElem.1 hin
              exact ⟨m, by rw [List.getElem?_eq_getElem hm1, List.getElem?_eq_getElem hk, hm2]; rfl, hm1, hqk m hm1⟩
          · have hge : ¬0 ≤ idxL L (act p (lets p.moves.length)[i] L[k]) := by rw [idxL, if_neg hin]; omega
            simp only [↓Xa, ↓Xb, ↓Xc, ↓Xd, ↓Xe, ↓Xf, ↓Xg, ↓Xh, ↓Xi, ↓Xj, ↓Xk, ↓Xl, ↓Xm, ↓Xn, ↓Xo, ↓Xp, ↓Xq, ↓Xr, ↓Xs, ↓Xt, ↓Xu, ↓Xv, ↓Xw, ↓Xx, ↓Xy, gx0, gx1, gx2, gx3, ife_e, ife_n, ife_r, Xz, ife_ne', XA, XB, XC, XD, decide_true, decide_false, Bool.not_true, Bool.not_false, hge, ↓XE sj.b6, ↓wr_f0 sj.b6, ↓XG pl]
            by_cases h3 : (L.length : Int) = 3000
            · simp only [h3, ↓Xa, ↓Xb, ↓Xc, ↓Xd, ↓Xe, ↓Xf, ↓Xg, ↓Xh, ↓Xi, ↓Xj, ↓Xk, ↓Xl, ↓Xm, ↓Xn, ↓Xo, ↓Xp, ↓Xq, ↓Xr, ↓Xs, ↓Xt, ↓Xu, ↓Xv, ↓Xw, ↓Xx, ↓Xy, gx0, gx1, gx2, gx3, ife_e, ife_n, ife_r, Xz, ife_ne', XA, XB, XC, XD, decide_true, decide_false, Bool.not_true, Bool.not_false, ↓wr_ld4 sj.b6]
              obtain ⟨c2, hc2, b2⟩ := sj.b2
              obtain ⟨_, _, _, heq, hcell⟩ := sj.ss.agg
              refine W.fsw sj.le.wf b2 hc2.symm rfl (cells_f pl.isCell pd.isCell ps.isCell) fun Hd fd b2 => ?_
              have b6 := sj.b6.fr fd fun id c fz hid hP hg hb => absurd hb.1.2 (by have := hP.1; have : H2.next ≤ H4.next := n2; omega)
              refine W.ret (kx _ _ _ (by simp) ⟨L, D, dd, lv, dv, sv, hk, hL3, ⟨sj.le.nw fd fun id hid h => absurd h.1.1 (by have := l1.nx; omega), sj.b1.bk fd (by decide), ⟨_, rfl, b2⟩, b6, sj.ss.bk fd (by decide) (by decide) (by decide), sj.x8.bkI fd (by decide), sj.bf, Nat.lt_of_lt_of_le sj.hd fd.nx⟩, .inr ⟨rfl, b2, by omega, k, _, hk, hlm, hin⟩⟩)
            · have hkD : k < D.length := by omega
              have hDk : D.getD k 0 = D[k] := by rw [List.getD_eq_getElem?_getD, List.getElem?_eq_getElem hkD]; rfl
              have hs1 := sj.bf.small k
              have hs2 := sj.bf.nonneg hk
              have h64 : In64 (D[k] + 1) := by unfold In64; omega
              simp only [h3, ↓Xa, ↓Xb, ↓Xc, ↓Xd, ↓Xe, ↓Xf, ↓Xg, ↓Xh, ↓Xi, ↓Xj, ↓Xk, ↓Xl, ↓Xm, ↓Xn, ↓Xo, ↓Xp, ↓Xq, ↓Xr, ↓Xs, ↓Xt, ↓Xu, ↓Xv, ↓Xw, ↓Xx, ↓Xy, gx0, gx1, gx2, gx3, ife_e, ife_n, ife_r, Xz, ife_ne', XA, XB, XC, XD, decide_true, decide_false, Bool.not_true, Bool.not_false, ↓wr_ld4 sj.b6, ↓XE sj.b6, ↓wr_f1 sj.b6, ↓wr_ix (pd.leI lbc) hkD, ↓wr_ldI (pd.leI lbc) hkD, ↓wr_add h64]
              refine W.bnd (c_searchAdd (d := D[k] + 1) sj.le.wf sj.le.nx sj.ss hx24 hlen hin (by omega) fun x40 Hd dd' fd hdd hdd' ss => ?_)
              obtain ⟨lv', dv', sv', rfl, hcell⟩ := ss.agg
              have b1 := sj.b1.sf fd (by decide) (by decide) (by decide)
              obtain ⟨c2, hc2, b2⟩ := sj.b2
              have b2 := b2.sf fd (by decide) (by decide) (by decide)
              have b6 := sj.b6.sf fd (by decide) (by decide) (by decide)
              have hx8 := sj.x8.mono (P' := fun id => Ne0 H.next dd id ∧ id ≠ dd') fun id hid h => ⟨h, by omega⟩
              have hx8 := hx8.frI fd fun id c fz hid hP hg hb => by
                rcases hb with hb | hb | hb
                · exact Bk.ne (by decide) hg hb
                · exact Bk.ne (by decide) hg hb
                · exact hP.1.2 hb.1.2
              have hx8 : Ints .ro (Ne0 H.next dd') Hd x8 (lets p.moves.length) := hx8.mono fun id _ h => ⟨h.1.1, h.2⟩
              have ld : Le H Hd := sj.le.nw fd fun id hid h => by
                rcases h with h | h | h
                · exact absurd h.1 (by omega)
                · exact absurd h.1 (by omega)
                · exact absurd h.1.1 (by omega)
              refine W.fsw ld.wf b6 rfl rfl hcell fun He fe b6 => ?_
              have b2 := b2.fr fe fun id c fz hid hP hg hb => absurd hb.1.1 (by have := hP.2; omega)
              rw [wr_inc (by omega)]
              have hbf := sj.bf.add hv hk hlm hqk
              rw [hDk] at hbf
              have hkk : (D ++ [D[k] + 1]).getD k 0 = D[k] := by rw [getD_app hkD, hDk]
              refine W.ret (kn (16 - (i + 1)) _ _ (by omega) ⟨i + 1, _, _, dd', lv', dv', sv', rfl, rfl, hi, by simp; omega, by simp; omega, ⟨ld.nw fe fun id hid h => absurd h.1.1 (by have := l4.nx; omega), b1.bk fe (by decide), ⟨c2, hc2, b2⟩, b6, ss.bk fe (by decide) (by decide) (by decide), hx8.bkI fe (by decide), hbf, Nat.lt_of_lt_of_le hdd' fe.nx⟩, fun j hj l hl => (hcl j hj l hl).add (by omega) hDL, fun l hl => ?_, fun m hm => ?_⟩)
              · rw [take1] at hl
                rcases List.mem_append.1 hl with hl | hl
                · exact (hck l hl).add hk hDL
                · rw [List.mem_singleton.1 hl]
                  refine ⟨L.length, ?_, by simp, ?_⟩
                  · rw [List.getElem?_append_left hk, List.getElem?_eq_getElem hk]; simp
                  · have e := getD_last (D := D) (d := D[k] + 1)
                    rw [hDL] at e
                    rw [e, hkk]; exact Int.le_refl _
              · simp only [List.length_append, List.length_singleton] at hm
                rw [hkk]
                by_cases hmL : m < L.length
                · rw [getD_app (by omega), ← hDk]; exact hqk m hmL
                · have : m = D.length := by omega
                  subst this
                  rw [getD_last]; exact Int.le_refl _
        · have hi' : ¬(i : Int) < (lets p.moves.length).length := by omega
          simp only [↓XG sj.x8, hi', ↓Xa, ↓Xb, ↓Xc, ↓Xd, ↓Xe, ↓Xf, ↓Xg, ↓Xh, ↓Xi, ↓Xj, ↓Xk, ↓Xl, ↓Xm, ↓Xn, ↓Xo, ↓Xp, ↓Xq, ↓Xr, ↓Xs, ↓Xt, ↓Xu, ↓Xv, ↓Xw, ↓Xx, ↓Xy, gx0, gx1, gx2, gx3, ife_e, ife_n, ife_r, Xz, ife_ne', XA, XB, XC, XD, decide_true, decide_false, Bool.not_true, Bool.not_false]
          refine W.ret (kx _ _ _ (by simp) ⟨L, D, dd, lv, dv, sv, hk, hL3, sj, .inl ⟨rfl, hcl, fun l hl => hck l ?_, hqk⟩⟩)
          rwa [List.take_of_length_le (by omega)]
      · rintro rr Ha ⟨L, D, dd, lv, dv, sv, hk, hL3, sj, ⟨rfl, hcl, hck, hqk⟩ | ⟨rfl, b2, h3, hex⟩⟩
        · simp only [↓Xa, ↓Xb, ↓Xc, ↓Xd, ↓Xe, ↓Xf, ↓Xg, ↓Xh, ↓Xi, ↓Xj, ↓Xk, ↓Xl, ↓Xm, ↓Xn, ↓Xo, ↓Xp, ↓Xq, ↓Xr, ↓Xs, ↓Xt, ↓Xu, ↓Xv, ↓Xw, ↓Xx, ↓Xy, gx0, gx1, gx2, gx3, ife_e, ife_n, ife_r, Xz, ife_ne', XA, XB, XC, XD, decide_true, decide_false, Bool.not_true, Bool.not_false]
          rw [wr_inc (by omega)]
          refine W.ret (kn (3000 - (k + 1)) _ _ (by omega) ⟨k + 1, L, D, dd, lv, dv, sv, rfl, rfl, hk, hL3, sj, fun j hj l hl => ?_, fun hk1 m hm => ?_⟩)
          · by_cases hjk : j = k
            · subst hjk; exact hck l hl
            · exact hcl j (by omega) l hl
          · have := hqk m hm
            have := sj.bf.mono k (k + 1) (by omega) hk1
            omega
        · simp only [↓Xa, ↓Xb, ↓Xc, ↓Xd, ↓Xe, ↓Xf, ↓Xg, ↓Xh, ↓Xi, ↓Xj, ↓Xk, ↓Xl, ↓Xm, ↓Xn, ↓Xo, ↓Xp, ↓Xq, ↓Xr, ↓Xs, ↓Xt, ↓Xu, ↓Xv, ↓Xw, ↓Xx, ↓Xy, gx0, gx1, gx2, gx3, ife_e, ife_n, ife_r, Xz, ife_ne', XA, XB, XC, XD, decide_true, decide_false, Bool.not_true, Bool.not_false]
          exact W.ret (kx _ _ _ (by simp) ⟨L, D, dd, lv, dv, sv, sj, .inr ⟨rfl, b2, h3, hex⟩⟩)
    · have hk' : ¬(k : Int) < L.length := by omega
      simp only [hk', ↓Xa, ↓Xb, ↓Xc, ↓Xd, ↓Xe, ↓Xf, ↓Xg, ↓Xh, ↓Xi, ↓Xj, ↓Xk, ↓Xl, ↓Xm, ↓Xn, ↓Xo, ↓Xp, ↓Xq, ↓Xr, ↓Xs, ↓Xt, ↓Xu, ↓Xv, ↓Xw, ↓Xx, ↓Xy, gx0, gx1, gx2, gx3, ife_e, ife_n, ife_r, Xz, ife_ne', XA, XB, XC, XD, decide_true, decide_false, Bool.not_true, Bool.not_false]
      have : k = L.length := by omega
      subst this
      exact W.ret (kx _ _ _ (by simp) ⟨L, D, dd, lv, dv, sv, sj, .inl ⟨rfl, hL3, hcl⟩⟩)
  · rintro rr Hk ⟨L, D, dd, lv, dv, sv, sj, ⟨rfl, hL3, hcl⟩ | ⟨rfl, b2, hL3, hex⟩⟩
    · obtain ⟨S, hok⟩ := sj.ss.sok
      obtain ⟨c2, hc2, b2⟩ := sj.b2
      simp only [↓Xa, ↓Xb, ↓Xc, ↓Xd, ↓Xe, ↓Xf, ↓Xg, ↓Xh, ↓Xi, ↓Xj, ↓Xk, ↓Xl, ↓Xm, ↓Xn, ↓Xo, ↓Xp, ↓Xq, ↓Xr, ↓Xs, ↓Xt, ↓Xu, ↓Xv, ↓Xw, ↓Xx, ↓Xy, gx0, gx1, gx2, gx3, ife_e, ife_n, ife_r, Xz, ife_ne', XA, XB, XC, XD, decide_true, decide_false, Bool.not_true, Bool.not_false, ↓XE sj.b6]
      refine W.fst sj.le.wf sj.b6 (by simp) rfl fun Ha fa b6 => ?_
      simp only [List.set_cons_succ, List.set_cons_zero] at b6
      have b2 := b2.fr fa fun id c fz hid hP hg hb => absurd hb.1.1 (by have := hP.2; omega)
      simp only [↓wr_ld4 b6]
      obtain ⟨pl, pd, S', ps, sok, hDL⟩ := sj.ss.parts
      have pl := pl.bkL fa (by decide) (by decide)
      have pd := pd.bkI fa (by decide)
      have ps := ps.bkI fa (by decide)
      refine W.fsw fa.wf b2 hc2.symm rfl (cells_f pl.isCell pd.isCell ps.isCell) fun Hb fb b2 => ?_
      have pl := pl.bkL fb (by decide) (by decide)
      have pd := pd.bkI fb (by decide)
      have ps := ps.bkI fb (by decide)
      simp only [↓wr_ld4 b2]
      refine W.ret (k _ Hb L D true dd ?_ ⟨lv, dv, sv, S', rfl, pl, pd, ps, sok, hDL⟩ ⟨sj.bf, hok.nodupL, hok.wid, fun _ => ⟨hL3, hcl⟩, fun h => by cases h⟩)
      exact (sj.le.nw fa fun id hid h => absurd h.1.1 (by have := l4.nx; omega)).nw fb fun id hid h => absurd h.1.1 (by have := l1.nx; omega)
    · obtain ⟨S, hok⟩ := sj.ss.sok
      simp only [↓Xa, ↓Xb, ↓Xc, ↓Xd, ↓Xe, ↓Xf, ↓Xg, ↓Xh, ↓Xi, ↓Xj, ↓Xk, ↓Xl, ↓Xm, ↓Xn, ↓Xo, ↓Xp, ↓Xq, ↓Xr, ↓Xs, ↓Xt, ↓Xu, ↓Xv, ↓Xw, ↓Xx, ↓Xy, gx0, gx1, gx2, gx3, ife_e, ife_n, ife_r, Xz, ife_ne', XA, XB, XC, XD, decide_true, decide_false, Bool.not_true, Bool.not_false, ↓wr_ld4 b2]
      exact W.ret (k _ Hk L D false dd sj.le sj.ss ⟨sj.bf, hok.nodupL, hok.wid, fun h => (by cases h), fun _ => ⟨hL3, hex⟩⟩)
end
end Go.Am

end
