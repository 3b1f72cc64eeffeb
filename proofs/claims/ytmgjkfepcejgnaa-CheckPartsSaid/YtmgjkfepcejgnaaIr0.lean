/-
  The bodies, compiled to the framework's language (printed by a program of this session).
-/
import Derived.Test.YtmgjkfepcejgnaaProg
import Derived.Test.YtmgjkfepcejgnaaFw
import Derived.KernelRfl
namespace Go.Proofs.Ytmgjkfepcejgnaa
set_option linter.unusedVariables false
set_option linter.unusedSimpArgs false
set_option linter.unusedSectionVars false
open Go Go.Am
abbrev s0 : Pth := .e
abbrev s1 : Pth := .l s0
abbrev s2 : Pth := .r s0
abbrev s3 : Pth := .l s1
abbrev s4 : Pth := .r s1
abbrev s5 : Pth := .l s2
abbrev s6 : Pth := .r s2
abbrev s7 : Pth := .l s3
abbrev s8 : Pth := .r s3
abbrev s9 : Pth := .l s4
abbrev s10 : Pth := .r s4
abbrev s11 : Pth := .l s5
abbrev s12 : Pth := .r s5
abbrev s13 : Pth := .l s6
abbrev s14 : Pth := .r s6
abbrev s15 : Pth := .l s7
abbrev s16 : Pth := .r s7
abbrev s17 : Pth := .l s8
abbrev s18 : Pth := .r s8
abbrev s19 : Pth := .l s9
abbrev s20 : Pth := .r s9
abbrev s21 : Pth := .l s10
abbrev s22 : Pth := .r s10
abbrev s23 : Pth := .l s11
abbrev s24 : Pth := .r s11
abbrev s25 : Pth := .l s12
abbrev s26 : Pth := .r s12
abbrev s27 : Pth := .l s13
abbrev s28 : Pth := .r s13
abbrev s29 : Pth := .l s14
abbrev s30 : Pth := .r s14
abbrev s31 : Pth := .l s15
abbrev s32 : Pth := .r s15
abbrev s33 : Pth := .l s16
abbrev s34 : Pth := .r s16
abbrev s35 : Pth := .l s17
abbrev s36 : Pth := .r s17
abbrev s37 : Pth := .l s18
abbrev s38 : Pth := .r s18
abbrev s39 : Pth := .l s19
abbrev s40 : Pth := .r s19
abbrev s41 : Pth := .l s20
abbrev s42 : Pth := .r s20
abbrev s43 : Pth := .l s21
abbrev s44 : Pth := .r s21
abbrev s45 : Pth := .l s22
abbrev s46 : Pth := .r s22
abbrev s47 : Pth := .l s23
abbrev s48 : Pth := .r s23
abbrev s49 : Pth := .l s24
abbrev s50 : Pth := .r s24
abbrev s51 : Pth := .l s25
abbrev s52 : Pth := .r s25
abbrev s53 : Pth := .l s26
abbrev s54 : Pth := .r s26
abbrev s55 : Pth := .l s27
abbrev s56 : Pth := .r s27
abbrev s57 : Pth := .l s28
abbrev s58 : Pth := .r s28
abbrev s59 : Pth := .l s29
abbrev s60 : Pth := .r s29
abbrev s61 : Pth := .l s30
abbrev s62 : Pth := .r s30
abbrev s63 : Pth := .l s31
abbrev s64 : Pth := .r s31
abbrev s65 : Pth := .l s32
abbrev s66 : Pth := .r s32
abbrev s67 : Pth := .l s33
abbrev s68 : Pth := .r s33
abbrev s69 : Pth := .l s34
abbrev s70 : Pth := .r s34
abbrev s71 : Pth := .l s35
abbrev s72 : Pth := .r s35
abbrev s73 : Pth := .l s36
abbrev s74 : Pth := .r s36
abbrev s75 : Pth := .l s37
abbrev s76 : Pth := .r s37
abbrev s77 : Pth := .l s38
abbrev s78 : Pth := .r s38
abbrev s79 : Pth := .l s39
abbrev s80 : Pth := .r s39
abbrev s81 : Pth := .l s40
abbrev s82 : Pth := .r s40
abbrev s83 : Pth := .l s41
abbrev s84 : Pth := .r s41
abbrev s85 : Pth := .l s42
abbrev s86 : Pth := .r s42
abbrev s87 : Pth := .l s43
abbrev s88 : Pth := .r s43
abbrev s89 : Pth := .l s44
abbrev s90 : Pth := .r s44
abbrev s91 : Pth := .l s45
/-- Functions that turn no object. -/
def qs : List FuncId := [3, 4, 5, 6, 7, 8, 9, 10, 11, 12, 13, 14, 15, 16, 32]
abbrev i_bowlinelaw07_CheckSums : FuncId := 3
abbrev i_bowlinelaw07_CheckParts : FuncId := 4
abbrev i_bowlinelaw07_CheckBursts : FuncId := 5
abbrev i_bowlinelaw07_alive : FuncId := 6
abbrev i_check_Open : FuncId := 7
abbrev i_bowlineref07_Open : FuncId := 8
abbrev i_check_Of : FuncId := 9
abbrev i_bowlineref07_More : FuncId := 10
abbrev i_check_More : FuncId := 11
abbrev i_check_Close : FuncId := 12
abbrev i_bowlineref07_Close : FuncId := 13
abbrev i_slices_Equal_byte_byte : FuncId := 14
abbrev i_slices_Clone_byte_byte : FuncId := 15
abbrev i_check_byteOn : FuncId := 16
end Go.Proofs.Ytmgjkfepcejgnaa
