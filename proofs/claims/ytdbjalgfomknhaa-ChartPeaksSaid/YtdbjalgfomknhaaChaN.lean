/- Functions by name. -/
import Derived.Test.YtdbjalgfomknhaaPrg0
set_option linter.unusedVariables false
set_option linter.unusedSimpArgs false
namespace Go.Bal
open Go Go.Sym Go.Proofs
abbrev n_lPeaks : FuncId := 4
noncomputable abbrev F_lPeaks : Func := Try.f4
theorem fn_lPeaks : Try.prog.funcs[n_lPeaks]? = some F_lPeaks := Try.func4
abbrev n_Made : FuncId := 10
noncomputable abbrev F_Made : Func := Try.f10
theorem fn_Made : Try.prog.funcs[n_Made]? = some F_Made := Try.func10
abbrev n_New : FuncId := 11
noncomputable abbrev F_New : Func := Try.f11
theorem fn_New : Try.prog.funcs[n_New]? = some F_New := Try.func11
abbrev n_Times : FuncId := 12
noncomputable abbrev F_Times : Func := Try.f12
theorem fn_Times : Try.prog.funcs[n_Times]? = some F_Times := Try.func12
abbrev n_Stops : FuncId := 13
noncomputable abbrev F_Stops : Func := Try.f13
theorem fn_Stops : Try.prog.funcs[n_Stops]? = some F_Stops := Try.func13
abbrev n_Next : FuncId := 15
noncomputable abbrev F_Next : Func := Try.f15
theorem fn_Next : Try.prog.funcs[n_Next]? = some F_Next := Try.func15
abbrev n_Pick : FuncId := 17
noncomputable abbrev F_Pick : Func := Try.f17
theorem fn_Pick : Try.prog.funcs[n_Pick]? = some F_Pick := Try.func17
abbrev n_Stage : FuncId := 18
noncomputable abbrev F_Stage : Func := Try.f18
theorem fn_Stage : Try.prog.funcs[n_Stage]? = some F_Stage := Try.func18
abbrev n_awake : FuncId := 19
noncomputable abbrev F_awake : Func := Try.f19
theorem fn_awake : Try.prog.funcs[n_awake]? = some F_awake := Try.func19
abbrev n_Stages : FuncId := 20
noncomputable abbrev F_Stages : Func := Try.f20
theorem fn_Stages : Try.prog.funcs[n_Stages]? = some F_Stages := Try.func20
abbrev n_Peak : FuncId := 21
noncomputable abbrev F_Peak : Func := Try.f21
theorem fn_Peak : Try.prog.funcs[n_Peak]? = some F_Peak := Try.func21
abbrev n_First : FuncId := 22
noncomputable abbrev F_First : Func := Try.f22
theorem fn_First : Try.prog.funcs[n_First]? = some F_First := Try.func22
abbrev n_sameS : FuncId := 23
noncomputable abbrev F_sameS : Func := Try.f23
theorem fn_sameS : Try.prog.funcs[n_sameS]? = some F_sameS := Try.func23
abbrev n_Pairs : FuncId := 24
noncomputable abbrev F_Pairs : Func := Try.f24
theorem fn_Pairs : Try.prog.funcs[n_Pairs]? = some F_Pairs := Try.func24
abbrev n_Proves : FuncId := 26
noncomputable abbrev F_Proves : Func := Try.f26
theorem fn_Proves : Try.prog.funcs[n_Proves]? = some F_Proves := Try.func26
abbrev n_Within : FuncId := 31
noncomputable abbrev F_Within : Func := Try.f31
theorem fn_Within : Try.prog.funcs[n_Within]? = some F_Within := Try.func31
abbrev n_read : FuncId := 32
noncomputable abbrev F_read : Func := Try.f32
theorem fn_read : Try.prog.funcs[n_read]? = some F_read := Try.func32
abbrev n_fewest : FuncId := 33
noncomputable abbrev F_fewest : Func := Try.f33
theorem fn_fewest : Try.prog.funcs[n_fewest]? = some F_fewest := Try.func33
abbrev n_hadd : FuncId := 36
noncomputable abbrev F_hadd : Func := Try.f36
theorem fn_hadd : Try.prog.funcs[n_hadd]? = some F_hadd := Try.func36
abbrev n_in : FuncId := 37
noncomputable abbrev F_in : Func := Try.f37
theorem fn_in : Try.prog.funcs[n_in]? = some F_in := Try.func37
abbrev n_gaps : FuncId := 38
noncomputable abbrev F_gaps : Func := Try.f38
theorem fn_gaps : Try.prog.funcs[n_gaps]? = some F_gaps := Try.func38
abbrev n_narrowed : FuncId := 39
noncomputable abbrev F_narrowed : Func := Try.f39
theorem fn_narrowed : Try.prog.funcs[n_narrowed]? = some F_narrowed := Try.func39
abbrev n_parted : FuncId := 40
noncomputable abbrev F_parted : Func := Try.f40
theorem fn_parted : Try.prog.funcs[n_parted]? = some F_parted := Try.func40
abbrev n_whole : FuncId := 41
noncomputable abbrev F_whole : Func := Try.f41
theorem fn_whole : Try.prog.funcs[n_whole]? = some F_whole := Try.func41
abbrev n_One : FuncId := 42
noncomputable abbrev F_One : Func := Try.f42
theorem fn_One : Try.prog.funcs[n_One]? = some F_One := Try.func42
abbrev n_sameP : FuncId := 43
noncomputable abbrev F_sameP : Func := Try.f43
theorem fn_sameP : Try.prog.funcs[n_sameP]? = some F_sameP := Try.func43
-- none: nilometer/nilometerkit.Same[nilometer/chart.Mark]
-- none: nilometer/nilometerkit.Same[nilometer/chart.Note]
-- none: nilometer/nilometerkit.Same[int]
abbrev n_opened : FuncId := 44
noncomputable abbrev F_opened : Func := Try.f44
theorem fn_opened : Try.prog.funcs[n_opened]? = some F_opened := Try.func44
abbrev n_all : FuncId := 45
noncomputable abbrev F_all : Func := Try.f45
theorem fn_all : Try.prog.funcs[n_all]? = some F_all := Try.func45
abbrev n_within : FuncId := 46
noncomputable abbrev F_within : Func := Try.f46
theorem fn_within : Try.prog.funcs[n_within]? = some F_within := Try.func46
abbrev n_least : FuncId := 47
noncomputable abbrev F_least : Func := Try.f47
theorem fn_least : Try.prog.funcs[n_least]? = some F_least := Try.func47
abbrev n_greatest : FuncId := 48
noncomputable abbrev F_greatest : Func := Try.f48
theorem fn_greatest : Try.prog.funcs[n_greatest]? = some F_greatest := Try.func48
abbrev n_most : FuncId := 49
noncomputable abbrev F_most : Func := Try.f49
theorem fn_most : Try.prog.funcs[n_most]? = some F_most := Try.func49
abbrev n_eP : FuncId := 50
noncomputable abbrev F_eP : Func := Try.f50
theorem fn_eP : Try.prog.funcs[n_eP]? = some F_eP := Try.func50
abbrev n_pair : FuncId := 51
noncomputable abbrev F_pair : Func := Try.f51
theorem fn_pair : Try.prog.funcs[n_pair]? = some F_pair := Try.func51
abbrev n_late : FuncId := 52
noncomputable abbrev F_late : Func := Try.f52
theorem fn_late : Try.prog.funcs[n_late]? = some F_late := Try.func52
abbrev n_begun : FuncId := 53
noncomputable abbrev F_begun : Func := Try.f53
theorem fn_begun : Try.prog.funcs[n_begun]? = some F_begun := Try.func53
abbrev n_noted : FuncId := 56
noncomputable abbrev F_noted : Func := Try.f56
theorem fn_noted : Try.prog.funcs[n_noted]? = some F_noted := Try.func56
abbrev n_stages : FuncId := 57
noncomputable abbrev F_stages : Func := Try.f57
theorem fn_stages : Try.prog.funcs[n_stages]? = some F_stages := Try.func57
abbrev n_times : FuncId := 58
noncomputable abbrev F_times : Func := Try.f58
theorem fn_times : Try.prog.funcs[n_times]? = some F_times := Try.func58
abbrev n_common : FuncId := 59
noncomputable abbrev F_common : Func := Try.f59
theorem fn_common : Try.prog.funcs[n_common]? = some F_common := Try.func59
abbrev n_sortI : FuncId := 61
noncomputable abbrev F_sortI : Func := Try.f61
theorem fn_sortI : Try.prog.funcs[n_sortI]? = some F_sortI := Try.func61
abbrev n_few1 : FuncId := 62
noncomputable abbrev F_few1 : Func := Try.f62
theorem fn_few1 : Try.prog.funcs[n_few1]? = some F_few1 := Try.func62
abbrev n_cmpI : FuncId := 63
noncomputable abbrev F_cmpI : Func := Try.f63
theorem fn_cmpI : Try.prog.funcs[n_cmpI]? = some F_cmpI := Try.func63
abbrev n_stop : FuncId := 64
noncomputable abbrev F_stop : Func := Try.f64
theorem fn_stop : Try.prog.funcs[n_stop]? = some F_stop := Try.func64
abbrev n_gaps1 : FuncId := 65
noncomputable abbrev F_gaps1 : Func := Try.f65
theorem fn_gaps1 : Try.prog.funcs[n_gaps1]? = some F_gaps1 := Try.func65
abbrev n_cloneS : FuncId := 66
noncomputable abbrev F_cloneS : Func := Try.f66
theorem fn_cloneS : Try.prog.funcs[n_cloneS]? = some F_cloneS := Try.func66
abbrev n_nar1 : FuncId := 67
noncomputable abbrev F_nar1 : Func := Try.f67
theorem fn_nar1 : Try.prog.funcs[n_nar1]? = some F_nar1 := Try.func67
abbrev n_eS : FuncId := 68
noncomputable abbrev F_eS : Func := Try.f68
theorem fn_eS : Try.prog.funcs[n_eS]? = some F_eS := Try.func68
abbrev n_nar2 : FuncId := 69
noncomputable abbrev F_nar2 : Func := Try.f69
theorem fn_nar2 : Try.prog.funcs[n_nar2]? = some F_nar2 := Try.func69
abbrev n_Check : FuncId := 70
noncomputable abbrev F_Check : Func := Try.f70
theorem fn_Check : Try.prog.funcs[n_Check]? = some F_Check := Try.func70
abbrev n_all1 : FuncId := 71
noncomputable abbrev F_all1 : Func := Try.f71
theorem fn_all1 : Try.prog.funcs[n_all1]? = some F_all1 := Try.func71
abbrev n_least1 : FuncId := 72
noncomputable abbrev F_least1 : Func := Try.f72
theorem fn_least1 : Try.prog.funcs[n_least1]? = some F_least1 := Try.func72
abbrev n_most1 : FuncId := 73
noncomputable abbrev F_most1 : Func := Try.f73
theorem fn_most1 : Try.prog.funcs[n_most1]? = some F_most1 := Try.func73
abbrev n_cfP : FuncId := 74
noncomputable abbrev F_cfP : Func := Try.f74
theorem fn_cfP : Try.prog.funcs[n_cfP]? = some F_cfP := Try.func74
abbrev n_eP1 : FuncId := 75
noncomputable abbrev F_eP1 : Func := Try.f75
theorem fn_eP1 : Try.prog.funcs[n_eP1]? = some F_eP1 := Try.func75
abbrev n_repS : FuncId := 78
noncomputable abbrev F_repS : Func := Try.f78
theorem fn_repS : Try.prog.funcs[n_repS]? = some F_repS := Try.func78
abbrev n_pdq : FuncId := 79
noncomputable abbrev F_pdq : Func := Try.f79
theorem fn_pdq : Try.prog.funcs[n_pdq]? = some F_pdq := Try.func79
abbrev n_bLen : FuncId := 80
noncomputable abbrev F_bLen : Func := Try.f80
theorem fn_bLen : Try.prog.funcs[n_bLen]? = some F_bLen := Try.func80
abbrev n_nanC : FuncId := 81
noncomputable abbrev F_nanC : Func := Try.f81
theorem fn_nanC : Try.prog.funcs[n_nanC]? = some F_nanC := Try.func81
abbrev n_cfS : FuncId := 82
noncomputable abbrev F_cfS : Func := Try.f82
theorem fn_cfS : Try.prog.funcs[n_cfS]? = some F_cfS := Try.func82
abbrev n_eS1 : FuncId := 83
noncomputable abbrev F_eS1 : Func := Try.f83
theorem fn_eS1 : Try.prog.funcs[n_eS1]? = some F_eS1 := Try.func83
abbrev n_within0 : FuncId := 84
noncomputable abbrev F_within0 : Func := Try.f84
theorem fn_within0 : Try.prog.funcs[n_within0]? = some F_within0 := Try.func84
abbrev n_eN : FuncId := 85
noncomputable abbrev F_eN : Func := Try.f85
theorem fn_eN : Try.prog.funcs[n_eN]? = some F_eN := Try.func85
abbrev n_Check1 : FuncId := 86
noncomputable abbrev F_Check1 : Func := Try.f86
theorem fn_Check1 : Try.prog.funcs[n_Check1]? = some F_Check1 := Try.func86
abbrev n_right : FuncId := 87
noncomputable abbrev F_right : Func := Try.f87
theorem fn_right : Try.prog.funcs[n_right]? = some F_right := Try.func87
abbrev n_cfN : FuncId := 88
noncomputable abbrev F_cfN : Func := Try.f88
theorem fn_cfN : Try.prog.funcs[n_cfN]? = some F_cfN := Try.func88
abbrev n_Check2 : FuncId := 89
noncomputable abbrev F_Check2 : Func := Try.f89
theorem fn_Check2 : Try.prog.funcs[n_Check2]? = some F_Check2 := Try.func89
abbrev n_ifP : FuncId := 90
noncomputable abbrev F_ifP : Func := Try.f90
theorem fn_ifP : Try.prog.funcs[n_ifP]? = some F_ifP := Try.func90
abbrev n_bMul : FuncId := 92
noncomputable abbrev F_bMul : Func := Try.f92
theorem fn_bMul : Try.prog.funcs[n_bMul]? = some F_bMul := Try.func92
abbrev n_insI : FuncId := 93
noncomputable abbrev F_insI : Func := Try.f93
theorem fn_insI : Try.prog.funcs[n_insI]? = some F_insI := Try.func93
abbrev n_bLen64 : FuncId := 102
noncomputable abbrev F_bLen64 : Func := Try.f102
theorem fn_bLen64 : Try.prog.funcs[n_bLen64]? = some F_bLen64 := Try.func102
abbrev n_ifS : FuncId := 103
noncomputable abbrev F_ifS : Func := Try.f103
theorem fn_ifS : Try.prog.funcs[n_ifS]? = some F_ifS := Try.func103
abbrev n_eN1 : FuncId := 104
noncomputable abbrev F_eN1 : Func := Try.f104
theorem fn_eN1 : Try.prog.funcs[n_eN1]? = some F_eN1 := Try.func104
abbrev n_ifN : FuncId := 105
noncomputable abbrev F_ifN : Func := Try.f105
theorem fn_ifN : Try.prog.funcs[n_ifN]? = some F_ifN := Try.func105
abbrev n_bMul64 : FuncId := 107
noncomputable abbrev F_bMul64 : Func := Try.f107
theorem fn_bMul64 : Try.prog.funcs[n_bMul64]? = some F_bMul64 := Try.func107
end Go.Bal
