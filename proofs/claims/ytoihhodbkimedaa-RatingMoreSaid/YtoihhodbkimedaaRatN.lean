/- Functions by name. -/
import Derived.Test.YtoihhodbkimedaaCom0
set_option linter.unusedVariables false
set_option linter.unusedSimpArgs false
namespace Go.Bal
open Go Go.Sym Go.Proofs
abbrev n_in : FuncId := 35
noncomputable abbrev F_in : Func := Try.f35
theorem fn_in : Try.prog.funcs[n_in]? = some F_in := Try.func35
abbrev n_eG : FuncId := 74
noncomputable abbrev F_eG : Func := Try.f74
theorem fn_eG : Try.prog.funcs[n_eG]? = some F_eG := Try.func74
abbrev n_eL : FuncId := 63
noncomputable abbrev F_eL : Func := Try.f63
theorem fn_eL : Try.prog.funcs[n_eL]? = some F_eL := Try.func63
abbrev n_eI : FuncId := 76
noncomputable abbrev F_eI : Func := Try.f76
theorem fn_eI : Try.prog.funcs[n_eI]? = some F_eI := Try.func76
abbrev n_eG1 : FuncId := 94
noncomputable abbrev F_eG1 : Func := Try.f94
theorem fn_eG1 : Try.prog.funcs[n_eG1]? = some F_eG1 := Try.func94
abbrev n_eL1 : FuncId := 87
noncomputable abbrev F_eL1 : Func := Try.f87
theorem fn_eL1 : Try.prog.funcs[n_eL1]? = some F_eL1 := Try.func87
abbrev n_eI1 : FuncId := 96
noncomputable abbrev F_eI1 : Func := Try.f96
theorem fn_eI1 : Try.prog.funcs[n_eI1]? = some F_eI1 := Try.func96
abbrev n_cfG : FuncId := 93
noncomputable abbrev F_cfG : Func := Try.f93
theorem fn_cfG : Try.prog.funcs[n_cfG]? = some F_cfG := Try.func93
abbrev n_cfL : FuncId := 86
noncomputable abbrev F_cfL : Func := Try.f86
theorem fn_cfL : Try.prog.funcs[n_cfL]? = some F_cfL := Try.func86
abbrev n_cfI : FuncId := 95
noncomputable abbrev F_cfI : Func := Try.f95
theorem fn_cfI : Try.prog.funcs[n_cfI]? = some F_cfI := Try.func95
abbrev n_ifG : FuncId := 106
noncomputable abbrev F_ifG : Func := Try.f106
theorem fn_ifG : Try.prog.funcs[n_ifG]? = some F_ifG := Try.func106
abbrev n_ifL : FuncId := 102
noncomputable abbrev F_ifL : Func := Try.f102
theorem fn_ifL : Try.prog.funcs[n_ifL]? = some F_ifL := Try.func102
abbrev n_ifI : FuncId := 107
noncomputable abbrev F_ifI : Func := Try.f107
theorem fn_ifI : Try.prog.funcs[n_ifI]? = some F_ifI := Try.func107
abbrev n_riG : FuncId := 75
noncomputable abbrev F_riG : Func := Try.f75
theorem fn_riG : Try.prog.funcs[n_riG]? = some F_riG := Try.func75
abbrev n_riP : FuncId := 88
noncomputable abbrev F_riP : Func := Try.f88
theorem fn_riP : Try.prog.funcs[n_riP]? = some F_riP := Try.func88
abbrev n_riL : FuncId := 64
noncomputable abbrev F_riL : Func := Try.f64
theorem fn_riL : Try.prog.funcs[n_riL]? = some F_riL := Try.func64
abbrev n_Check : FuncId := 49
noncomputable abbrev F_Check : Func := Try.f49
theorem fn_Check : Try.prog.funcs[n_Check]? = some F_Check := Try.func49
abbrev n_checkB : FuncId := 62
noncomputable abbrev F_checkB : Func := Try.f62
theorem fn_checkB : Try.prog.funcs[n_checkB]? = some F_checkB := Try.func62
abbrev n_CheckR : FuncId := 31
noncomputable abbrev F_CheckR : Func := Try.f31
theorem fn_CheckR : Try.prog.funcs[n_CheckR]? = some F_CheckR := Try.func31
abbrev n_greatest : FuncId := 109
noncomputable abbrev F_greatest : Func := Try.f109
theorem fn_greatest : Try.prog.funcs[n_greatest]? = some F_greatest := Try.func109
abbrev n_ratio : FuncId := 101
noncomputable abbrev F_ratio : Func := Try.f101
theorem fn_ratio : Try.prog.funcs[n_ratio]? = some F_ratio := Try.func101
abbrev n_compare : FuncId := 40
noncomputable abbrev F_compare : Func := Try.f40
theorem fn_compare : Try.prog.funcs[n_compare]? = some F_compare := Try.func40
abbrev n_has : FuncId := 83
noncomputable abbrev F_has : Func := Try.f83
theorem fn_has : Try.prog.funcs[n_has]? = some F_has := Try.func83
abbrev n_clipped : FuncId := 130
noncomputable abbrev F_clipped : Func := Try.f130
theorem fn_clipped : Try.prog.funcs[n_clipped]? = some F_clipped := Try.func130
abbrev n_flowL : FuncId := 129
noncomputable abbrev F_flowL : Func := Try.f129
theorem fn_flowL : Try.prog.funcs[n_flowL]? = some F_flowL := Try.func129
abbrev n_flowR : FuncId := 128
noncomputable abbrev F_flowR : Func := Try.f128
theorem fn_flowR : Try.prog.funcs[n_flowR]? = some F_flowR := Try.func128
abbrev n_part : FuncId := 57
noncomputable abbrev F_part : Func := Try.f57
theorem fn_part : Try.prog.funcs[n_part]? = some F_part := Try.func57
abbrev n_bins : FuncId := 82
noncomputable abbrev F_bins : Func := Try.f82
theorem fn_bins : Try.prog.funcs[n_bins]? = some F_bins := Try.func82
abbrev n_cmpI : FuncId := 53
noncomputable abbrev F_cmpI : Func := Try.f53
theorem fn_cmpI : Try.prog.funcs[n_cmpI]? = some F_cmpI := Try.func53
abbrev n_lessI : FuncId := 99
noncomputable abbrev F_lessI : Func := Try.f99
theorem fn_lessI : Try.prog.funcs[n_lessI]? = some F_lessI := Try.func99
abbrev n_nanC : FuncId := 81
noncomputable abbrev F_nanC : Func := Try.f81
theorem fn_nanC : Try.prog.funcs[n_nanC]? = some F_nanC := Try.func81
abbrev n_nanS : FuncId := 100
noncomputable abbrev F_nanS : Func := Try.f100
theorem fn_nanS : Try.prog.funcs[n_nanS]? = some F_nanS := Try.func100
abbrev n_asked : FuncId := 48
noncomputable abbrev F_asked : Func := Try.f48
theorem fn_asked : Try.prog.funcs[n_asked]? = some F_asked := Try.func48
abbrev n_At : FuncId := 23
noncomputable abbrev F_At : Func := Try.f23
theorem fn_At : Try.prog.funcs[n_At]? = some F_At := Try.func23
abbrev n_passes : FuncId := 58
noncomputable abbrev F_passes : Func := Try.f58
theorem fn_passes : Try.prog.funcs[n_passes]? = some F_passes := Try.func58
abbrev n_level : FuncId := 67
noncomputable abbrev F_level : Func := Try.f67
theorem fn_level : Try.prog.funcs[n_level]? = some F_level := Try.func67
abbrev n_ends : FuncId := 68
noncomputable abbrev F_ends : Func := Try.f68
theorem fn_ends : Try.prog.funcs[n_ends]? = some F_ends := Try.func68
abbrev n_conP : FuncId := 90
noncomputable abbrev F_conP : Func := Try.f90
theorem fn_conP : Try.prog.funcs[n_conP]? = some F_conP := Try.func90
abbrev n_idxP : FuncId := 103
noncomputable abbrev F_idxP : Func := Try.f103
theorem fn_idxP : Try.prog.funcs[n_idxP]? = some F_idxP := Try.func103
abbrev n_through : FuncId := 65
noncomputable abbrev F_through : Func := Try.f65
theorem fn_through : Try.prog.funcs[n_through]? = some F_through := Try.func65
abbrev n_through1 : FuncId := 89
noncomputable abbrev F_through1 : Func := Try.f89
theorem fn_through1 : Try.prog.funcs[n_through1]? = some F_through1 := Try.func89
abbrev n_passing : FuncId := 66
noncomputable abbrev F_passing : Func := Try.f66
theorem fn_passing : Try.prog.funcs[n_passing]? = some F_passing := Try.func66
abbrev n_line : FuncId := 56
noncomputable abbrev F_line : Func := Try.f56
theorem fn_line : Try.prog.funcs[n_line]? = some F_line := Try.func56
abbrev n_opened : FuncId := 34
noncomputable abbrev F_opened : Func := Try.f34
theorem fn_opened : Try.prog.funcs[n_opened]? = some F_opened := Try.func34
abbrev n_inside : FuncId := 55
noncomputable abbrev F_inside : Func := Try.f55
theorem fn_inside : Try.prog.funcs[n_inside]? = some F_inside := Try.func55
abbrev n_isKnot : FuncId := 54
noncomputable abbrev F_isKnot : Func := Try.f54
theorem fn_isKnot : Try.prog.funcs[n_isKnot]? = some F_isKnot := Try.func54
abbrev n_named : FuncId := 50
noncomputable abbrev F_named : Func := Try.f50
theorem fn_named : Try.prog.funcs[n_named]? = some F_named := Try.func50
abbrev n_named1 : FuncId := 77
noncomputable abbrev F_named1 : Func := Try.f77
theorem fn_named1 : Try.prog.funcs[n_named1]? = some F_named1 := Try.func77
abbrev n_named2 : FuncId := 79
noncomputable abbrev F_named2 : Func := Try.f79
theorem fn_named2 : Try.prog.funcs[n_named2]? = some F_named2 := Try.func79
abbrev n_sorted : FuncId := 78
noncomputable abbrev F_sorted : Func := Try.f78
theorem fn_sorted : Try.prog.funcs[n_sorted]? = some F_sorted := Try.func78
abbrev n_Knot : FuncId := 28
noncomputable abbrev F_Knot : Func := Try.f28
theorem fn_Knot : Try.prog.funcs[n_Knot]? = some F_Knot := Try.func28
abbrev n_fewest : FuncId := 47
noncomputable abbrev F_fewest : Func := Try.f47
theorem fn_fewest : Try.prog.funcs[n_fewest]? = some F_fewest := Try.func47
abbrev n_fewest1 : FuncId := 71
noncomputable abbrev F_fewest1 : Func := Try.f71
theorem fn_fewest1 : Try.prog.funcs[n_fewest1]? = some F_fewest1 := Try.func71
abbrev n_fewest2 : FuncId := 72
noncomputable abbrev F_fewest2 : Func := Try.f72
theorem fn_fewest2 : Try.prog.funcs[n_fewest2]? = some F_fewest2 := Try.func72
abbrev n_ssI : FuncId := 70
noncomputable abbrev F_ssI : Func := Try.f70
theorem fn_ssI : Try.prog.funcs[n_ssI]? = some F_ssI := Try.func70
abbrev n_stI : FuncId := 91
noncomputable abbrev F_stI : Func := Try.f91
theorem fn_stI : Try.prog.funcs[n_stI]? = some F_stI := Try.func91
abbrev n_insI : FuncId := 104
noncomputable abbrev F_insI : Func := Try.f104
theorem fn_insI : Try.prog.funcs[n_insI]? = some F_insI := Try.func104
abbrev n_knotted : FuncId := 73
noncomputable abbrev F_knotted : Func := Try.f73
theorem fn_knotted : Try.prog.funcs[n_knotted]? = some F_knotted := Try.func73
abbrev n_knotted1 : FuncId := 92
noncomputable abbrev F_knotted1 : Func := Try.f92
theorem fn_knotted1 : Try.prog.funcs[n_knotted1]? = some F_knotted1 := Try.func92
abbrev n_Rate : FuncId := 22
noncomputable abbrev F_Rate : Func := Try.f22
theorem fn_Rate : Try.prog.funcs[n_Rate]? = some F_Rate := Try.func22
abbrev n_Knots : FuncId := 25
noncomputable abbrev F_Knots : Func := Try.f25
theorem fn_Knots : Try.prog.funcs[n_Knots]? = some F_Knots := Try.func25
abbrev n_less : FuncId := 59
noncomputable abbrev F_less : Func := Try.f59
theorem fn_less : Try.prog.funcs[n_less]? = some F_less := Try.func59
abbrev n_less1 : FuncId := 84
noncomputable abbrev F_less1 : Func := Try.f84
theorem fn_less1 : Try.prog.funcs[n_less1]? = some F_less1 := Try.func84
abbrev n_more : FuncId := 60
noncomputable abbrev F_more : Func := Try.f60
theorem fn_more : Try.prog.funcs[n_more]? = some F_more := Try.func60
abbrev n_more1 : FuncId := 85
noncomputable abbrev F_more1 : Func := Try.f85
theorem fn_more1 : Try.prog.funcs[n_more1]? = some F_more1 := Try.func85
abbrev n_lines : FuncId := 36
noncomputable abbrev F_lines : Func := Try.f36
theorem fn_lines : Try.prog.funcs[n_lines]? = some F_lines := Try.func36
abbrev n_clone : FuncId := 69
noncomputable abbrev F_clone : Func := Try.f69
theorem fn_clone : Try.prog.funcs[n_clone]? = some F_clone := Try.func69
abbrev n_best : FuncId := 61
noncomputable abbrev F_best : Func := Try.f61
theorem fn_best : Try.prog.funcs[n_best]? = some F_best := Try.func61
abbrev n_bounds : FuncId := 33
noncomputable abbrev F_bounds : Func := Try.f33
theorem fn_bounds : Try.prog.funcs[n_bounds]? = some F_bounds := Try.func33
abbrev n_staged : FuncId := 32
noncomputable abbrev F_staged : Func := Try.f32
theorem fn_staged : Try.prog.funcs[n_staged]? = some F_staged := Try.func32
abbrev n_Flow : FuncId := 12
noncomputable abbrev F_Flow : Func := Try.f12
theorem fn_Flow : Try.prog.funcs[n_Flow]? = some F_Flow := Try.func12
abbrev n_span : FuncId := 37
noncomputable abbrev F_span : Func := Try.f37
theorem fn_span : Try.prog.funcs[n_span]? = some F_span := Try.func37
abbrev n_upTo : FuncId := 38
noncomputable abbrev F_upTo : Func := Try.f38
theorem fn_upTo : Try.prog.funcs[n_upTo]? = some F_upTo := Try.func38
abbrev n_Stages : FuncId := 15
noncomputable abbrev F_Stages : Func := Try.f15
theorem fn_Stages : Try.prog.funcs[n_Stages]? = some F_Stages := Try.func15
abbrev n_Stages1 : FuncId := 39
noncomputable abbrev F_Stages1 : Func := Try.f39
theorem fn_Stages1 : Try.prog.funcs[n_Stages1]? = some F_Stages1 := Try.func39
abbrev n_Stages2 : FuncId := 41
noncomputable abbrev F_Stages2 : Func := Try.f41
theorem fn_Stages2 : Try.prog.funcs[n_Stages2]? = some F_Stages2 := Try.func41
abbrev n_Dry : FuncId := 16
noncomputable abbrev F_Dry : Func := Try.f16
theorem fn_Dry : Try.prog.funcs[n_Dry]? = some F_Dry := Try.func16
abbrev n_Dry1 : FuncId := 42
noncomputable abbrev F_Dry1 : Func := Try.f42
theorem fn_Dry1 : Try.prog.funcs[n_Dry1]? = some F_Dry1 := Try.func42
abbrev n_Dry2 : FuncId := 43
noncomputable abbrev F_Dry2 : Func := Try.f43
theorem fn_Dry2 : Try.prog.funcs[n_Dry2]? = some F_Dry2 := Try.func43
abbrev n_Dry3 : FuncId := 44
noncomputable abbrev F_Dry3 : Func := Try.f44
theorem fn_Dry3 : Try.prog.funcs[n_Dry3]? = some F_Dry3 := Try.func44
-- none: nilometer/rating.Widest
abbrev n_Made : FuncId := 9
noncomputable abbrev F_Made : Func := Try.f9
theorem fn_Made : Try.prog.funcs[n_Made]? = some F_Made := Try.func9
abbrev n_New : FuncId := 10
noncomputable abbrev F_New : Func := Try.f10
theorem fn_New : Try.prog.funcs[n_New]? = some F_New := Try.func10
abbrev n_Pick : FuncId := 11
noncomputable abbrev F_Pick : Func := Try.f11
theorem fn_Pick : Try.prog.funcs[n_Pick]? = some F_Pick := Try.func11
abbrev n_Next : FuncId := 20
noncomputable abbrev F_Next : Func := Try.f20
theorem fn_Next : Try.prog.funcs[n_Next]? = some F_Next := Try.func20
abbrev n_Within : FuncId := 24
noncomputable abbrev F_Within : Func := Try.f24
theorem fn_Within : Try.prog.funcs[n_Within]? = some F_Within := Try.func24
abbrev n_copyG : FuncId := 18
noncomputable abbrev F_copyG : Func := Try.f18
theorem fn_copyG : Try.prog.funcs[n_copyG]? = some F_copyG := Try.func18
abbrev n_below : FuncId := 14
noncomputable abbrev F_below : Func := Try.f14
theorem fn_below : Try.prog.funcs[n_below]? = some F_below := Try.func14
abbrev n_sound : FuncId := 13
noncomputable abbrev F_sound : Func := Try.f13
theorem fn_sound : Try.prog.funcs[n_sound]? = some F_sound := Try.func13
abbrev n_awake : FuncId := 17
noncomputable abbrev F_awake : Func := Try.f17
theorem fn_awake : Try.prog.funcs[n_awake]? = some F_awake := Try.func17
abbrev n_Three : FuncId := 45
noncomputable abbrev F_Three : Func := Try.f45
theorem fn_Three : Try.prog.funcs[n_Three]? = some F_Three := Try.func45
abbrev n_fraction : FuncId := 46
noncomputable abbrev F_fraction : Func := Try.f46
theorem fn_fraction : Try.prog.funcs[n_fraction]? = some F_fraction := Try.func46
abbrev n_lMore : FuncId := 5
noncomputable abbrev F_lMore : Func := Try.f5
theorem fn_lMore : Try.prog.funcs[n_lMore]? = some F_lMore := Try.func5
end Go.Bal
