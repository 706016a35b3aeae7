/- Functions by name. -/
import Derived.Test.YtdbjalgfomknhaaCom0
set_option linter.unusedVariables false
set_option linter.unusedSimpArgs false
namespace Go.Bal
open Go Go.Sym Go.Proofs
abbrev BWS : FuncId := 5
noncomputable abbrev Nr : Func := Try.f5
theorem BJD : Try.prog.funcs[BWS]? = some Nr := Try.func5
abbrev CAK : FuncId := 10
noncomputable abbrev BYI : Func := Try.f10
theorem CMU : Try.prog.funcs[CAK]? = some BYI := Try.func10
abbrev CGN : FuncId := 11
noncomputable abbrev CKD : Func := Try.f11
theorem CTF : Try.prog.funcs[CGN]? = some CKD := Try.func11
abbrev AQH : FuncId := 12
noncomputable abbrev A0 : Func := Try.f12
theorem BUX : Try.prog.funcs[AQH]? = some A0 := Try.func12
abbrev APQ : FuncId := 13
noncomputable abbrev BNE : Func := Try.f13
theorem CGX : Try.prog.funcs[APQ]? = some BNE := Try.func13
abbrev BLJ : FuncId := 14
noncomputable abbrev AZE : Func := Try.f14
theorem CDI : Try.prog.funcs[BLJ]? = some AZE := Try.func14
abbrev BLC : FuncId := 15
noncomputable abbrev BZI : Func := Try.f15
theorem COI : Try.prog.funcs[BLC]? = some BZI := Try.func15
abbrev CAI : FuncId := 17
noncomputable abbrev BYL : Func := Try.f17
theorem CPE : Try.prog.funcs[CAI]? = some BYL := Try.func17
abbrev AOB : FuncId := 18
noncomputable abbrev uY : Func := Try.f18
theorem BVW : Try.prog.funcs[AOB]? = some uY := Try.func18
abbrev BPF : FuncId := 19
noncomputable abbrev BQC : Func := Try.f19
theorem CLF : Try.prog.funcs[BPF]? = some BQC := Try.func19
abbrev AUT : FuncId := 20
noncomputable abbrev Ot : Func := Try.f20
theorem BJB : Try.prog.funcs[AUT]? = some Ot := Try.func20
abbrev BKY : FuncId := 21
noncomputable abbrev AZN : Func := Try.f21
theorem CBA : Try.prog.funcs[BKY]? = some AZN := Try.func21
abbrev BRE : FuncId := 22
noncomputable abbrev zL : Func := Try.f22
theorem BVG : Try.prog.funcs[BRE]? = some zL := Try.func22
abbrev BLK : FuncId := 23
noncomputable abbrev BTT : Func := Try.f23
theorem CLX : Try.prog.funcs[BLK]? = some BTT := Try.func23
abbrev BOP : FuncId := 24
noncomputable abbrev BMQ : Func := Try.f24
theorem CHR : Try.prog.funcs[BOP]? = some BMQ := Try.func24
abbrev AZC : FuncId := 26
noncomputable abbrev Ln : Func := Try.f26
theorem BIZ : Try.prog.funcs[AZC]? = some Ln := Try.func26
abbrev AUJ : FuncId := 31
noncomputable abbrev ASJ : Func := Try.f31
theorem CFB : Try.prog.funcs[AUJ]? = some ASJ := Try.func31
abbrev TA : FuncId := 32
noncomputable abbrev kA : Func := Try.f32
theorem BRV : Try.prog.funcs[TA]? = some kA := Try.func32
abbrev BFF : FuncId := 33
noncomputable abbrev SC : Func := Try.f33
theorem S4 : Try.prog.funcs[BFF]? = some SC := Try.func33
abbrev bT : FuncId := 34
noncomputable abbrev BNR : Func := Try.f34
theorem CGC : Try.prog.funcs[bT]? = some BNR := Try.func34
abbrev UL : FuncId := 35
noncomputable abbrev J6 : Func := Try.f35
theorem BVA : Try.prog.funcs[UL]? = some J6 := Try.func35
-- none: nilometer/nilometerkit.Copy[nilometer/chart.Pair]
abbrev AJH : FuncId := 36
noncomputable abbrev BYN : Func := Try.f36
theorem CNC : Try.prog.funcs[AJH]? = some BYN := Try.func36
abbrev n_in : FuncId := 37
noncomputable abbrev F_in : Func := Try.f37
theorem CXT : Try.prog.funcs[n_in]? = some F_in := Try.func37
abbrev BLA : FuncId := 38
noncomputable abbrev BYJ : Func := Try.f38
theorem COP : Try.prog.funcs[BLA]? = some BYJ := Try.func38
abbrev TR : FuncId := 39
noncomputable abbrev iG : Func := Try.f39
theorem BUL : Try.prog.funcs[TR]? = some iG := Try.func39
abbrev C1 : FuncId := 40
noncomputable abbrev AWZ : Func := Try.f40
theorem CEL : Try.prog.funcs[C1]? = some AWZ := Try.func40
abbrev vG : FuncId := 41
noncomputable abbrev BQH : Func := Try.f41
theorem CHW : Try.prog.funcs[vG]? = some BQH := Try.func41
abbrev CGP : FuncId := 42
noncomputable abbrev CJI : Func := Try.f42
theorem CTP : Try.prog.funcs[CGP]? = some CJI := Try.func42
abbrev BQW : FuncId := 43
noncomputable abbrev BLX : Func := Try.f43
theorem CIH : Try.prog.funcs[BQW]? = some BLX := Try.func43
-- none: nilometer/nilometerkit.Same[nilometer/chart.Mark]
-- none: nilometer/nilometerkit.Same[nilometer/chart.Note]
-- none: nilometer/nilometerkit.Same[int]
abbrev GH : FuncId := 44
noncomputable abbrev Wv : Func := Try.f44
theorem BIY : Try.prog.funcs[GH]? = some Wv := Try.func44
abbrev BUH : FuncId := 45
noncomputable abbrev CFT : Func := Try.f45
theorem CUE : Try.prog.funcs[BUH]? = some CFT := Try.func45
abbrev ARG : FuncId := 46
noncomputable abbrev ASO : Func := Try.f46
theorem CEJ : Try.prog.funcs[ARG]? = some ASO := Try.func46
abbrev BKT : FuncId := 47
noncomputable abbrev BMD : Func := Try.f47
theorem CLG : Try.prog.funcs[BKT]? = some BMD := Try.func47
abbrev Ij : FuncId := 48
noncomputable abbrev TW : Func := Try.f48
theorem AMY : Try.prog.funcs[Ij]? = some TW := Try.func48
abbrev CAM : FuncId := 49
noncomputable abbrev BZB : Func := Try.f49
theorem CNQ : Try.prog.funcs[CAM]? = some BZB := Try.func49
abbrev n_eP : FuncId := 50
noncomputable abbrev F_eP : Func := Try.f50
theorem CXV : Try.prog.funcs[n_eP]? = some F_eP := Try.func50
abbrev BLP : FuncId := 51
noncomputable abbrev BZG : Func := Try.f51
theorem COM : Try.prog.funcs[BLP]? = some BZG := Try.func51
abbrev BKC : FuncId := 52
noncomputable abbrev BZL : Func := Try.f52
theorem CMP : Try.prog.funcs[BKC]? = some BZL := Try.func52
abbrev xQ : FuncId := 53
noncomputable abbrev D9 : Func := Try.f53
theorem BVZ : Try.prog.funcs[xQ]? = some D9 := Try.func53
abbrev BNK : FuncId := 56
noncomputable abbrev BLB : Func := Try.f56
theorem CHO : Try.prog.funcs[BNK]? = some BLB := Try.func56
abbrev AVT : FuncId := 57
noncomputable abbrev BHN : Func := Try.f57
theorem CEE : Try.prog.funcs[AVT]? = some BHN := Try.func57
abbrev uM : FuncId := 58
noncomputable abbrev BTK : Func := Try.f58
theorem CJV : Try.prog.funcs[uM]? = some BTK := Try.func58
abbrev D0 : FuncId := 59
noncomputable abbrev BDR : Func := Try.f59
theorem CDX : Try.prog.funcs[D0]? = some BDR := Try.func59
abbrev uL : FuncId := 61
noncomputable abbrev yZ : Func := Try.f61
theorem BWM : Try.prog.funcs[uL]? = some yZ := Try.func61
abbrev PC : FuncId := 62
noncomputable abbrev BYR : Func := Try.f62
theorem CMS : Try.prog.funcs[PC]? = some BYR := Try.func62
abbrev BZS : FuncId := 63
noncomputable abbrev BXF : Func := Try.f63
theorem COU : Try.prog.funcs[BZS]? = some BXF := Try.func63
abbrev BGM : FuncId := 64
noncomputable abbrev BXV : Func := Try.f64
theorem CNY : Try.prog.funcs[BGM]? = some BXV := Try.func64
abbrev gA : FuncId := 65
noncomputable abbrev L7 : Func := Try.f65
theorem BWV : Try.prog.funcs[gA]? = some L7 := Try.func65
abbrev H4 : FuncId := 66
noncomputable abbrev BFL : Func := Try.f66
theorem CEI : Try.prog.funcs[H4]? = some BFL := Try.func66
abbrev AFH : FuncId := 67
noncomputable abbrev BXX : Func := Try.f67
theorem CPN : Try.prog.funcs[AFH]? = some BXX := Try.func67
abbrev n_eS : FuncId := 68
noncomputable abbrev F_eS : Func := Try.f68
theorem CSJ : Try.prog.funcs[n_eS]? = some F_eS := Try.func68
abbrev BUC : FuncId := 69
noncomputable abbrev BYP : Func := Try.f69
theorem COC : Try.prog.funcs[BUC]? = some BYP := Try.func69
abbrev BMI : FuncId := 70
noncomputable abbrev BPL : Func := Try.f70
theorem CGG : Try.prog.funcs[BMI]? = some BPL := Try.func70
abbrev BMK : FuncId := 71
noncomputable abbrev BXN : Func := Try.f71
theorem COS : Try.prog.funcs[BMK]? = some BXN := Try.func71
abbrev TZ : FuncId := 72
noncomputable abbrev AWT : Func := Try.f72
theorem CED : Try.prog.funcs[TZ]? = some AWT := Try.func72
abbrev Iq : FuncId := 73
noncomputable abbrev BTW : Func := Try.f73
theorem CGJ : Try.prog.funcs[Iq]? = some BTW := Try.func73
abbrev CHB : FuncId := 74
noncomputable abbrev CMA : Func := Try.f74
theorem CWB : Try.prog.funcs[CHB]? = some CMA := Try.func74
abbrev BUS : FuncId := 75
noncomputable abbrev CKU : Func := Try.f75
theorem CTN : Try.prog.funcs[BUS]? = some CKU := Try.func75
abbrev BXG : FuncId := 78
noncomputable abbrev BZJ : Func := Try.f78
theorem CNK : Try.prog.funcs[BXG]? = some BZJ := Try.func78
abbrev BJV : FuncId := 79
noncomputable abbrev BWC : Func := Try.f79
theorem CKT : Try.prog.funcs[BJV]? = some BWC := Try.func79
abbrev BOK : FuncId := 80
noncomputable abbrev BXI : Func := Try.f80
theorem CNB : Try.prog.funcs[BOK]? = some BXI := Try.func80
abbrev BMB : FuncId := 81
noncomputable abbrev CAC : Func := Try.f81
theorem COE : Try.prog.funcs[BMB]? = some CAC := Try.func81
abbrev BVJ : FuncId := 82
noncomputable abbrev BVK : Func := Try.f82
theorem CJQ : Try.prog.funcs[BVJ]? = some BVK := Try.func82
abbrev B7 : FuncId := 83
noncomputable abbrev BVL : Func := Try.f83
theorem CJD : Try.prog.funcs[B7]? = some BVL := Try.func83
abbrev Bq : FuncId := 84
noncomputable abbrev X3 : Func := Try.f84
theorem BZK : Try.prog.funcs[Bq]? = some X3 := Try.func84
abbrev n_eN : FuncId := 85
noncomputable abbrev F_eN : Func := Try.f85
theorem CWP : Try.prog.funcs[n_eN]? = some F_eN := Try.func85
abbrev uE : FuncId := 86
noncomputable abbrev BFK : Func := Try.f86
theorem CEH : Try.prog.funcs[uE]? = some BFK := Try.func86
abbrev BSV : FuncId := 87
noncomputable abbrev BRT : Func := Try.f87
theorem CJM : Try.prog.funcs[BSV]? = some BRT := Try.func87
abbrev BVN : FuncId := 88
noncomputable abbrev BVE : Func := Try.f88
theorem CHU : Try.prog.funcs[BVN]? = some BVE := Try.func88
abbrev Xh : FuncId := 89
noncomputable abbrev ARF : Func := Try.f89
theorem CFE : Try.prog.funcs[Xh]? = some ARF := Try.func89
abbrev CMD : FuncId := 90
noncomputable abbrev CIK : Func := Try.f90
theorem CUY : Try.prog.funcs[CMD]? = some CIK := Try.func90
abbrev BYA : FuncId := 92
noncomputable abbrev CAN : Func := Try.f92
theorem CMZ : Try.prog.funcs[BYA]? = some CAN := Try.func92
abbrev Z9 : FuncId := 93
noncomputable abbrev BDD : Func := Try.f93
theorem CBN : Try.prog.funcs[Z9]? = some BDD := Try.func93
abbrev xP : FuncId := 102
noncomputable abbrev AWK : Func := Try.f102
theorem CDW : Try.prog.funcs[xP]? = some AWK := Try.func102
abbrev BWE : FuncId := 103
noncomputable abbrev BVR : Func := Try.f103
theorem CLO : Try.prog.funcs[BWE]? = some BVR := Try.func103
abbrev BUM : FuncId := 104
noncomputable abbrev CFJ : Func := Try.f104
theorem CUO : Try.prog.funcs[BUM]? = some CFJ := Try.func104
abbrev BVU : FuncId := 105
noncomputable abbrev BWR : Func := Try.f105
theorem CMB : Try.prog.funcs[BVU]? = some BWR := Try.func105
abbrev L3 : FuncId := 107
noncomputable abbrev BFP : Func := Try.f107
theorem CEC : Try.prog.funcs[L3]? = some BFP := Try.func107
end Go.Bal
