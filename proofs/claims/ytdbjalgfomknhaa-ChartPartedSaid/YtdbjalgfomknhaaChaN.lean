/- Functions by name. -/
import Derived.Test.YtdbjalgfomknhaaCom0
set_option linter.unusedVariables false
set_option linter.unusedSimpArgs false
namespace Go.Bal
open Go Go.Sym Go.Proofs
abbrev BKB : FuncId := 6
noncomputable abbrev AKN : Func := Try.f6
theorem CBD : Try.prog.funcs[BKB]? = some AKN := Try.func6
abbrev CBL : FuncId := 10
noncomputable abbrev CAP : Func := Try.f10
theorem CQX : Try.prog.funcs[CBL]? = some CAP := Try.func10
abbrev CMZ : FuncId := 11
noncomputable abbrev CJW : Func := Try.f11
theorem CWY : Try.prog.funcs[CMZ]? = some CJW := Try.func11
abbrev ANO : FuncId := 12
noncomputable abbrev vG : Func := Try.f12
theorem BWK : Try.prog.funcs[ANO]? = some vG := Try.func12
abbrev BOT : FuncId := 13
noncomputable abbrev BRF : Func := Try.f13
theorem CMK : Try.prog.funcs[BOT]? = some BRF := Try.func13
abbrev CBK : FuncId := 14
noncomputable abbrev CAQ : Func := Try.f14
theorem CQS : Try.prog.funcs[CBK]? = some CAQ := Try.func14
abbrev BQN : FuncId := 15
noncomputable abbrev CBX : Func := Try.f15
theorem CPM : Try.prog.funcs[BQN]? = some CBX := Try.func15
abbrev CAU : FuncId := 17
noncomputable abbrev CBB : Func := Try.f17
theorem CPZ : Try.prog.funcs[CAU]? = some CBB := Try.func17
abbrev AON : FuncId := 18
noncomputable abbrev zN : Func := Try.f18
theorem BXB : Try.prog.funcs[AON]? = some zN := Try.func18
abbrev BMY : FuncId := 19
noncomputable abbrev BPC : Func := Try.f19
theorem COD : Try.prog.funcs[BMY]? = some BPC := Try.func19
abbrev AZQ : FuncId := 20
noncomputable abbrev Oi : Func := Try.f20
theorem BKA : Try.prog.funcs[AZQ]? = some Oi := Try.func20
abbrev CAM : FuncId := 21
noncomputable abbrev BDZ : Func := Try.f21
theorem CFN : Try.prog.funcs[CAM]? = some BDZ := Try.func21
abbrev BLG : FuncId := 22
noncomputable abbrev H9 : Func := Try.f22
theorem BXF : Try.prog.funcs[BLG]? = some H9 := Try.func22
abbrev ANV : FuncId := 23
noncomputable abbrev BTW : Func := Try.f23
theorem CMS : Try.prog.funcs[ANV]? = some BTW := Try.func23
abbrev BLN : FuncId := 24
noncomputable abbrev BVF : Func := Try.f24
theorem CIK : Try.prog.funcs[BLN]? = some BVF := Try.func24
abbrev BBI : FuncId := 26
noncomputable abbrev Lz : Func := Try.f26
theorem BKQ : Try.prog.funcs[BBI]? = some Lz := Try.func26
abbrev ASC : FuncId := 31
noncomputable abbrev ATT : Func := Try.f31
theorem CFQ : Try.prog.funcs[ASC]? = some ATT := Try.func31
abbrev RX : FuncId := 32
noncomputable abbrev nY : Func := Try.f32
theorem BVL : Try.prog.funcs[RX]? = some nY := Try.func32
abbrev AQA : FuncId := 33
noncomputable abbrev TV : Func := Try.f33
theorem AFD : Try.prog.funcs[AQA]? = some TV := Try.func33
abbrev BRA : FuncId := 34
noncomputable abbrev BLX : Func := Try.f34
theorem CHQ : Try.prog.funcs[BRA]? = some BLX := Try.func34
abbrev BNF : FuncId := 35
noncomputable abbrev BPE : Func := Try.f35
theorem CLA : Try.prog.funcs[BNF]? = some BPE := Try.func35
-- none: nilometer/nilometerkit.Copy[nilometer/chart.Pair]
abbrev O1 : FuncId := 36
noncomputable abbrev BZX : Func := Try.f36
theorem CRA : Try.prog.funcs[O1]? = some BZX := Try.func36
abbrev n_in : FuncId := 37
noncomputable abbrev F_in : Func := Try.f37
theorem CZC : Try.prog.funcs[n_in]? = some F_in := Try.func37
abbrev BOV : FuncId := 38
noncomputable abbrev BZA : Func := Try.f38
theorem COR : Try.prog.funcs[BOV]? = some BZA := Try.func38
abbrev SS : FuncId := 39
noncomputable abbrev hG : Func := Try.f39
theorem BXH : Try.prog.funcs[SS]? = some hG := Try.func39
abbrev yY : FuncId := 40
noncomputable abbrev BDR : Func := Try.f40
theorem CGW : Try.prog.funcs[yY]? = some BDR := Try.func40
abbrev E4 : FuncId := 41
noncomputable abbrev BVG : Func := Try.f41
theorem CKU : Try.prog.funcs[E4]? = some BVG := Try.func41
abbrev CJJ : FuncId := 42
noncomputable abbrev CIA : Func := Try.f42
theorem CXG : Try.prog.funcs[CJJ]? = some CIA := Try.func42
abbrev BTB : FuncId := 43
noncomputable abbrev BLT : Func := Try.f43
theorem CJO : Try.prog.funcs[BTB]? = some BLT := Try.func43
-- none: nilometer/nilometerkit.Same[nilometer/chart.Mark]
-- none: nilometer/nilometerkit.Same[nilometer/chart.Note]
-- none: nilometer/nilometerkit.Same[int]
abbrev GR : FuncId := 44
noncomputable abbrev Qe : Func := Try.f44
theorem BKC : Try.prog.funcs[GR]? = some Qe := Try.func44
abbrev BXD : FuncId := 45
noncomputable abbrev CMY : Func := Try.f45
theorem CVT : Try.prog.funcs[BXD]? = some CMY := Try.func45
abbrev ARP : FuncId := 46
noncomputable abbrev BEE : Func := Try.f46
theorem CGG : Try.prog.funcs[ARP]? = some BEE := Try.func46
abbrev BTG : FuncId := 47
noncomputable abbrev BMI : Func := Try.f47
theorem CNX : Try.prog.funcs[BTG]? = some BMI := Try.func47
abbrev Gi : FuncId := 48
noncomputable abbrev TH : Func := Try.f48
theorem ALP : Try.prog.funcs[Gi]? = some TH := Try.func48
abbrev BZC : FuncId := 49
noncomputable abbrev CCI : Func := Try.f49
theorem CPD : Try.prog.funcs[BZC]? = some CCI := Try.func49
abbrev n_eP : FuncId := 50
noncomputable abbrev F_eP : Func := Try.f50
theorem CZF : Try.prog.funcs[n_eP]? = some F_eP := Try.func50
abbrev BPU : FuncId := 51
noncomputable abbrev CCL : Func := Try.f51
theorem CPU : Try.prog.funcs[BPU]? = some CCL := Try.func51
abbrev BQM : FuncId := 52
noncomputable abbrev CBH : Func := Try.f52
theorem CRB : Try.prog.funcs[BQM]? = some CBH := Try.func52
abbrev uU : FuncId := 53
noncomputable abbrev xQ : Func := Try.f53
theorem BVY : Try.prog.funcs[uU]? = some xQ := Try.func53
abbrev BRT : FuncId := 56
noncomputable abbrev BRQ : Func := Try.f56
theorem CIZ : Try.prog.funcs[BRT]? = some BRQ := Try.func56
abbrev AXA : FuncId := 57
noncomputable abbrev ATG : Func := Try.f57
theorem CGT : Try.prog.funcs[AXA]? = some ATG := Try.func57
abbrev yA : FuncId := 58
noncomputable abbrev BRV : Func := Try.f58
theorem CHP : Try.prog.funcs[yA]? = some BRV := Try.func58
abbrev tT : FuncId := 59
noncomputable abbrev ATR : Func := Try.f59
theorem CGF : Try.prog.funcs[tT]? = some ATR := Try.func59
abbrev G8 : FuncId := 61
noncomputable abbrev F5 : Func := Try.f61
theorem BXP : Try.prog.funcs[G8]? = some F5 := Try.func61
abbrev PH : FuncId := 62
noncomputable abbrev BZU : Func := Try.f62
theorem COO : Try.prog.funcs[PH]? = some BZU := Try.func62
abbrev BYT : FuncId := 63
noncomputable abbrev CAL : Func := Try.f63
theorem CPQ : Try.prog.funcs[BYT]? = some CAL := Try.func63
abbrev BHZ : FuncId := 64
noncomputable abbrev CAI : Func := Try.f64
theorem CRN : Try.prog.funcs[BHZ]? = some CAI := Try.func64
abbrev Yk : FuncId := 65
noncomputable abbrev uB : Func := Try.f65
theorem BXC : Try.prog.funcs[Yk]? = some uB := Try.func65
abbrev tU : FuncId := 66
noncomputable abbrev BAH : Func := Try.f66
theorem CGE : Try.prog.funcs[tU]? = some BAH := Try.func66
abbrev AEY : FuncId := 67
noncomputable abbrev CCC : Func := Try.f67
theorem COP : Try.prog.funcs[AEY]? = some CCC := Try.func67
abbrev n_eS : FuncId := 68
noncomputable abbrev F_eS : Func := Try.f68
theorem CTD : Try.prog.funcs[n_eS]? = some F_eS := Try.func68
abbrev BMC : FuncId := 69
noncomputable abbrev BYV : Func := Try.f69
theorem CPI : Try.prog.funcs[BMC]? = some BYV := Try.func69
abbrev BTV : FuncId := 70
noncomputable abbrev BUK : Func := Try.f70
theorem CIC : Try.prog.funcs[BTV]? = some BUK := Try.func70
abbrev BRU : FuncId := 71
noncomputable abbrev CAC : Func := Try.f71
theorem CQA : Try.prog.funcs[BRU]? = some CAC := Try.func71
abbrev TR : FuncId := 72
noncomputable abbrev AUF : Func := Try.f72
theorem CGC : Try.prog.funcs[TR]? = some AUF := Try.func72
abbrev Gv : FuncId := 73
noncomputable abbrev BSN : Func := Try.f73
theorem CMI : Try.prog.funcs[Gv]? = some BSN := Try.func73
abbrev CHD : FuncId := 74
noncomputable abbrev COE : Func := Try.f74
theorem CWV : Try.prog.funcs[CHD]? = some COE := Try.func74
abbrev BYM : FuncId := 75
noncomputable abbrev CKQ : Func := Try.f75
theorem CXK : Try.prog.funcs[BYM]? = some CKQ := Try.func75
abbrev CAA : FuncId := 78
noncomputable abbrev CCD : Func := Try.f78
theorem CQN : Try.prog.funcs[CAA]? = some CCD := Try.func78
abbrev BKI : FuncId := 79
noncomputable abbrev BYA : Func := Try.f79
theorem CLB : Try.prog.funcs[BKI]? = some BYA := Try.func79
abbrev BQY : FuncId := 80
noncomputable abbrev CCB : Func := Try.f80
theorem CRJ : Try.prog.funcs[BQY]? = some CCB := Try.func80
abbrev BQE : FuncId := 81
noncomputable abbrev BYW : Func := Try.f81
theorem CRK : Try.prog.funcs[BQE]? = some BYW := Try.func81
abbrev BWJ : FuncId := 82
noncomputable abbrev BXU : Func := Try.f82
theorem CNA : Try.prog.funcs[BWJ]? = some BXU := Try.func82
abbrev tO : FuncId := 83
noncomputable abbrev BYD : Func := Try.f83
theorem CKH : Try.prog.funcs[tO]? = some BYD := Try.func83
abbrev ZO : FuncId := 84
noncomputable abbrev AEL : Func := Try.f84
theorem CBV : Try.prog.funcs[ZO]? = some AEL := Try.func84
abbrev n_eN : FuncId := 85
noncomputable abbrev F_eN : Func := Try.f85
theorem CYN : Try.prog.funcs[n_eN]? = some F_eN := Try.func85
abbrev yZ : FuncId := 86
noncomputable abbrev ATE : Func := Try.f86
theorem CGM : Try.prog.funcs[yZ]? = some ATE := Try.func86
abbrev BOB : FuncId := 87
noncomputable abbrev BUI : Func := Try.f87
theorem CNT : Try.prog.funcs[BOB]? = some BUI := Try.func87
abbrev BWU : FuncId := 88
noncomputable abbrev BWR : Func := Try.f88
theorem CJZ : Try.prog.funcs[BWU]? = some BWR := Try.func88
abbrev Ub : FuncId := 89
noncomputable abbrev AVM : Func := Try.f89
theorem CFV : Try.prog.funcs[Ub]? = some AVM := Try.func89
abbrev CIX : FuncId := 90
noncomputable abbrev CNL : Func := Try.f90
theorem CVS : Try.prog.funcs[CIX]? = some CNL := Try.func90
abbrev CBA : FuncId := 92
noncomputable abbrev CBJ : Func := Try.f92
theorem CQY : Try.prog.funcs[CBA]? = some CBJ := Try.func92
abbrev AGH : FuncId := 93
noncomputable abbrev AQM : Func := Try.f93
theorem CEW : Try.prog.funcs[AGH]? = some AQM := Try.func93
abbrev uH : FuncId := 102
noncomputable abbrev BDU : Func := Try.f102
theorem CFY : Try.prog.funcs[uH]? = some BDU := Try.func102
abbrev BWI : FuncId := 103
noncomputable abbrev BXS : Func := Try.f103
theorem CKB : Try.prog.funcs[BWI]? = some BXS := Try.func103
abbrev BXX : FuncId := 104
noncomputable abbrev CIV : Func := Try.f104
theorem CWZ : Try.prog.funcs[BXX]? = some CIV := Try.func104
abbrev BWN : FuncId := 105
noncomputable abbrev BXW : Func := Try.f105
theorem CNW : Try.prog.funcs[BWN]? = some BXW := Try.func105
abbrev xN : FuncId := 107
noncomputable abbrev AUJ : Func := Try.f107
theorem CGP : Try.prog.funcs[xN]? = some AUJ := Try.func107
end Go.Bal
