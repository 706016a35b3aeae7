/- Functions by name. -/
import Derived.Test.YtdbjalgfomknhaaCom0
set_option linter.unusedVariables false
set_option linter.unusedSimpArgs false
namespace Go.Bal
open Go Go.Sym Go.Proofs
abbrev BKA : FuncId := 6
noncomputable abbrev ABC : Func := Try.f6
theorem BZK : Try.prog.funcs[BKA]? = some ABC := Try.func6
abbrev BZR : FuncId := 10
noncomputable abbrev CCG : Func := Try.f10
theorem CPM : Try.prog.funcs[BZR]? = some CCG := Try.func10
abbrev CMJ : FuncId := 11
noncomputable abbrev CNJ : Func := Try.f11
theorem CXL : Try.prog.funcs[CMJ]? = some CNJ := Try.func11
abbrev ANA : FuncId := 12
noncomputable abbrev I5 : Func := Try.f12
theorem BYV : Try.prog.funcs[ANA]? = some I5 := Try.func12
abbrev BLT : FuncId := 13
noncomputable abbrev BVO : Func := Try.f13
theorem CLW : Try.prog.funcs[BLT]? = some BVO := Try.func13
abbrev CAZ : FuncId := 14
noncomputable abbrev BZM : Func := Try.f14
theorem CRQ : Try.prog.funcs[CAZ]? = some BZM := Try.func14
abbrev BUV : FuncId := 15
noncomputable abbrev CCS : Func := Try.f15
theorem CPF : Try.prog.funcs[BUV]? = some CCS := Try.func15
abbrev CBE : FuncId := 17
noncomputable abbrev CCB : Func := Try.f17
theorem CPW : Try.prog.funcs[CBE]? = some CCB := Try.func17
abbrev APQ : FuncId := 18
noncomputable abbrev G9 : Func := Try.f18
theorem BWI : Try.prog.funcs[APQ]? = some G9 := Try.func18
abbrev BTV : FuncId := 19
noncomputable abbrev BRX : Func := Try.f19
theorem CLT : Try.prog.funcs[BTV]? = some BRX := Try.func19
abbrev BEW : FuncId := 20
noncomputable abbrev Nz : Func := Try.f20
theorem BJR : Try.prog.funcs[BEW]? = some Nz := Try.func20
abbrev CAV : FuncId := 21
noncomputable abbrev ARL : Func := Try.f21
theorem CDF : Try.prog.funcs[CAV]? = some ARL := Try.func21
abbrev BPJ : FuncId := 22
noncomputable abbrev tN : Func := Try.f22
theorem BYF : Try.prog.funcs[BPJ]? = some tN := Try.func22
abbrev ANR : FuncId := 23
noncomputable abbrev BTF : Func := Try.f23
theorem CLK : Try.prog.funcs[ANR]? = some BTF := Try.func23
abbrev BSW : FuncId := 24
noncomputable abbrev BUH : Func := Try.f24
theorem CMW : Try.prog.funcs[BSW]? = some BUH := Try.func24
abbrev ASZ : FuncId := 26
noncomputable abbrev Ru : Func := Try.f26
theorem BKH : Try.prog.funcs[ASZ]? = some Ru := Try.func26
abbrev AYY : FuncId := 31
noncomputable abbrev AVA : Func := Try.f31
theorem CGS : Try.prog.funcs[AYY]? = some AVA := Try.func31
abbrev UH : FuncId := 32
noncomputable abbrev qG : Func := Try.f32
theorem BLC : Try.prog.funcs[UH]? = some qG := Try.func32
abbrev AQZ : FuncId := 33
noncomputable abbrev UI : Func := Try.f33
theorem T7 : Try.prog.funcs[AQZ]? = some UI := Try.func33
abbrev BVC : FuncId := 34
noncomputable abbrev BPP : Func := Try.f34
theorem CNW : Try.prog.funcs[BVC]? = some BPP := Try.func34
abbrev BML : FuncId := 35
noncomputable abbrev BQF : Func := Try.f35
theorem CJX : Try.prog.funcs[BML]? = some BQF := Try.func35
-- none: nilometer/nilometerkit.Copy[nilometer/chart.Pair]
abbrev ADF : FuncId := 36
noncomputable abbrev CCR : Func := Try.f36
theorem CQQ : Try.prog.funcs[ADF]? = some CCR := Try.func36
abbrev n_in : FuncId := 37
noncomputable abbrev F_in : Func := Try.f37
theorem CZN : Try.prog.funcs[n_in]? = some F_in := Try.func37
abbrev BNW : FuncId := 38
noncomputable abbrev CCO : Func := Try.f38
theorem CPX : Try.prog.funcs[BNW]? = some CCO := Try.func38
abbrev UT : FuncId := 39
noncomputable abbrev qO : Func := Try.f39
theorem BYT : Try.prog.funcs[UT]? = some qO := Try.func39
abbrev uQ : FuncId := 40
noncomputable abbrev ATH : Func := Try.f40
theorem CHE : Try.prog.funcs[uQ]? = some ATH := Try.func40
abbrev vN : FuncId := 41
noncomputable abbrev BRC : Func := Try.f41
theorem CNH : Try.prog.funcs[vN]? = some BRC := Try.func41
abbrev CON : FuncId := 42
noncomputable abbrev CNU : Func := Try.f42
theorem CXC : Try.prog.funcs[CON]? = some CNU := Try.func42
abbrev BSG : FuncId := 43
noncomputable abbrev BLS : Func := Try.f43
theorem CKI : Try.prog.funcs[BSG]? = some BLS := Try.func43
-- none: nilometer/nilometerkit.Same[nilometer/chart.Mark]
-- none: nilometer/nilometerkit.Same[nilometer/chart.Note]
-- none: nilometer/nilometerkit.Same[int]
abbrev GX : FuncId := 44
noncomputable abbrev Kr : Func := Try.f44
theorem BKM : Try.prog.funcs[GX]? = some Kr := Try.func44
abbrev BWS : FuncId := 45
noncomputable abbrev CKX : Func := Try.f45
theorem CXD : Try.prog.funcs[BWS]? = some CKX := Try.func45
abbrev AVB : FuncId := 46
noncomputable abbrev BHC : Func := Try.f46
theorem CGA : Try.prog.funcs[AVB]? = some BHC := Try.func46
abbrev BSB : FuncId := 47
noncomputable abbrev BMC : Func := Try.f47
theorem CIH : Try.prog.funcs[BSB]? = some BMC := Try.func47
abbrev Ex : FuncId := 48
noncomputable abbrev RZ : Func := Try.f48
theorem AMJ : Try.prog.funcs[Ex]? = some RZ := Try.func48
abbrev CBX : FuncId := 49
noncomputable abbrev BZP : Func := Try.f49
theorem CPS : Try.prog.funcs[CBX]? = some BZP := Try.func49
abbrev n_eP : FuncId := 50
noncomputable abbrev F_eP : Func := Try.f50
theorem DAT : Try.prog.funcs[n_eP]? = some F_eP := Try.func50
abbrev BUL : FuncId := 51
noncomputable abbrev CCC : Func := Try.f51
theorem CPT : Try.prog.funcs[BUL]? = some CCC := Try.func51
abbrev BQV : FuncId := 52
noncomputable abbrev CBJ : Func := Try.f52
theorem CRS : Try.prog.funcs[BQV]? = some CBJ := Try.func52
abbrev xQ : FuncId := 53
noncomputable abbrev zI : Func := Try.f53
theorem BWN : Try.prog.funcs[xQ]? = some zI := Try.func53
abbrev BTZ : FuncId := 56
noncomputable abbrev BVZ : Func := Try.f56
theorem CLV : Try.prog.funcs[BTZ]? = some BVZ := Try.func56
abbrev BBW : FuncId := 57
noncomputable abbrev AQP : Func := Try.f57
theorem CGN : Try.prog.funcs[BBW]? = some AQP := Try.func57
abbrev yK : FuncId := 58
noncomputable abbrev BLX : Func := Try.f58
theorem CHI : Try.prog.funcs[yK]? = some BLX := Try.func58
abbrev K6 : FuncId := 59
noncomputable abbrev AXG : Func := Try.f59
theorem CGP : Try.prog.funcs[K6]? = some AXG := Try.func59
abbrev vK : FuncId := 61
noncomputable abbrev vC : Func := Try.f61
theorem BYJ : Try.prog.funcs[vK]? = some vC := Try.func61
abbrev PM : FuncId := 62
noncomputable abbrev CAF : Func := Try.f62
theorem CPJ : Try.prog.funcs[PM]? = some CAF := Try.func62
abbrev BZQ : FuncId := 63
noncomputable abbrev BZU : Func := Try.f63
theorem CRG : Try.prog.funcs[BZQ]? = some BZU := Try.func63
abbrev AYT : FuncId := 64
noncomputable abbrev CBT : Func := Try.f64
theorem CQU : Try.prog.funcs[AYT]? = some CBT := Try.func64
abbrev aE : FuncId := 65
noncomputable abbrev F6 : Func := Try.f65
theorem BYN : Try.prog.funcs[aE]? = some F6 := Try.func65
abbrev xM : FuncId := 66
noncomputable abbrev BIE : Func := Try.f66
theorem CGY : Try.prog.funcs[xM]? = some BIE := Try.func66
abbrev ADI : FuncId := 67
noncomputable abbrev CAJ : Func := Try.f67
theorem CRM : Try.prog.funcs[ADI]? = some CAJ := Try.func67
abbrev n_eS : FuncId := 68
noncomputable abbrev F_eS : Func := Try.f68
theorem CSX : Try.prog.funcs[n_eS]? = some F_eS := Try.func68
abbrev BMP : FuncId := 69
noncomputable abbrev BZB : Func := Try.f69
theorem CPZ : Try.prog.funcs[BMP]? = some BZB := Try.func69
abbrev BUB : FuncId := 70
noncomputable abbrev BUJ : Func := Try.f70
theorem CIP : Try.prog.funcs[BUB]? = some BUJ := Try.func70
abbrev BPT : FuncId := 71
noncomputable abbrev CCM : Func := Try.f71
theorem CQW : Try.prog.funcs[BPT]? = some CCM := Try.func71
abbrev UR : FuncId := 72
noncomputable abbrev AZD : Func := Try.f72
theorem CGF : Try.prog.funcs[UR]? = some AZD := Try.func72
abbrev Hl : FuncId := 73
noncomputable abbrev BOU : Func := Try.f73
theorem CNF : Try.prog.funcs[Hl]? = some BOU := Try.func73
abbrev CND : FuncId := 74
noncomputable abbrev CHR : Func := Try.f74
theorem CXR : Try.prog.funcs[CND]? = some CHR := Try.func74
abbrev BXT : FuncId := 75
noncomputable abbrev CLS : Func := Try.f75
theorem CXZ : Try.prog.funcs[BXT]? = some CLS := Try.func75
abbrev CCP : FuncId := 78
noncomputable abbrev CAO : Func := Try.f78
theorem CPI : Try.prog.funcs[CCP]? = some CAO := Try.func78
abbrev BJZ : FuncId := 79
noncomputable abbrev BXR : Func := Try.f79
theorem CKW : Try.prog.funcs[BJZ]? = some BXR := Try.func79
abbrev BUR : FuncId := 80
noncomputable abbrev CBY : Func := Try.f80
theorem CRP : Try.prog.funcs[BUR]? = some CBY := Try.func80
abbrev BUN : FuncId := 81
noncomputable abbrev CBW : Func := Try.f81
theorem CRN : Try.prog.funcs[BUN]? = some CBW := Try.func81
abbrev BXB : FuncId := 82
noncomputable abbrev BXL : Func := Try.f82
theorem CMU : Try.prog.funcs[BXB]? = some BXL := Try.func82
abbrev C9 : FuncId := 83
noncomputable abbrev BWM : Func := Try.f83
theorem COA : Try.prog.funcs[C9]? = some BWM := Try.func83
abbrev Ac : FuncId := 84
noncomputable abbrev AIW : Func := Try.f84
theorem CCK : Try.prog.funcs[Ac]? = some AIW := Try.func84
abbrev n_eN : FuncId := 85
noncomputable abbrev F_eN : Func := Try.f85
theorem DBA : Try.prog.funcs[n_eN]? = some F_eN := Try.func85
abbrev G1 : FuncId := 86
noncomputable abbrev ASW : Func := Try.f86
theorem CGC : Try.prog.funcs[G1]? = some ASW := Try.func86
abbrev BRS : FuncId := 87
noncomputable abbrev BWE : Func := Try.f87
theorem CHV : Try.prog.funcs[BRS]? = some BWE := Try.func87
abbrev BXZ : FuncId := 88
noncomputable abbrev BXA : Func := Try.f88
theorem CLX : Try.prog.funcs[BXZ]? = some BXA := Try.func88
abbrev Mb : FuncId := 89
noncomputable abbrev AWI : Func := Try.f89
theorem CGK : Try.prog.funcs[Mb]? = some AWI := Try.func89
abbrev CMS : FuncId := 90
noncomputable abbrev CLL : Func := Try.f90
theorem CVG : Try.prog.funcs[CMS]? = some CLL := Try.func90
abbrev CBR : FuncId := 92
noncomputable abbrev BZD : Func := Try.f92
theorem CPR : Try.prog.funcs[CBR]? = some BZD := Try.func92
abbrev V9 : FuncId := 93
noncomputable abbrev AUD : Func := Try.f93
theorem CDI : Try.prog.funcs[V9]? = some AUD := Try.func93
abbrev N0 : FuncId := 102
noncomputable abbrev BCI : Func := Try.f102
theorem CGD : Try.prog.funcs[N0]? = some BCI := Try.func102
abbrev BYA : FuncId := 103
noncomputable abbrev BXO : Func := Try.f103
theorem CLI : Try.prog.funcs[BYA]? = some BXO := Try.func103
abbrev BWT : FuncId := 104
noncomputable abbrev CIZ : Func := Try.f104
theorem CWK : Try.prog.funcs[BWT]? = some CIZ := Try.func104
abbrev BXJ : FuncId := 105
noncomputable abbrev BWU : Func := Try.f105
theorem CIQ : Try.prog.funcs[BXJ]? = some BWU := Try.func105
abbrev zS : FuncId := 107
noncomputable abbrev AUF : Func := Try.f107
theorem CGH : Try.prog.funcs[zS]? = some AUF := Try.func107
end Go.Bal
