/- Functions by name. -/
import Derived.Test.YtdbjalgfomknhaaCom0
set_option linter.unusedVariables false
set_option linter.unusedSimpArgs false
namespace Go.Bal
open Go Go.Sym Go.Proofs
abbrev AXV : FuncId := 8
noncomputable abbrev ALJ : Func := Try.f8
theorem BGH : Try.prog.funcs[AXV]? = some ALJ := Try.func8
abbrev ASK : FuncId := 10
noncomputable abbrev AUQ : Func := Try.f10
theorem BJQ : Try.prog.funcs[ASK]? = some AUQ := Try.func10
abbrev BCG : FuncId := 11
noncomputable abbrev BIN : Func := Try.f11
theorem BTC : Try.prog.funcs[BCG]? = some BIN := Try.func11
abbrev ADM : FuncId := 12
noncomputable abbrev M2 : Func := Try.f12
theorem AOZ : Try.prog.funcs[ADM]? = some M2 := Try.func12
abbrev ACS : FuncId := 13
noncomputable abbrev AMH : Func := Try.f13
theorem BIQ : Try.prog.funcs[ACS]? = some AMH := Try.func13
abbrev ANL : FuncId := 15
noncomputable abbrev ASH : Func := Try.f15
theorem BKY : Try.prog.funcs[ANL]? = some ASH := Try.func15
abbrev AUE : FuncId := 17
noncomputable abbrev AUJ : Func := Try.f17
theorem BLY : Try.prog.funcs[AUE]? = some AUJ := Try.func17
abbrev ADR : FuncId := 18
noncomputable abbrev I8 : Func := Try.f18
theorem AQN : Try.prog.funcs[ADR]? = some I8 := Try.func18
abbrev ANG : FuncId := 19
noncomputable abbrev ALR : Func := Try.f19
theorem BGB : Try.prog.funcs[ANG]? = some ALR := Try.func19
abbrev H8 : FuncId := 20
noncomputable abbrev mM : Func := Try.f20
theorem AIP : Try.prog.funcs[H8]? = some mM := Try.func20
abbrev AMK : FuncId := 21
noncomputable abbrev AEN : Func := Try.f21
theorem AVW : Try.prog.funcs[AMK]? = some AEN := Try.func21
abbrev ADL : FuncId := 22
noncomputable abbrev G0 : Func := Try.f22
theorem APR : Try.prog.funcs[ADL]? = some G0 := Try.func22
abbrev AKG : FuncId := 23
noncomputable abbrev ALT : Func := Try.f23
theorem BGW : Try.prog.funcs[AKG]? = some ALT := Try.func23
abbrev ALL : FuncId := 24
noncomputable abbrev ANW : Func := Try.f24
theorem BEK : Try.prog.funcs[ALL]? = some ANW := Try.func24
abbrev AID : FuncId := 26
noncomputable abbrev qZ : Func := Try.f26
theorem AJU : Try.prog.funcs[AID]? = some qZ := Try.func26
abbrev ADJ : FuncId := 29
noncomputable abbrev K7 : Func := Try.f29
theorem ARU : Try.prog.funcs[ADJ]? = some K7 := Try.func29
abbrev AEW : FuncId := 31
noncomputable abbrev AFI : Func := Try.f31
theorem AZQ : Try.prog.funcs[AEW]? = some AFI := Try.func31
abbrev Sv : FuncId := 32
noncomputable abbrev C6 : Func := Try.f32
theorem AMN : Try.prog.funcs[Sv]? = some C6 := Try.func32
abbrev AFS : FuncId := 33
noncomputable abbrev Th : Func := Try.f33
theorem Z9 : Try.prog.funcs[AFS]? = some Th := Try.func33
abbrev N3 : FuncId := 36
noncomputable abbrev ATZ : Func := Try.f36
theorem BKE : Try.prog.funcs[N3]? = some ATZ := Try.func36
abbrev N8 : FuncId := 37
noncomputable abbrev F_in : Func := Try.f37
theorem BWN : Try.prog.funcs[N8]? = some F_in := Try.func37
abbrev AIC : FuncId := 38
noncomputable abbrev AUU : Func := Try.f38
theorem BLO : Try.prog.funcs[AIC]? = some AUU := Try.func38
abbrev Ro : FuncId := 39
noncomputable abbrev zR : Func := Try.f39
theorem APK : Try.prog.funcs[Ro]? = some zR := Try.func39
abbrev G2 : FuncId := 40
noncomputable abbrev AFH : Func := Try.f40
theorem AYT : Try.prog.funcs[G2]? = some AFH := Try.func40
abbrev K9 : FuncId := 41
noncomputable abbrev ANF : Func := Try.f41
theorem BGS : Try.prog.funcs[K9]? = some ANF := Try.func41
abbrev BAP : FuncId := 42
noncomputable abbrev BFA : Func := Try.f42
theorem BRX : Try.prog.funcs[BAP]? = some BFA := Try.func42
abbrev AML : FuncId := 43
noncomputable abbrev AMG : Func := Try.f43
theorem BEQ : Try.prog.funcs[AML]? = some AMG := Try.func43
-- none: nilometer/nilometerkit.Same[nilometer/chart.Mark]
-- none: nilometer/nilometerkit.Same[nilometer/chart.Note]
-- none: nilometer/nilometerkit.Same[int]
abbrev VS : FuncId := 44
noncomputable abbrev qI : Func := Try.f44
theorem AKB : Try.prog.funcs[VS]? = some qI := Try.func44
abbrev AQY : FuncId := 45
noncomputable abbrev BAZ : Func := Try.f45
theorem BRW : Try.prog.funcs[AQY]? = some BAZ := Try.func45
abbrev AGI : FuncId := 46
noncomputable abbrev AIB : Func := Try.f46
theorem BAC : Try.prog.funcs[AGI]? = some AIB := Try.func46
abbrev AKW : FuncId := 47
noncomputable abbrev AMY : Func := Try.f47
theorem BCJ : Try.prog.funcs[AKW]? = some AMY := Try.func47
abbrev gI : FuncId := 48
noncomputable abbrev Te : Func := Try.f48
theorem ACK : Try.prog.funcs[gI]? = some Te := Try.func48
abbrev ATL : FuncId := 49
noncomputable abbrev ATI : Func := Try.f49
theorem BLB : Try.prog.funcs[ATL]? = some ATI := Try.func49
abbrev n_eP : FuncId := 50
noncomputable abbrev F_eP : Func := Try.f50
theorem BXE : Try.prog.funcs[n_eP]? = some F_eP := Try.func50
abbrev AKJ : FuncId := 51
noncomputable abbrev ATN : Func := Try.f51
theorem BMN : Try.prog.funcs[AKJ]? = some ATN := Try.func51
abbrev AOH : FuncId := 52
noncomputable abbrev AUO : Func := Try.f52
theorem BJT : Try.prog.funcs[AOH]? = some AUO := Try.func52
abbrev gC : FuncId := 53
noncomputable abbrev K8 : Func := Try.f53
theorem AQG : Try.prog.funcs[gC]? = some K8 := Try.func53
abbrev n_eI : FuncId := 54
noncomputable abbrev F_eI : Func := Try.f54
theorem BWH : Try.prog.funcs[n_eI]? = some F_eI := Try.func54
abbrev G1 : FuncId := 55
noncomputable abbrev AGS : Func := Try.f55
theorem AZZ : Try.prog.funcs[G1]? = some AGS := Try.func55
abbrev ACT : FuncId := 56
noncomputable abbrev AOK : Func := Try.f56
theorem BBG : Try.prog.funcs[ACT]? = some AOK := Try.func56
abbrev L2 : FuncId := 57
noncomputable abbrev AFV : Func := Try.f57
theorem AZU : Try.prog.funcs[L2]? = some AFV := Try.func57
abbrev J1 : FuncId := 58
noncomputable abbrev AMM : Func := Try.f58
theorem BCE : Try.prog.funcs[J1]? = some AMM := Try.func58
abbrev F3 : FuncId := 59
noncomputable abbrev AGK : Func := Try.f59
theorem BAE : Try.prog.funcs[F3]? = some AGK := Try.func59
abbrev I1 : FuncId := 61
noncomputable abbrev eI : Func := Try.f61
theorem AGJ : Try.prog.funcs[I1]? = some eI := Try.func61
abbrev RP : FuncId := 62
noncomputable abbrev ASA : Func := Try.f62
theorem BJI : Try.prog.funcs[RP]? = some ASA := Try.func62
abbrev ATD : FuncId := 63
noncomputable abbrev ATW : Func := Try.f63
theorem BLM : Try.prog.funcs[ATD]? = some ATW := Try.func63
abbrev AHL : FuncId := 64
noncomputable abbrev ASL : Func := Try.f64
theorem BLN : Try.prog.funcs[AHL]? = some ASL := Try.func64
abbrev We : FuncId := 65
noncomputable abbrev dX : Func := Try.f65
theorem AEU : Try.prog.funcs[We]? = some dX := Try.func65
abbrev K2 : FuncId := 66
noncomputable abbrev AEA : Func := Try.f66
theorem AZB : Try.prog.funcs[K2]? = some AEA := Try.func66
abbrev Y1 : FuncId := 67
noncomputable abbrev AUN : Func := Try.f67
theorem BLH : Try.prog.funcs[Y1]? = some AUN := Try.func67
abbrev n_eS : FuncId := 68
noncomputable abbrev F_eS : Func := Try.f68
theorem BNM : Try.prog.funcs[n_eS]? = some F_eS := Try.func68
abbrev ANQ : FuncId := 69
noncomputable abbrev ATA : Func := Try.f69
theorem BKS : Try.prog.funcs[ANQ]? = some ATA := Try.func69
abbrev ALD : FuncId := 70
noncomputable abbrev AON : Func := Try.f70
theorem BDD : Try.prog.funcs[ALD]? = some AON := Try.func70
abbrev AKZ : FuncId := 71
noncomputable abbrev AUT : Func := Try.f71
theorem BLU : Try.prog.funcs[AKZ]? = some AUT := Try.func71
abbrev Ri : FuncId := 72
noncomputable abbrev AGR : Func := Try.f72
theorem AZM : Try.prog.funcs[Ri]? = some AGR := Try.func72
abbrev fR : FuncId := 73
noncomputable abbrev ALM : Func := Try.f73
theorem BGR : Try.prog.funcs[fR]? = some ALM := Try.func73
abbrev BCZ : FuncId := 74
noncomputable abbrev BEA : Func := Try.f74
theorem BQQ : Try.prog.funcs[BCZ]? = some BEA := Try.func74
abbrev AQU : FuncId := 75
noncomputable abbrev BGL : Func := Try.f75
theorem BSM : Try.prog.funcs[AQU]? = some BGL := Try.func75
abbrev BFT : FuncId := 76
noncomputable abbrev BDR : Func := Try.f76
theorem BTA : Try.prog.funcs[BFT]? = some BDR := Try.func76
abbrev ARP : FuncId := 77
noncomputable abbrev BIC : Func := Try.f77
theorem BTQ : Try.prog.funcs[ARP]? = some BIC := Try.func77
abbrev AUY : FuncId := 78
noncomputable abbrev AUG : Func := Try.f78
theorem BLV : Try.prog.funcs[AUY]? = some AUG := Try.func78
abbrev ACC : FuncId := 79
noncomputable abbrev AIA : Func := Try.f79
theorem AUP : Try.prog.funcs[ACC]? = some AIA := Try.func79
abbrev R6 : FuncId := 80
noncomputable abbrev AGN : Func := Try.f80
theorem AXT : Try.prog.funcs[R6]? = some AGN := Try.func80
abbrev AKT : FuncId := 81
noncomputable abbrev ATH : Func := Try.f81
theorem BJP : Try.prog.funcs[AKT]? = some ATH := Try.func81
abbrev ARL : FuncId := 82
noncomputable abbrev AQW : Func := Try.f82
theorem BFB : Try.prog.funcs[ARL]? = some AQW := Try.func82
abbrev J7 : FuncId := 83
noncomputable abbrev AQE : Func := Try.f83
theorem BBX : Try.prog.funcs[J7]? = some AQE := Try.func83
abbrev aT : FuncId := 84
noncomputable abbrev AAQ : Func := Try.f84
theorem ASJ : Try.prog.funcs[aT]? = some AAQ := Try.func84
abbrev n_eN : FuncId := 85
noncomputable abbrev F_eN : Func := Try.f85
theorem BTZ : Try.prog.funcs[n_eN]? = some F_eN := Try.func85
abbrev L6 : FuncId := 86
noncomputable abbrev AFZ : Func := Try.f86
theorem AZX : Try.prog.funcs[L6]? = some AFZ := Try.func86
abbrev ANN : FuncId := 87
noncomputable abbrev ALS : Func := Try.f87
theorem BFL : Try.prog.funcs[ANN]? = some ALS := Try.func87
abbrev ARH : FuncId := 88
noncomputable abbrev ARR : Func := Try.f88
theorem BAM : Try.prog.funcs[ARH]? = some ARR := Try.func88
abbrev rF : FuncId := 89
noncomputable abbrev AHB : Func := Try.f89
theorem AZR : Try.prog.funcs[rF]? = some AHB := Try.func89
abbrev BFS : FuncId := 90
noncomputable abbrev BCK : Func := Try.f90
theorem BTM : Try.prog.funcs[BFS]? = some BCK := Try.func90
abbrev BHN : FuncId := 91
noncomputable abbrev BGQ : Func := Try.f91
theorem BSO : Try.prog.funcs[BHN]? = some BGQ := Try.func91
abbrev ATS : FuncId := 92
noncomputable abbrev AST : Func := Try.f92
theorem BML : Try.prog.funcs[ATS]? = some AST := Try.func92
abbrev AAS : FuncId := 93
noncomputable abbrev AHG : Func := Try.f93
theorem AWQ : Try.prog.funcs[AAS]? = some AHG := Try.func93
abbrev ADZ : FuncId := 96
noncomputable abbrev AGX : Func := Try.f96
theorem BAD : Try.prog.funcs[ADZ]? = some AGX := Try.func96
abbrev P1 : FuncId := 98
noncomputable abbrev T3 : Func := Try.f98
theorem AUD : Try.prog.funcs[P1]? = some T3 := Try.func98
abbrev AMU : FuncId := 100
noncomputable abbrev AMT : Func := Try.f100
theorem BBS : Try.prog.funcs[AMU]? = some AMT := Try.func100
abbrev Sz : FuncId := 102
noncomputable abbrev Qt : Func := Try.f102
theorem S4 : Try.prog.funcs[Sz]? = some Qt := Try.func102
abbrev AQV : FuncId := 103
noncomputable abbrev APC : Func := Try.f103
theorem BFF : Try.prog.funcs[AQV]? = some APC := Try.func103
abbrev ART : FuncId := 104
noncomputable abbrev BBK : Func := Try.f104
theorem BTN : Try.prog.funcs[ART]? = some BBK := Try.func104
abbrev ARK : FuncId := 105
noncomputable abbrev APM : Func := Try.f105
theorem BAK : Try.prog.funcs[ARK]? = some APM := Try.func105
abbrev F6 : FuncId := 107
noncomputable abbrev ADT : Func := Try.f107
theorem BAF : Try.prog.funcs[F6]? = some ADT := Try.func107
abbrev AHI : FuncId := 112
noncomputable abbrev AHJ : Func := Try.f112
theorem AZY : Try.prog.funcs[AHI]? = some AHJ := Try.func112
abbrev AEC : FuncId := 113
noncomputable abbrev AFQ : Func := Try.f113
theorem AZP : Try.prog.funcs[AEC]? = some AFQ := Try.func113
end Go.Bal
