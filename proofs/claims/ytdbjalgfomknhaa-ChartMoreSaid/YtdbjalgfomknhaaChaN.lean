/- Functions by name. -/
import Derived.Test.YtdbjalgfomknhaaCom0
set_option linter.unusedVariables false
set_option linter.unusedSimpArgs false
namespace Go.Bal
open Go Go.Sym Go.Proofs
abbrev CVV : FuncId := 3
noncomputable abbrev P8 : Func := Try.f3
theorem COA : Try.prog.funcs[CVV]? = some P8 := Try.func3
abbrev CRZ : FuncId := 10
noncomputable abbrev CSJ : Func := Try.f10
theorem DIN : Try.prog.funcs[CRZ]? = some CSJ := Try.func10
abbrev DCZ : FuncId := 11
noncomputable abbrev CZN : Func := Try.f11
theorem DOH : Try.prog.funcs[DCZ]? = some CZN := Try.func11
abbrev BHF : FuncId := 12
noncomputable abbrev ABL : Func := Try.f12
theorem CPM : Try.prog.funcs[BHF]? = some ABL := Try.func12
abbrev BHQ : FuncId := 13
noncomputable abbrev CJJ : Func := Try.f13
theorem DFK : Try.prog.funcs[BHQ]? = some CJJ := Try.func13
abbrev BJZ : FuncId := 14
noncomputable abbrev G8 : Func := Try.f14
theorem CFU : Try.prog.funcs[BJZ]? = some G8 := Try.func14
abbrev BXN : FuncId := 15
noncomputable abbrev CQO : Func := Try.f15
theorem DHL : Try.prog.funcs[BXN]? = some CQO := Try.func15
abbrev sH : FuncId := 16
noncomputable abbrev C4 : Func := Try.f16
theorem COP : Try.prog.funcs[sH]? = some C4 := Try.func16
abbrev CSQ : FuncId := 17
noncomputable abbrev CSB : Func := Try.f17
theorem DIA : Try.prog.funcs[CSQ]? = some CSB := Try.func17
abbrev BJC : FuncId := 18
noncomputable abbrev AAI : Func := Try.f18
theorem CNJ : Try.prog.funcs[BJC]? = some AAI := Try.func18
abbrev CFQ : FuncId := 19
noncomputable abbrev CHS : Func := Try.f19
theorem DBD : Try.prog.funcs[CFQ]? = some CHS := Try.func19
abbrev BSC : FuncId := 20
noncomputable abbrev Rr : Func := Try.f20
theorem CCI : Try.prog.funcs[BSC]? = some Rr := Try.func20
abbrev CSM : FuncId := 21
noncomputable abbrev BRG : Func := Try.f21
theorem CUE : Try.prog.funcs[CSM]? = some BRG := Try.func21
abbrev CKG : FuncId := 22
noncomputable abbrev ABP : Func := Try.f22
theorem CNN : Try.prog.funcs[CKG]? = some ABP := Try.func22
abbrev CER : FuncId := 23
noncomputable abbrev CHB : Func := Try.f23
theorem CYI : Try.prog.funcs[CER]? = some CHB := Try.func23
abbrev CDM : FuncId := 24
noncomputable abbrev CMB : Func := Try.f24
theorem DFJ : Try.prog.funcs[CDM]? = some CMB := Try.func24
abbrev BZV : FuncId := 26
noncomputable abbrev Vw : Func := Try.f26
theorem CBW : Try.prog.funcs[BZV]? = some Vw := Try.func26
abbrev BVT : FuncId := 31
noncomputable abbrev BQV : Func := Try.f31
theorem CWQ : Try.prog.funcs[BVT]? = some BQV := Try.func31
abbrev VV : FuncId := 32
noncomputable abbrev yS : Func := Try.f32
theorem CKA : Try.prog.funcs[VV]? = some yS := Try.func32
abbrev BPM : FuncId := 33
noncomputable abbrev VC : Func := Try.f33
theorem AMR : Try.prog.funcs[BPM]? = some VC := Try.func33
abbrev Ii : FuncId := 34
noncomputable abbrev CIN : Func := Try.f34
theorem DDX : Try.prog.funcs[Ii]? = some CIN := Try.func34
abbrev PH : FuncId := 35
noncomputable abbrev He : Func := Try.f35
theorem BUL : Try.prog.funcs[PH]? = some He := Try.func35
-- none: nilometer/nilometerkit.Copy[nilometer/chart.Pair]
abbrev AYF : FuncId := 36
noncomputable abbrev CQV : Func := Try.f36
theorem DHY : Try.prog.funcs[AYF]? = some CQV := Try.func36
abbrev n_in : FuncId := 37
noncomputable abbrev F_in : Func := Try.f37
theorem DSG : Try.prog.funcs[n_in]? = some F_in := Try.func37
abbrev CIP : FuncId := 38
noncomputable abbrev CTB : Func := Try.f38
theorem DHC : Try.prog.funcs[CIP]? = some CTB := Try.func38
abbrev UU : FuncId := 39
noncomputable abbrev uV : Func := Try.f39
theorem COJ : Try.prog.funcs[UU]? = some uV := Try.func39
abbrev ACV : FuncId := 40
noncomputable abbrev BYL : Func := Try.f40
theorem CXQ : Try.prog.funcs[ACV]? = some BYL := Try.func40
abbrev P5 : FuncId := 41
noncomputable abbrev CJV : Func := Try.f41
theorem DCD : Try.prog.funcs[P5]? = some CJV := Try.func41
abbrev DAA : FuncId := 42
noncomputable abbrev CXW : Func := Try.f42
theorem DNE : Try.prog.funcs[DAA]? = some CXW := Try.func42
abbrev CLC : FuncId := 43
noncomputable abbrev CFL : Func := Try.f43
theorem DCI : Try.prog.funcs[CLC]? = some CFL := Try.func43
-- none: nilometer/nilometerkit.Same[nilometer/chart.Mark]
-- none: nilometer/nilometerkit.Same[nilometer/chart.Note]
-- none: nilometer/nilometerkit.Same[int]
abbrev HG : FuncId := 44
noncomputable abbrev Qx : Func := Try.f44
theorem CBN : Try.prog.funcs[HG]? = some Qx := Try.func44
abbrev CPK : FuncId := 45
noncomputable abbrev DAD : Func := Try.f45
theorem DPO : Try.prog.funcs[CPK]? = some DAD := Try.func45
abbrev BOM : FuncId := 46
noncomputable abbrev BUS : Func := Try.f46
theorem CWY : Try.prog.funcs[BOM]? = some BUS := Try.func46
abbrev CME : FuncId := 47
noncomputable abbrev CLZ : Func := Try.f47
theorem DAN : Try.prog.funcs[CME]? = some CLZ := Try.func47
abbrev Jp : FuncId := 48
noncomputable abbrev WZ : Func := Try.f48
theorem BFM : Try.prog.funcs[Jp]? = some WZ := Try.func48
abbrev CQH : FuncId := 49
noncomputable abbrev CTF : Func := Try.f49
theorem DIZ : Try.prog.funcs[CQH]? = some CTF := Try.func49
abbrev n_eP : FuncId := 50
noncomputable abbrev F_eP : Func := Try.f50
theorem DSQ : Try.prog.funcs[n_eP]? = some F_eP := Try.func50
abbrev CDG : FuncId := 51
noncomputable abbrev CQM : Func := Try.f51
theorem DFS : Try.prog.funcs[CDG]? = some CQM := Try.func51
abbrev CKU : FuncId := 52
noncomputable abbrev CRF : Func := Try.f52
theorem DHB : Try.prog.funcs[CKU]? = some CRF := Try.func52
abbrev ADU : FuncId := 53
noncomputable abbrev ADA : Func := Try.f53
theorem CNK : Try.prog.funcs[ADU]? = some ADA := Try.func53
abbrev CKS : FuncId := 56
noncomputable abbrev CEL : Func := Try.f56
theorem DDR : Try.prog.funcs[CKS]? = some CEL := Try.func56
abbrev BOH : FuncId := 57
noncomputable abbrev BUI : Func := Try.f57
theorem CXP : Try.prog.funcs[BOH]? = some BUI := Try.func57
abbrev P6 : FuncId := 58
noncomputable abbrev CKO : Func := Try.f58
theorem DCT : Try.prog.funcs[P6]? = some CKO := Try.func58
abbrev ABN : FuncId := 59
noncomputable abbrev BQF : Func := Try.f59
theorem CXG : Try.prog.funcs[ABN]? = some BQF := Try.func59
abbrev AEZ : FuncId := 61
noncomputable abbrev Q2 : Func := Try.f61
theorem CNI : Try.prog.funcs[AEZ]? = some Q2 := Try.func61
abbrev RG : FuncId := 62
noncomputable abbrev CSD : Func := Try.f62
theorem DGD : Try.prog.funcs[RG]? = some CSD := Try.func62
abbrev CSA : FuncId := 63
noncomputable abbrev CSN : Func := Try.f63
theorem DGO : Try.prog.funcs[CSA]? = some CSN := Try.func63
abbrev BRU : FuncId := 64
noncomputable abbrev CRS : Func := Try.f64
theorem DIX : Try.prog.funcs[BRU]? = some CRS := Try.func64
abbrev pH : FuncId := 65
noncomputable abbrev AEC : Func := Try.f65
theorem COC : Try.prog.funcs[pH]? = some AEC := Try.func65
abbrev ABJ : FuncId := 66
noncomputable abbrev BNQ : Func := Try.f66
theorem CXV : Try.prog.funcs[ABJ]? = some BNQ := Try.func66
abbrev AKG : FuncId := 67
noncomputable abbrev CRA : Func := Try.f67
theorem DFZ : Try.prog.funcs[AKG]? = some CRA := Try.func67
abbrev n_eS : FuncId := 68
noncomputable abbrev F_eS : Func := Try.f68
theorem DLT : Try.prog.funcs[n_eS]? = some F_eS := Try.func68
abbrev CGL : FuncId := 69
noncomputable abbrev CSH : Func := Try.f69
theorem DGC : Try.prog.funcs[CGL]? = some CSH := Try.func69
abbrev CMS : FuncId := 70
noncomputable abbrev CLN : Func := Try.f70
theorem DAE : Try.prog.funcs[CMS]? = some CLN := Try.func70
abbrev CDY : FuncId := 71
noncomputable abbrev CQP : Func := Try.f71
theorem DHE : Try.prog.funcs[CDY]? = some CQP := Try.func71
abbrev WK : FuncId := 72
noncomputable abbrev BVE : Func := Try.f72
theorem CXS : Try.prog.funcs[WK]? = some BVE := Try.func72
abbrev Kw : FuncId := 73
noncomputable abbrev CJL : Func := Try.f73
theorem DCO : Try.prog.funcs[Kw]? = some CJL := Try.func73
abbrev DCE : FuncId := 74
noncomputable abbrev DEI : Func := Try.f74
theorem DPK : Try.prog.funcs[DCE]? = some DEI := Try.func74
abbrev CNU : FuncId := 75
noncomputable abbrev DEB : Func := Try.f75
theorem DNN : Try.prog.funcs[CNU]? = some DEB := Try.func75
abbrev CRT : FuncId := 78
noncomputable abbrev CTE : Func := Try.f78
theorem DHU : Try.prog.funcs[CRT]? = some CTE := Try.func78
abbrev CBZ : FuncId := 79
noncomputable abbrev CPF : Func := Try.f79
theorem CYT : Try.prog.funcs[CBZ]? = some CPF := Try.func79
abbrev CDI : FuncId := 80
noncomputable abbrev CQY : Func := Try.f80
theorem DHA : Try.prog.funcs[CDI]? = some CQY := Try.func80
abbrev CKB : FuncId := 81
noncomputable abbrev CSS : Func := Try.f81
theorem DGN : Try.prog.funcs[CKB]? = some CSS := Try.func81
abbrev CPV : FuncId := 82
noncomputable abbrev CNB : Func := Try.f82
theorem CYH : Try.prog.funcs[CPV]? = some CNB := Try.func82
abbrev V3 : FuncId := 83
noncomputable abbrev COL : Func := Try.f83
theorem DCM : Try.prog.funcs[V3]? = some COL := Try.func83
abbrev Bk : FuncId := 84
noncomputable abbrev ALE : Func := Try.f84
theorem CSE : Try.prog.funcs[Bk]? = some ALE := Try.func84
abbrev n_eN : FuncId := 85
noncomputable abbrev F_eN : Func := Try.f85
theorem DRB : Try.prog.funcs[n_eN]? = some F_eN := Try.func85
abbrev Y6 : FuncId := 86
noncomputable abbrev BVS : Func := Try.f86
theorem CWW : Try.prog.funcs[Y6]? = some BVS := Try.func86
abbrev CDR : FuncId := 87
noncomputable abbrev CMD : Func := Try.f87
theorem DEY : Try.prog.funcs[CDR]? = some CMD := Try.func87
abbrev CPC : FuncId := 88
noncomputable abbrev COO : Func := Try.f88
theorem CYJ : Try.prog.funcs[CPC]? = some COO := Try.func88
abbrev bO : FuncId := 89
noncomputable abbrev BNO : Func := Try.f89
theorem CXD : Try.prog.funcs[bO]? = some BNO := Try.func89
abbrev DCA : FuncId := 90
noncomputable abbrev CYG : Func := Try.f90
theorem DPA : Try.prog.funcs[DCA]? = some CYG := Try.func90
abbrev CQS : FuncId := 92
noncomputable abbrev CSG : Func := Try.f92
theorem DGZ : Try.prog.funcs[CQS]? = some CSG := Try.func92
abbrev AIU : FuncId := 93
noncomputable abbrev BRI : Func := Try.f93
theorem CTJ : Try.prog.funcs[AIU]? = some BRI := Try.func93
abbrev U7 : FuncId := 102
noncomputable abbrev BKE : Func := Try.f102
theorem CXR : Try.prog.funcs[U7]? = some BKE := Try.func102
abbrev CNG : FuncId := 103
noncomputable abbrev CNP : Func := Try.f103
theorem CYK : Try.prog.funcs[CNG]? = some CNP := Try.func103
abbrev COY : FuncId := 104
noncomputable abbrev CXY : Func := Try.f104
theorem DMY : Try.prog.funcs[COY]? = some CXY := Try.func104
abbrev CNW : FuncId := 105
noncomputable abbrev COE : Func := Try.f105
theorem DDW : Try.prog.funcs[CNW]? = some COE := Try.func105
abbrev ABB : FuncId := 107
noncomputable abbrev BWH : Func := Try.f107
theorem CWX : Try.prog.funcs[ABB]? = some BWH := Try.func107
end Go.Bal
