/- Functions by name. -/
import Derived.Test.YtdbjalgfomknhaaCom0
set_option linter.unusedVariables false
set_option linter.unusedSimpArgs false
namespace Go.Bal
open Go Go.Sym Go.Proofs
abbrev BTX : FuncId := 9
noncomputable abbrev vW : Func := Try.f9
theorem CPZ : Try.prog.funcs[BTX]? = some vW := Try.func9
-- none: nilometer/nilometerlaw02.ChartTimes
-- none: nilometer/nilometerlaw02.ChartStops
-- none: nilometer/nilometerlaw02.ChartStages
-- none: nilometer/nilometerlaw02.ChartSmall
abbrev CTY : FuncId := 10
noncomputable abbrev CVC : Func := Try.f10
theorem DLZ : Try.prog.funcs[CTY]? = some CVC := Try.func10
abbrev DEI : FuncId := 11
noncomputable abbrev DBN : Func := Try.f11
theorem DPR : Try.prog.funcs[DEI]? = some DBN := Try.func11
abbrev BKT : FuncId := 12
noncomputable abbrev AIR : Func := Try.f12
theorem CRA : Try.prog.funcs[BKT]? = some AIR := Try.func12
abbrev CJU : FuncId := 13
noncomputable abbrev CML : Func := Try.f13
theorem DCJ : Try.prog.funcs[CJU]? = some CML := Try.func13
abbrev CFG : FuncId := 15
noncomputable abbrev CTZ : Func := Try.f15
theorem DJF : Try.prog.funcs[CFG]? = some CTZ := Try.func15
abbrev CTP : FuncId := 17
noncomputable abbrev CUE : Func := Try.f17
theorem DLF : Try.prog.funcs[CTP]? = some CUE := Try.func17
abbrev CKW : FuncId := 18
noncomputable abbrev ADI : Func := Try.f18
theorem CRY : Try.prog.funcs[CKW]? = some ADI := Try.func18
abbrev CIX : FuncId := 19
noncomputable abbrev CGZ : Func := Try.f19
theorem DCW : Try.prog.funcs[CIX]? = some CGZ := Try.func19
abbrev AGL : FuncId := 20
noncomputable abbrev Tv : Func := Try.f20
theorem CEI : Try.prog.funcs[AGL]? = some Tv := Try.func20
abbrev CUA : FuncId := 21
noncomputable abbrev CBT : Func := Try.f21
theorem CYY : Try.prog.funcs[CUA]? = some CBT := Try.func21
abbrev CPF : FuncId := 22
noncomputable abbrev ABI : Func := Try.f22
theorem CQG : Try.prog.funcs[CPF]? = some ABI := Try.func22
abbrev CON : FuncId := 23
noncomputable abbrev COQ : Func := Try.f23
theorem DFB : Try.prog.funcs[CON]? = some COQ := Try.func23
abbrev CNC : FuncId := 24
noncomputable abbrev CHB : Func := Try.f24
theorem DFS : Try.prog.funcs[CNC]? = some CHB := Try.func24
abbrev BYE : FuncId := 26
noncomputable abbrev Wm : Func := Try.f26
theorem CDU : Try.prog.funcs[BYE]? = some Wm := Try.func26
abbrev ABY : FuncId := 29
noncomputable abbrev AAE : Func := Try.f29
theorem CRE : Try.prog.funcs[ABY]? = some AAE := Try.func29
abbrev AFM : FuncId := 30
noncomputable abbrev Qq : Func := Try.f30
theorem CDY : Try.prog.funcs[AFM]? = some Qq := Try.func30
abbrev CCS : FuncId := 31
noncomputable abbrev BXM : Func := Try.f31
theorem DAH : Try.prog.funcs[CCS]? = some BXM := Try.func31
abbrev WL : FuncId := 32
noncomputable abbrev E5 : Func := Try.f32
theorem CKK : Try.prog.funcs[WL]? = some E5 := Try.func32
abbrev BVW : FuncId := 33
noncomputable abbrev XQ : Func := Try.f33
theorem BAH : Try.prog.funcs[BVW]? = some XQ := Try.func33
abbrev AMH : FuncId := 36
noncomputable abbrev CVS : Func := Try.f36
theorem DKJ : Try.prog.funcs[AMH]? = some CVS := Try.func36
abbrev sZ : FuncId := 37
noncomputable abbrev F_in : Func := Try.f37
theorem DUO : Try.prog.funcs[sZ]? = some F_in := Try.func37
abbrev AWB : FuncId := 38
noncomputable abbrev CWC : Func := Try.f38
theorem DKK : Try.prog.funcs[AWB]? = some CWC := Try.func38
abbrev HN : FuncId := 39
noncomputable abbrev XU : Func := Try.f39
theorem BHT : Try.prog.funcs[HN]? = some XU := Try.func39
abbrev AEP : FuncId := 40
noncomputable abbrev BZA : Func := Try.f40
theorem DAE : Try.prog.funcs[AEP]? = some BZA := Try.func40
abbrev AEO : FuncId := 41
noncomputable abbrev CHS : Func := Try.f41
theorem DFA : Try.prog.funcs[AEO]? = some CHS := Try.func41
abbrev DEA : FuncId := 42
noncomputable abbrev DHA : Func := Try.f42
theorem DQW : Try.prog.funcs[DEA]? = some DHA := Try.func42
abbrev CLJ : FuncId := 43
noncomputable abbrev CIN : Func := Try.f43
theorem DFJ : Try.prog.funcs[CLJ]? = some CIN := Try.func43
-- none: nilometer/nilometerkit.Same[nilometer/chart.Mark]
-- none: nilometer/nilometerkit.Same[nilometer/chart.Note]
-- none: nilometer/nilometerkit.Same[int]
abbrev HW : FuncId := 44
noncomputable abbrev cG : Func := Try.f44
theorem CDX : Try.prog.funcs[HW]? = some cG := Try.func44
abbrev CEG : FuncId := 45
noncomputable abbrev DEH : Func := Try.f45
theorem DRI : Try.prog.funcs[CEG]? = some DEH := Try.func45
abbrev CBR : FuncId := 46
noncomputable abbrev BQE : Func := Try.f46
theorem DAG : Try.prog.funcs[CBR]? = some BQE := Try.func46
abbrev CIS : FuncId := 47
noncomputable abbrev CHY : Func := Try.f47
theorem DHC : Try.prog.funcs[CIS]? = some CHY := Try.func47
abbrev Pd : FuncId := 48
noncomputable abbrev XE : Func := Try.f48
theorem BHO : Try.prog.funcs[Pd]? = some XE := Try.func48
abbrev CTS : FuncId := 49
noncomputable abbrev CSX : Func := Try.f49
theorem DJS : Try.prog.funcs[CTS]? = some CSX := Try.func49
abbrev n_eP : FuncId := 50
noncomputable abbrev F_eP : Func := Try.f50
theorem DUJ : Try.prog.funcs[n_eP]? = some F_eP := Try.func50
abbrev CNY : FuncId := 51
noncomputable abbrev CVQ : Func := Try.f51
theorem DJV : Try.prog.funcs[CNY]? = some CVQ := Try.func51
abbrev COB : FuncId := 52
noncomputable abbrev CUT : Func := Try.f52
theorem DKS : Try.prog.funcs[COB]? = some CUT := Try.func52
abbrev RZ : FuncId := 53
noncomputable abbrev AGO : Func := Try.f53
theorem CSC : Try.prog.funcs[RZ]? = some AGO := Try.func53
abbrev n_eI : FuncId := 54
noncomputable abbrev F_eI : Func := Try.f54
theorem DUW : Try.prog.funcs[n_eI]? = some F_eI := Try.func54
abbrev ADD : FuncId := 55
noncomputable abbrev BZQ : Func := Try.f55
theorem CZS : Try.prog.funcs[ADD]? = some BZQ := Try.func55
abbrev AIG : FuncId := 56
noncomputable abbrev CEU : Func := Try.f56
theorem DHD : Try.prog.funcs[AIG]? = some CEU := Try.func56
abbrev Sw : FuncId := 57
noncomputable abbrev BZX : Func := Try.f57
theorem DAK : Try.prog.funcs[Sw]? = some BZX := Try.func57
abbrev Ap : FuncId := 58
noncomputable abbrev ADK : Func := Try.f58
theorem CSF : Try.prog.funcs[Ap]? = some ADK := Try.func58
abbrev Gx : FuncId := 59
noncomputable abbrev BSL : Func := Try.f59
theorem CZV : Try.prog.funcs[Gx]? = some BSL := Try.func59
abbrev Y9 : FuncId := 60
noncomputable abbrev Tm : Func := Try.f60
theorem CEJ : Try.prog.funcs[Y9]? = some Tm := Try.func60
abbrev AJB : FuncId := 61
noncomputable abbrev AJK : Func := Try.f61
theorem CQM : Try.prog.funcs[AJB]? = some AJK := Try.func61
abbrev RJ : FuncId := 62
noncomputable abbrev CVF : Func := Try.f62
theorem DLD : Try.prog.funcs[RJ]? = some CVF := Try.func62
abbrev CSP : FuncId := 63
noncomputable abbrev CSV : Func := Try.f63
theorem DKP : Try.prog.funcs[CSP]? = some CSV := Try.func63
abbrev BSP : FuncId := 64
noncomputable abbrev CVH : Func := Try.f64
theorem DKM : Try.prog.funcs[BSP]? = some CVH := Try.func64
abbrev LW : FuncId := 65
noncomputable abbrev RY : Func := Try.f65
theorem cE : Try.prog.funcs[LW]? = some RY := Try.func65
abbrev AIA : FuncId := 66
noncomputable abbrev BRM : Func := Try.f66
theorem DAT : Try.prog.funcs[AIA]? = some BRM := Try.func66
abbrev AUZ : FuncId := 67
noncomputable abbrev CSZ : Func := Try.f67
theorem DLI : Try.prog.funcs[AUZ]? = some CSZ := Try.func67
abbrev n_eS : FuncId := 68
noncomputable abbrev F_eS : Func := Try.f68
theorem DMX : Try.prog.funcs[n_eS]? = some F_eS := Try.func68
abbrev CNK : FuncId := 69
noncomputable abbrev CVK : Func := Try.f69
theorem DMC : Try.prog.funcs[CNK]? = some CVK := Try.func69
abbrev CHD : FuncId := 70
noncomputable abbrev COX : Func := Try.f70
theorem DCG : Try.prog.funcs[CHD]? = some COX := Try.func70
abbrev CFN : FuncId := 71
noncomputable abbrev CVN : Func := Try.f71
theorem DJY : Try.prog.funcs[CFN]? = some CVN := Try.func71
abbrev WJ : FuncId := 72
noncomputable abbrev BRF : Func := Try.f72
theorem DAL : Try.prog.funcs[WJ]? = some BRF := Try.func72
abbrev Pc : FuncId := 73
noncomputable abbrev CHR : Func := Try.f73
theorem DBD : Try.prog.funcs[Pc]? = some CHR := Try.func73
abbrev DEL : FuncId := 74
noncomputable abbrev DFN : Func := Try.f74
theorem DRK : Try.prog.funcs[DEL]? = some DFN := Try.func74
abbrev CSL : FuncId := 75
noncomputable abbrev DEF : Func := Try.f75
theorem DPY : Try.prog.funcs[CSL]? = some DEF := Try.func75
abbrev DGL : FuncId := 76
noncomputable abbrev DBZ : Func := Try.f76
theorem DPP : Try.prog.funcs[DGL]? = some DBZ := Try.func76
abbrev CQJ : FuncId := 77
noncomputable abbrev DEC : Func := Try.f77
theorem DPJ : Try.prog.funcs[CQJ]? = some DEC := Try.func77
abbrev CVX : FuncId := 78
noncomputable abbrev CVR : Func := Try.f78
theorem DKW : Try.prog.funcs[CVX]? = some CVR := Try.func78
abbrev CEN : FuncId := 79
noncomputable abbrev CRV : Func := Try.f79
theorem DCK : Try.prog.funcs[CEN]? = some CRV := Try.func79
abbrev CGA : FuncId := 80
noncomputable abbrev CTO : Func := Try.f80
theorem DIV : Try.prog.funcs[CGA]? = some CTO := Try.func80
abbrev CEY : FuncId := 81
noncomputable abbrev CTB : Func := Try.f81
theorem DMB : Try.prog.funcs[CEY]? = some CTB := Try.func81
abbrev CPU : FuncId := 82
noncomputable abbrev CQI : Func := Try.f82
theorem DGH : Try.prog.funcs[CPU]? = some CQI := Try.func82
abbrev AFS : FuncId := 83
noncomputable abbrev CRI : Func := Try.f83
theorem DBL : Try.prog.funcs[AFS]? = some CRI := Try.func83
abbrev In : FuncId := 84
noncomputable abbrev ARR : Func := Try.f84
theorem CUF : Try.prog.funcs[In]? = some ARR := Try.func84
abbrev n_eN : FuncId := 85
noncomputable abbrev F_eN : Func := Try.f85
theorem DSR : Try.prog.funcs[n_eN]? = some F_eN := Try.func85
abbrev AHR : FuncId := 86
noncomputable abbrev BTH : Func := Try.f86
theorem CZR : Try.prog.funcs[AHR]? = some BTH := Try.func86
abbrev CNL : FuncId := 87
noncomputable abbrev COC : Func := Try.f87
theorem DFR : Try.prog.funcs[CNL]? = some COC := Try.func87
abbrev CPX : FuncId := 88
noncomputable abbrev CRF : Func := Try.f88
theorem DDK : Try.prog.funcs[CPX]? = some CRF := Try.func88
abbrev Vc : FuncId := 89
noncomputable abbrev BMM : Func := Try.f89
theorem DAW : Try.prog.funcs[Vc]? = some BMM := Try.func89
abbrev DCA : FuncId := 90
noncomputable abbrev DCV : Func := Try.f90
theorem DSG : Try.prog.funcs[DCA]? = some DCV := Try.func90
abbrev DBR : FuncId := 91
noncomputable abbrev DBS : Func := Try.f91
theorem DPX : Try.prog.funcs[DBR]? = some DBS := Try.func91
abbrev CTJ : FuncId := 92
noncomputable abbrev CVJ : Func := Try.f92
theorem DJG : Try.prog.funcs[CTJ]? = some CVJ := Try.func92
abbrev BBV : FuncId := 93
noncomputable abbrev BRK : Func := Try.f93
theorem CXL : Try.prog.funcs[BBV]? = some BRK := Try.func93
abbrev Z9 : FuncId := 102
noncomputable abbrev BWX : Func := Try.f102
theorem DAB : Try.prog.funcs[Z9]? = some BWX := Try.func102
abbrev CPO : FuncId := 103
noncomputable abbrev CQV : Func := Try.f103
theorem DFU : Try.prog.funcs[CPO]? = some CQV := Try.func103
abbrev CSB : FuncId := 104
noncomputable abbrev DFV : Func := Try.f104
theorem DSD : Try.prog.funcs[CSB]? = some DFV := Try.func104
abbrev CSI : FuncId := 105
noncomputable abbrev CSH : Func := Try.f105
theorem DEN : Try.prog.funcs[CSI]? = some CSH := Try.func105
abbrev AGV : FuncId := 107
noncomputable abbrev BUA : Func := Try.f107
theorem CZX : Try.prog.funcs[AGV]? = some BUA := Try.func107
end Go.Bal
