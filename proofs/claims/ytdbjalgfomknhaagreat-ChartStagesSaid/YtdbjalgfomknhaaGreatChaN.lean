/- Functions by name. -/
import Derived.Test.YtdbjalgfomknhaaGreatCom0
set_option linter.unusedVariables false
set_option linter.unusedSimpArgs false
namespace Go.Bal
open Go Go.Sym Go.Proofs
abbrev ACR : FuncId := 3
noncomputable abbrev xD : Func := Tryz.f3
theorem ALT : Try.prog.funcs[ACR]? = some xD := Tryz.func3
abbrev AEQ : FuncId := 38
noncomputable abbrev vV : Func := Tryz.f38
theorem AKC : Try.prog.funcs[AEQ]? = some vV := Tryz.func38
abbrev AFU : FuncId := 23
noncomputable abbrev AEH : Func := Tryz.f23
theorem AYF : Try.prog.funcs[AFU]? = some AEH := Tryz.func23
abbrev AOJ : FuncId := 9
noncomputable abbrev AMB : Func := Tryz.f9
theorem BDR : Try.prog.funcs[AOJ]? = some AMB := Tryz.func9
abbrev L2 : FuncId := 12
noncomputable abbrev vC : Func := Tryz.f12
theorem AIS : Try.prog.funcs[L2]? = some vC := Tryz.func12
abbrev AGH : FuncId := 8
noncomputable abbrev ADY : Func := Tryz.f8
theorem BAV : Try.prog.funcs[AGH]? = some ADY := Tryz.func8
abbrev W8 : FuncId := 33
noncomputable abbrev kT : Func := Tryz.f33
theorem ABY : Try.prog.funcs[W8]? = some kT := Tryz.func33
abbrev AHV : FuncId := 14
noncomputable abbrev V5 : Func := Tryz.f14
theorem ARY : Try.prog.funcs[AHV]? = some V5 := Tryz.func14
abbrev N3 : FuncId := 16
noncomputable abbrev vK : Func := Tryz.f16
theorem AKT : Try.prog.funcs[N3]? = some vK := Tryz.func16
abbrev ADG : FuncId := 35
noncomputable abbrev AGF : Func := Tryz.f35
theorem AVC : Try.prog.funcs[ADG]? = some AGF := Tryz.func35
abbrev AEL : FuncId := 25
noncomputable abbrev AHO : Func := Tryz.f25
theorem AWT : Try.prog.funcs[AEL]? = some AHO := Tryz.func25
abbrev Y6 : FuncId := 29
noncomputable abbrev jF : Func := Tryz.f29
theorem ABZ : Try.prog.funcs[Y6]? = some jF := Tryz.func29
abbrev AEW : FuncId := 10
noncomputable abbrev AEV : Func := Tryz.f10
theorem AWP : Try.prog.funcs[AEW]? = some AEV := Tryz.func10
abbrev Vy : FuncId := 45
noncomputable abbrev rY : Func := Tryz.f45
theorem AGD : Try.prog.funcs[Vy]? = some rY := Tryz.func45
abbrev X9 : FuncId := 67
noncomputable abbrev Vd : Func := Tryz.f67
theorem A2 : Try.prog.funcs[X9]? = some Vd := Tryz.func67
abbrev AIC : FuncId := 43
noncomputable abbrev AEX : Func := Tryz.f43
theorem BBK : Try.prog.funcs[AIC]? = some AEX := Tryz.func43
abbrev AIH : FuncId := 44
noncomputable abbrev AHK : Func := Tryz.f44
theorem AVQ : Try.prog.funcs[AIH]? = some AHK := Tryz.func44
abbrev C5 : FuncId := 46
noncomputable abbrev AOL : Func := Tryz.f46
theorem BGL : Try.prog.funcs[C5]? = some AOL := Tryz.func46
abbrev n_in : FuncId := 47
noncomputable abbrev F_in : Func := Tryz.f47
theorem BPJ : Try.prog.funcs[n_in]? = some F_in := Tryz.func47
abbrev AHS : FuncId := 48
noncomputable abbrev AOV : Func := Tryz.f48
theorem BEP : Try.prog.funcs[AHS]? = some AOV := Tryz.func48
abbrev So : FuncId := 49
noncomputable abbrev qR : Func := Tryz.f49
theorem AJQ : Try.prog.funcs[So]? = some qR := Tryz.func49
abbrev tO : FuncId := 50
noncomputable abbrev O3 : Func := Tryz.f50
theorem ATU : Try.prog.funcs[tO]? = some O3 := Tryz.func50
abbrev tB : FuncId := 51
noncomputable abbrev AID : Func := Tryz.f51
theorem AZI : Try.prog.funcs[tB]? = some AID := Tryz.func51
abbrev AZE : FuncId := 42
noncomputable abbrev BAS : Func := Tryz.f42
theorem BLU : Try.prog.funcs[AZE]? = some BAS := Tryz.func42
abbrev AEB : FuncId := 30
noncomputable abbrev AER : Func := Tryz.f30
theorem AZO : Try.prog.funcs[AEB]? = some AER := Tryz.func30
abbrev N4 : FuncId := 60
noncomputable abbrev AIL : Func := Tryz.f60
theorem AYB : Try.prog.funcs[N4]? = some AIL := Tryz.func60
abbrev L4 : FuncId := 61
noncomputable abbrev AFH : Func := Tryz.f61
theorem BBE : Try.prog.funcs[L4]? = some AFH := Tryz.func61
abbrev AGN : FuncId := 19
noncomputable abbrev AGG : Func := Tryz.f19
theorem BBF : Try.prog.funcs[AGN]? = some AGG := Tryz.func19
abbrev YZ : FuncId := 62
noncomputable abbrev lG : Func := Tryz.f62
theorem ABQ : Try.prog.funcs[YZ]? = some lG := Tryz.func62
abbrev AJD : FuncId := 79
noncomputable abbrev AUQ : Func := Tryz.f79
theorem BMR : Try.prog.funcs[AJD]? = some AUQ := Tryz.func79
abbrev AAD : FuncId := 56
noncomputable abbrev W6 : Func := Tryz.f56
theorem ATO : Try.prog.funcs[AAD]? = some W6 := Tryz.func56
abbrev AFX : FuncId := 57
noncomputable abbrev AFD : Func := Tryz.f57
theorem AYC : Try.prog.funcs[AFX]? = some AFD := Tryz.func57
abbrev fJ : FuncId := 58
noncomputable abbrev Vt : Func := Tryz.f58
theorem H3 : Try.prog.funcs[fJ]? = some Vt := Tryz.func58
abbrev AMN : FuncId := 59
noncomputable abbrev AMZ : Func := Tryz.f59
theorem BDP : Try.prog.funcs[AMN]? = some AMZ := Tryz.func59
abbrev n_eP : FuncId := 71
noncomputable abbrev F_eP : Func := Tryz.f71
theorem BQT : Try.prog.funcs[n_eP]? = some F_eP := Tryz.func71
abbrev AIB : FuncId := 63
noncomputable abbrev AOG : Func := Tryz.f63
theorem BCL : Try.prog.funcs[AIB]? = some AOG := Tryz.func63
abbrev AIP : FuncId := 64
noncomputable abbrev AOU : Func := Tryz.f64
theorem BES : Try.prog.funcs[AIP]? = some AOU := Tryz.func64
abbrev sZ : FuncId := 80
noncomputable abbrev tQ : Func := Tryz.f80
theorem AKO : Try.prog.funcs[sZ]? = some tQ := Tryz.func80
abbrev AFS : FuncId := 83
noncomputable abbrev AFJ : Func := Tryz.f83
theorem AWH : Try.prog.funcs[AFS]? = some AFJ := Tryz.func83
abbrev T7 : FuncId := 84
noncomputable abbrev Z3 : Func := Tryz.f84
theorem ASW : Try.prog.funcs[T7]? = some Z3 := Tryz.func84
abbrev uX : FuncId := 87
noncomputable abbrev AHM : Func := Tryz.f87
theorem AUF : Try.prog.funcs[uX]? = some AHM := Tryz.func87
abbrev uE : FuncId := 88
noncomputable abbrev T3 : Func := Tryz.f88
theorem ATG : Try.prog.funcs[uE]? = some T3 := Tryz.func88
abbrev vA : FuncId := 97
noncomputable abbrev dM : Func := Tryz.f97
theorem V3 : Try.prog.funcs[vA]? = some dM := Tryz.func97
abbrev VS : FuncId := 98
noncomputable abbrev ANP : Func := Tryz.f98
theorem BDT : Try.prog.funcs[VS]? = some ANP := Tryz.func98
abbrev ALQ : FuncId := 99
noncomputable abbrev AMA : Func := Tryz.f99
theorem BGH : Try.prog.funcs[ALQ]? = some AMA := Tryz.func99
abbrev X4 : FuncId := 100
noncomputable abbrev AOS : Func := Tryz.f100
theorem BCV : Try.prog.funcs[X4]? = some AOS := Tryz.func100
abbrev lS : FuncId := 90
noncomputable abbrev tX : Func := Tryz.f90
theorem AKH : Try.prog.funcs[lS]? = some tX := Tryz.func90
abbrev uA : FuncId := 91
noncomputable abbrev O5 : Func := Tryz.f91
theorem ATR : Try.prog.funcs[uA]? = some O5 := Tryz.func91
abbrev yU : FuncId := 92
noncomputable abbrev AOW : Func := Tryz.f92
theorem BFF : Try.prog.funcs[yU]? = some AOW := Tryz.func92
abbrev n_eS : FuncId := 93
noncomputable abbrev F_eS : Func := Tryz.f93
theorem BJK : Try.prog.funcs[n_eS]? = some F_eS := Tryz.func93
abbrev ADO : FuncId := 94
noncomputable abbrev ALS : Func := Tryz.f94
theorem BEO : Try.prog.funcs[ADO]? = some ALS := Tryz.func94
abbrev ADQ : FuncId := 31
noncomputable abbrev AIF : Func := Tryz.f31
theorem BAB : Try.prog.funcs[ADQ]? = some AIF := Tryz.func31
abbrev AGJ : FuncId := 105
noncomputable abbrev ANV : Func := Tryz.f105
theorem BCU : Try.prog.funcs[AGJ]? = some ANV := Tryz.func105
abbrev Ve : FuncId := 95
noncomputable abbrev N6 : Func := Tryz.f95
theorem AST : Try.prog.funcs[Ve]? = some N6 := Tryz.func95
abbrev fW : FuncId := 96
noncomputable abbrev AFM : Func := Tryz.f96
theorem AZC : Try.prog.funcs[fW]? = some AFM := Tryz.func96
abbrev AXB : FuncId := 101
noncomputable abbrev AZH : Func := Tryz.f101
theorem BLI : Try.prog.funcs[AXB]? = some AZH := Tryz.func101
abbrev AJE : FuncId := 102
noncomputable abbrev AXE : Func := Tryz.f102
theorem BLW : Try.prog.funcs[AJE]? = some AXE := Tryz.func102
abbrev AMS : FuncId := 108
noncomputable abbrev ANC : Func := Tryz.f108
theorem BFZ : Try.prog.funcs[AMS]? = some ANC := Tryz.func108
abbrev H4 : FuncId := 112
noncomputable abbrev O0 : Func := Tryz.f112
theorem ALP : Try.prog.funcs[H4]? = some O0 := Tryz.func112
abbrev D0 : FuncId := 113
noncomputable abbrev X5 : Func := Tryz.f113
theorem AQF : Try.prog.funcs[D0]? = some X5 := Tryz.func113
abbrev AHZ : FuncId := 114
noncomputable abbrev AMO : Func := Tryz.f114
theorem BDN : Try.prog.funcs[AHZ]? = some AMO := Tryz.func114
abbrev AJM : FuncId := 110
noncomputable abbrev AKZ : Func := Tryz.f110
theorem AWM : Try.prog.funcs[AJM]? = some AKZ := Tryz.func110
abbrev uM : FuncId := 111
noncomputable abbrev AKA : Func := Tryz.f111
theorem AZK : Try.prog.funcs[uM]? = some AKA := Tryz.func111
abbrev bY : FuncId := 72
noncomputable abbrev xE : Func := Tryz.f72
theorem ALY : Try.prog.funcs[bY]? = some xE := Tryz.func72
abbrev n_eN : FuncId := 73
noncomputable abbrev F_eN : Func := Tryz.f73
theorem BQK : Try.prog.funcs[n_eN]? = some F_eN := Tryz.func73
abbrev tL : FuncId := 74
noncomputable abbrev Q2 : Func := Tryz.f74
theorem ASX : Try.prog.funcs[tL]? = some Q2 := Tryz.func74
abbrev ADF : FuncId := 75
noncomputable abbrev AEZ : Func := Tryz.f75
theorem BBQ : Try.prog.funcs[ADF]? = some AEZ := Tryz.func75
abbrev AKF : FuncId := 76
noncomputable abbrev AKN : Func := Tryz.f76
theorem BBR : Try.prog.funcs[AKF]? = some AKN := Tryz.func76
abbrev kY : FuncId := 77
noncomputable abbrev S8 : Func := Tryz.f77
theorem ASJ : Try.prog.funcs[kY]? = some S8 := Tryz.func77
abbrev AVM : FuncId := 115
noncomputable abbrev BAL : Func := Tryz.f115
theorem BOB : Try.prog.funcs[AVM]? = some BAL := Tryz.func115
abbrev ANA : FuncId := 117
noncomputable abbrev ANK : Func := Tryz.f117
theorem BDV : Try.prog.funcs[ANA]? = some ANK := Tryz.func117
abbrev vZ : FuncId := 119
noncomputable abbrev W3 : Func := Tryz.f119
theorem ASB : Try.prog.funcs[vZ]? = some W3 := Tryz.func119
abbrev Y1 : FuncId := 122
noncomputable abbrev T4 : Func := Tryz.f122
theorem ASS : Try.prog.funcs[Y1]? = some T4 := Tryz.func122
abbrev yV : FuncId := 124
noncomputable abbrev D3 : Func := Tryz.f124
theorem ANM : Try.prog.funcs[yV]? = some D3 := Tryz.func124
abbrev AIQ : FuncId := 126
noncomputable abbrev ADP : Func := Tryz.f126
theorem BAO : Try.prog.funcs[AIQ]? = some ADP := Tryz.func126
abbrev Ut : FuncId := 128
noncomputable abbrev Uq : Func := Tryz.f128
theorem wJ : Try.prog.funcs[Ut]? = some Uq := Tryz.func128
abbrev AKP : FuncId := 118
noncomputable abbrev AKI : Func := Tryz.f118
theorem AYI : Try.prog.funcs[AKP]? = some AKI := Tryz.func118
abbrev AJK : FuncId := 103
noncomputable abbrev AYV : Func := Tryz.f103
theorem BML : Try.prog.funcs[AJK]? = some AYV := Tryz.func103
abbrev ALK : FuncId := 104
noncomputable abbrev ALD : Func := Tryz.f104
theorem BAW : Try.prog.funcs[ALK]? = some ALD := Tryz.func104
abbrev tM : FuncId := 130
noncomputable abbrev Q8 : Func := Tryz.f130
theorem ASQ : Try.prog.funcs[tM]? = some Q8 := Tryz.func130
abbrev Q9 : FuncId := 135
noncomputable abbrev Q4 : Func := Tryz.f135
theorem ASV : Try.prog.funcs[Q9]? = some Q4 := Tryz.func135
abbrev Y8 : FuncId := 136
noncomputable abbrev Q3 : Func := Tryz.f136
theorem ASY : Try.prog.funcs[Y8]? = some Q3 := Tryz.func136
end Go.Bal
