/- Functions by name. -/
import Derived.Test.YtoihhodbkimedaaCom0
set_option linter.unusedVariables false
set_option linter.unusedSimpArgs false
namespace Go.Bal
open Go Go.Sym Go.Proofs
abbrev J5 : FuncId := 35
noncomputable abbrev F_in : Func := Try.f35
theorem CNL : Try.prog.funcs[J5]? = some F_in := Try.func35
abbrev n_eG : FuncId := 74
noncomputable abbrev F_eG : Func := Try.f74
theorem CIE : Try.prog.funcs[n_eG]? = some F_eG := Try.func74
abbrev n_eI : FuncId := 76
noncomputable abbrev F_eI : Func := Try.f76
theorem CPE : Try.prog.funcs[n_eI]? = some F_eI := Try.func76
abbrev vD : FuncId := 94
noncomputable abbrev BKP : Func := Try.f94
theorem CBR : Try.prog.funcs[vD]? = some BKP := Try.func94
abbrev BKV : FuncId := 96
noncomputable abbrev BYF : Func := Try.f96
theorem CMA : Try.prog.funcs[BKV]? = some BYF := Try.func96
abbrev BLQ : FuncId := 93
noncomputable abbrev BKT : Func := Try.f93
theorem CCN : Try.prog.funcs[BLQ]? = some BKT := Try.func93
abbrev BXM : FuncId := 95
noncomputable abbrev CCI : Func := Try.f95
theorem CLS : Try.prog.funcs[BXM]? = some CCI := Try.func95
abbrev BJL : FuncId := 106
noncomputable abbrev BKN : Func := Try.f106
theorem BVX : Try.prog.funcs[BJL]? = some BKN := Try.func106
abbrev CCD : FuncId := 107
noncomputable abbrev BWI : Func := Try.f107
theorem CKO : Try.prog.funcs[CCD]? = some BWI := Try.func107
abbrev BTI : FuncId := 75
noncomputable abbrev BVQ : Func := Try.f75
theorem CKA : Try.prog.funcs[BTI]? = some BVQ := Try.func75
abbrev BTK : FuncId := 88
noncomputable abbrev BXA : Func := Try.f88
theorem CKM : Try.prog.funcs[BTK]? = some BXA := Try.func88
abbrev BKJ : FuncId := 64
noncomputable abbrev BWC : Func := Try.f64
theorem CLF : Try.prog.funcs[BKJ]? = some BWC := Try.func64
abbrev tW : FuncId := 49
noncomputable abbrev BEK : Func := Try.f49
theorem CCO : Try.prog.funcs[tW]? = some BEK := Try.func49
abbrev ASR : FuncId := 62
noncomputable abbrev APF : Func := Try.f62
theorem BVI : Try.prog.funcs[ASR]? = some APF := Try.func62
abbrev nG : FuncId := 109
noncomputable abbrev Yq : Func := Try.f109
theorem BJU : Try.prog.funcs[nG]? = some Yq := Try.func109
abbrev AHR : FuncId := 101
noncomputable abbrev BCM : Func := Try.f101
theorem CBJ : Try.prog.funcs[AHR]? = some BCM := Try.func101
abbrev Si : FuncId := 40
noncomputable abbrev T8 : Func := Try.f40
theorem BMK : Try.prog.funcs[Si]? = some T8 := Try.func40
abbrev BBC : FuncId := 83
noncomputable abbrev BXV : Func := Try.f83
theorem CLA : Try.prog.funcs[BBC]? = some BXV := Try.func83
abbrev Pz : FuncId := 130
noncomputable abbrev AAM : Func := Try.f130
theorem BNF : Try.prog.funcs[Pz]? = some AAM := Try.func130
abbrev AHA : FuncId := 129
noncomputable abbrev BGW : Func := Try.f129
theorem BVJ : Try.prog.funcs[AHA]? = some BGW := Try.func129
abbrev BFY : FuncId := 57
noncomputable abbrev BOY : Func := Try.f57
theorem CDM : Try.prog.funcs[BFY]? = some BOY := Try.func57
abbrev BMV : FuncId := 82
noncomputable abbrev BNL : Func := Try.f82
theorem CFX : Try.prog.funcs[BMV]? = some BNL := Try.func82
abbrev dB : FuncId := 53
noncomputable abbrev BNV : Func := Try.f53
theorem CGE : Try.prog.funcs[dB]? = some BNV := Try.func53
abbrev BHQ : FuncId := 99
noncomputable abbrev BEZ : Func := Try.f99
theorem BVY : Try.prog.funcs[BHQ]? = some BEZ := Try.func99
abbrev K9 : FuncId := 81
noncomputable abbrev BNM : Func := Try.f81
theorem CGR : Try.prog.funcs[K9]? = some BNM := Try.func81
abbrev BPL : FuncId := 100
noncomputable abbrev BNH : Func := Try.f100
theorem CGG : Try.prog.funcs[BPL]? = some BNH := Try.func100
abbrev AFZ : FuncId := 48
noncomputable abbrev BEQ : Func := Try.f48
theorem CBE : Try.prog.funcs[AFZ]? = some BEQ := Try.func48
abbrev rF : FuncId := 58
noncomputable abbrev ANC : Func := Try.f58
theorem BUL : Try.prog.funcs[rF]? = some ANC := Try.func58
abbrev Fp : FuncId := 67
noncomputable abbrev BEG : Func := Try.f67
theorem BVP : Try.prog.funcs[Fp]? = some BEG := Try.func67
abbrev ASL : FuncId := 68
noncomputable abbrev BMW : Func := Try.f68
theorem CGT : Try.prog.funcs[ASL]? = some BMW := Try.func68
abbrev BDP : FuncId := 90
noncomputable abbrev ASE : Func := Try.f90
theorem BTB : Try.prog.funcs[BDP]? = some ASE := Try.func90
abbrev AYS : FuncId := 103
noncomputable abbrev AWX : Func := Try.f103
theorem BRR : Try.prog.funcs[AYS]? = some AWX := Try.func103
abbrev Ql : FuncId := 65
noncomputable abbrev O5 : Func := Try.f65
theorem BOM : Try.prog.funcs[Ql]? = some O5 := Try.func65
abbrev HR : FuncId := 89
noncomputable abbrev RL : Func := Try.f89
theorem Mt : Try.prog.funcs[HR]? = some RL := Try.func89
abbrev WG : FuncId := 66
noncomputable abbrev AAC : Func := Try.f66
theorem BNZ : Try.prog.funcs[WG]? = some AAC := Try.func66
abbrev AIR : FuncId := 56
noncomputable abbrev BPN : Func := Try.f56
theorem CFQ : Try.prog.funcs[AIR]? = some BPN := Try.func56
abbrev TW : FuncId := 34
noncomputable abbrev Ko : Func := Try.f34
theorem BBZ : Try.prog.funcs[TW]? = some Ko := Try.func34
abbrev AOJ : FuncId := 55
noncomputable abbrev AKS : Func := Try.f55
theorem BTU : Try.prog.funcs[AOJ]? = some AKS := Try.func55
abbrev Hv : FuncId := 54
noncomputable abbrev AZR : Func := Try.f54
theorem BUA : Try.prog.funcs[Hv]? = some AZR := Try.func54
abbrev AFR : FuncId := 50
noncomputable abbrev BDC : Func := Try.f50
theorem BWT : Try.prog.funcs[AFR]? = some BDC := Try.func50
abbrev rI : FuncId := 77
noncomputable abbrev AJN : Func := Try.f77
theorem BUR : Try.prog.funcs[rI]? = some AJN := Try.func77
abbrev ZC : FuncId := 79
noncomputable abbrev ASZ : Func := Try.f79
theorem BUO : Try.prog.funcs[ZC]? = some ASZ := Try.func79
abbrev BAC : FuncId := 78
noncomputable abbrev AOL : Func := Try.f78
theorem BUG : Try.prog.funcs[BAC]? = some AOL := Try.func78
abbrev BOU : FuncId := 28
noncomputable abbrev BOG : Func := Try.f28
theorem CFH : Try.prog.funcs[BOU]? = some BOG := Try.func28
abbrev ZH : FuncId := 47
noncomputable abbrev AIN : Func := Try.f47
theorem BTX : Try.prog.funcs[ZH]? = some AIN := Try.func47
abbrev LW : FuncId := 71
noncomputable abbrev C3 : Func := Try.f71
theorem BMP : Try.prog.funcs[LW]? = some C3 := Try.func71
abbrev W6 : FuncId := 72
noncomputable abbrev A0 : Func := Try.f72
theorem BMF : Try.prog.funcs[W6]? = some A0 := Try.func72
abbrev BWE : FuncId := 70
noncomputable abbrev CBD : Func := Try.f70
theorem CNJ : Try.prog.funcs[BWE]? = some CBD := Try.func70
abbrev BPR : FuncId := 91
noncomputable abbrev CBP : Func := Try.f91
theorem CNE : Try.prog.funcs[BPR]? = some CBP := Try.func91
abbrev BFN : FuncId := 104
noncomputable abbrev BNP : Func := Try.f104
theorem CDV : Try.prog.funcs[BFN]? = some BNP := Try.func104
abbrev J8 : FuncId := 73
noncomputable abbrev ACC : Func := Try.f73
theorem BPM : Try.prog.funcs[J8]? = some ACC := Try.func73
abbrev Ge : FuncId := 92
noncomputable abbrev Yd : Func := Try.f92
theorem BJX : Try.prog.funcs[Ge]? = some Yd := Try.func92
abbrev BFT : FuncId := 22
noncomputable abbrev BOF : Func := Try.f22
theorem CDJ : Try.prog.funcs[BFT]? = some BOF := Try.func22
abbrev BHR : FuncId := 25
noncomputable abbrev BET : Func := Try.f25
theorem CCQ : Try.prog.funcs[BHR]? = some BET := Try.func25
abbrev BOS : FuncId := 59
noncomputable abbrev BPO : Func := Try.f59
theorem CEF : Try.prog.funcs[BOS]? = some BPO := Try.func59
abbrev HH : FuncId := 84
noncomputable abbrev BFX : Func := Try.f84
theorem BWB : Try.prog.funcs[HH]? = some BFX := Try.func84
abbrev BPB : FuncId := 60
noncomputable abbrev BMU : Func := Try.f60
theorem CGU : Try.prog.funcs[BPB]? = some BMU := Try.func60
abbrev HG : FuncId := 85
noncomputable abbrev BFZ : Func := Try.f85
theorem BXB : Try.prog.funcs[HG]? = some BFZ := Try.func85
abbrev oP : FuncId := 36
noncomputable abbrev tV : Func := Try.f36
theorem BKA : Try.prog.funcs[oP]? = some tV := Try.func36
abbrev AFU : FuncId := 69
noncomputable abbrev qJ : Func := Try.f69
theorem BLX : Try.prog.funcs[AFU]? = some qJ := Try.func69
abbrev BCL : FuncId := 61
noncomputable abbrev AXH : Func := Try.f61
theorem BSK : Try.prog.funcs[BCL]? = some AXH := Try.func61
abbrev TH : FuncId := 33
noncomputable abbrev AVY : Func := Try.f33
theorem BTT : Try.prog.funcs[TH]? = some AVY := Try.func33
abbrev SF : FuncId := 32
noncomputable abbrev SS : Func := Try.f32
theorem N2 : Try.prog.funcs[SF]? = some SS := Try.func32
abbrev BEF : FuncId := 12
noncomputable abbrev Wu : Func := Try.f12
theorem BGM : Try.prog.funcs[BEF]? = some Wu := Try.func12
abbrev AZO : FuncId := 37
noncomputable abbrev BPH : Func := Try.f37
theorem CFP : Try.prog.funcs[AZO]? = some BPH := Try.func37
abbrev aF : FuncId := 38
noncomputable abbrev Gn : Func := Try.f38
theorem AFK : Try.prog.funcs[aF]? = some Gn := Try.func38
abbrev AYW : FuncId := 15
noncomputable abbrev Jw : Func := Try.f15
theorem BBY : Try.prog.funcs[AYW]? = some Jw := Try.func15
abbrev EP : FuncId := 39
noncomputable abbrev T2 : Func := Try.f39
theorem BON : Try.prog.funcs[EP]? = some T2 := Try.func39
abbrev ER : FuncId := 41
noncomputable abbrev AAG : Func := Try.f41
theorem BMD : Try.prog.funcs[ER]? = some AAG := Try.func41
abbrev CCV : FuncId := 16
noncomputable abbrev BLH : Func := Try.f16
theorem BVV : Try.prog.funcs[CCV]? = some BLH := Try.func16
abbrev U3 : FuncId := 42
noncomputable abbrev BNQ : Func := Try.f42
theorem CEV : Try.prog.funcs[U3]? = some BNQ := Try.func42
abbrev LR : FuncId := 43
noncomputable abbrev BMR : Func := Try.f43
theorem CFB : Try.prog.funcs[LR]? = some BMR := Try.func43
abbrev LP : FuncId := 44
noncomputable abbrev BOR : Func := Try.f44
theorem CGP : Try.prog.funcs[LP]? = some BOR := Try.func44
-- none: nilometer/rating.Widest
abbrev BHG : FuncId := 9
noncomputable abbrev BNE : Func := Try.f9
theorem BPS : Try.prog.funcs[BHG]? = some BNE := Try.func9
abbrev CDA : FuncId := 10
noncomputable abbrev BXY : Func := Try.f10
theorem CMI : Try.prog.funcs[CDA]? = some BXY := Try.func10
abbrev BOP : FuncId := 11
noncomputable abbrev BNG : Func := Try.f11
theorem CDN : Try.prog.funcs[BOP]? = some BNG := Try.func11
abbrev N8 : FuncId := 20
noncomputable abbrev BME : Func := Try.f20
theorem CGX : Try.prog.funcs[N8]? = some BME := Try.func20
abbrev AOC : FuncId := 24
noncomputable abbrev AKH : Func := Try.f24
theorem BUS : Try.prog.funcs[AOC]? = some AKH := Try.func24
abbrev BIU : FuncId := 21
noncomputable abbrev BFF : Func := Try.f21
theorem CCP : Try.prog.funcs[BIU]? = some BFF := Try.func21
abbrev BDY : FuncId := 18
noncomputable abbrev BCI : Func := Try.f18
theorem BXC : Try.prog.funcs[BDY]? = some BCI := Try.func18
abbrev AGY : FuncId := 19
noncomputable abbrev rR : Func := Try.f19
theorem BKF : Try.prog.funcs[AGY]? = some rR := Try.func19
-- none: nilometer/nilometerkit.Copy[nilometer/rating.Line]
abbrev BGO : FuncId := 14
noncomputable abbrev BHK : Func := Try.f14
theorem BZP : Try.prog.funcs[BGO]? = some BHK := Try.func14
abbrev BCR : FuncId := 13
noncomputable abbrev BDF : Func := Try.f13
theorem BXX : Try.prog.funcs[BCR]? = some BDF := Try.func13
abbrev BEP : FuncId := 17
noncomputable abbrev BCT : Func := Try.f17
theorem CCK : Try.prog.funcs[BEP]? = some BCT := Try.func17
abbrev BFI : FuncId := 45
noncomputable abbrev BGJ : Func := Try.f45
theorem CAO : Try.prog.funcs[BFI]? = some BGJ := Try.func45
abbrev iB : FuncId := 46
noncomputable abbrev nR : Func := Try.f46
theorem BLV : Try.prog.funcs[iB]? = some nR := Try.func46
abbrev BCC : FuncId := 4
noncomputable abbrev OA : Func := Try.f4
theorem ANA : Try.prog.funcs[BCC]? = some OA := Try.func4
end Go.Bal
