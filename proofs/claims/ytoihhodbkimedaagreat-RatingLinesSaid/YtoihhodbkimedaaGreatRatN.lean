/- Functions by name. -/
import Derived.Test.YtoihhodbkimedaaGreatPrg0
set_option linter.unusedVariables false
set_option linter.unusedSimpArgs false
namespace Go.Bal
open Go Go.Sym Go.Proofs
abbrev Qw : FuncId := 76
noncomputable abbrev F_in : Func := Tryz.f76
theorem BXC : Try.prog.funcs[Qw]? = some F_in := Tryz.func76
abbrev n_eG : FuncId := 88
noncomputable abbrev F_eG : Func := Tryz.f88
theorem BRI : Try.prog.funcs[n_eG]? = some F_eG := Tryz.func88
abbrev n_eL : FuncId := 91
noncomputable abbrev F_eL : Func := Tryz.f91
theorem BXI : Try.prog.funcs[n_eL]? = some F_eL := Tryz.func91
abbrev n_eI : FuncId := 106
noncomputable abbrev F_eI : Func := Tryz.f106
theorem BXF : Try.prog.funcs[n_eI]? = some F_eI := Tryz.func106
abbrev iA : FuncId := 119
noncomputable abbrev AUN : Func := Tryz.f119
theorem BEP : Try.prog.funcs[iA]? = some AUN := Tryz.func119
abbrev AUE : FuncId := 121
noncomputable abbrev BJR : Func := Tryz.f121
theorem BVK : Try.prog.funcs[AUE]? = some BJR := Tryz.func121
abbrev AUV : FuncId := 128
noncomputable abbrev BEQ : Func := Tryz.f128
theorem BUW : Try.prog.funcs[AUV]? = some BEQ := Tryz.func128
abbrev AUU : FuncId := 118
noncomputable abbrev ATW : Func := Tryz.f118
theorem BHW : Try.prog.funcs[AUU]? = some ATW := Tryz.func118
abbrev BLZ : FuncId := 120
noncomputable abbrev BGX : Func := Tryz.f120
theorem BWF : Try.prog.funcs[BLZ]? = some BGX := Tryz.func120
abbrev BIR : FuncId := 127
noncomputable abbrev BJQ : Func := Tryz.f127
theorem BTL : Try.prog.funcs[BIR]? = some BJQ := Tryz.func127
abbrev ATB : FuncId := 133
noncomputable abbrev AUR : Func := Tryz.f133
theorem BKC : Try.prog.funcs[ATB]? = some AUR := Tryz.func133
abbrev BFQ : FuncId := 134
noncomputable abbrev BIM : Func := Tryz.f134
theorem BVU : Try.prog.funcs[BFQ]? = some BIM := Tryz.func134
abbrev BMH : FuncId := 139
noncomputable abbrev BKN : Func := Tryz.f139
theorem BUN : Try.prog.funcs[BMH]? = some BKN := Tryz.func139
abbrev AZW : FuncId := 89
noncomputable abbrev BGV : Func := Tryz.f89
theorem BWE : Try.prog.funcs[AZW]? = some BGV := Tryz.func89
abbrev AZU : FuncId := 122
noncomputable abbrev BFC : Func := Tryz.f122
theorem BVQ : Try.prog.funcs[AZU]? = some BFC := Tryz.func122
abbrev jI : FuncId := 92
noncomputable abbrev BGH : Func := Tryz.f92
theorem BUR : Try.prog.funcs[jI]? = some BGH := Tryz.func92
abbrev Cb : FuncId := 37
noncomputable abbrev ALQ : Func := Tryz.f37
theorem BIN : Try.prog.funcs[Cb]? = some ALQ := Tryz.func37
abbrev gS : FuncId := 90
noncomputable abbrev ABC : Func := Tryz.f90
theorem BEG : Try.prog.funcs[gS]? = some ABC := Tryz.func90
abbrev Ej : FuncId := 39
noncomputable abbrev Q9 : Func := Tryz.f39
theorem BCX : Try.prog.funcs[Ej]? = some Q9 := Tryz.func39
abbrev Zd : FuncId := 117
noncomputable abbrev Vn : Func := Tryz.f117
theorem AUH : Try.prog.funcs[Zd]? = some Vn := Tryz.func117
abbrev G5 : FuncId := 86
noncomputable abbrev ANW : Func := Tryz.f86
theorem BJP : Try.prog.funcs[G5]? = some ANW := Tryz.func86
abbrev Me : FuncId := 81
noncomputable abbrev tT : Func := Tryz.f81
theorem AWR : Try.prog.funcs[Me]? = some tT := Tryz.func81
abbrev D0 : FuncId := 94
noncomputable abbrev BKW : Func := Tryz.f94
theorem BWG : Try.prog.funcs[D0]? = some BKW := Tryz.func94
abbrev Px : FuncId := 162
noncomputable abbrev mS : Func := Tryz.f162
theorem AWE : Try.prog.funcs[Px]? = some mS := Tryz.func162
abbrev iW : FuncId := 161
noncomputable abbrev ALF : Func := Tryz.f161
theorem BLE : Try.prog.funcs[iW]? = some ALF := Tryz.func161
abbrev G9 : FuncId := 160
noncomputable abbrev ANF : Func := Tryz.f160
theorem BMG : Try.prog.funcs[G9]? = some ANF := Tryz.func160
abbrev yQ : FuncId := 96
noncomputable abbrev AWK : Func := Tryz.f96
theorem BNO : Try.prog.funcs[yQ]? = some AWK := Tryz.func96
abbrev AYB : FuncId := 123
noncomputable abbrev AVW : Func := Tryz.f123
theorem BPS : Try.prog.funcs[AYB]? = some AVW := Tryz.func123
abbrev Sn : FuncId := 66
noncomputable abbrev AWO : Func := Tryz.f66
theorem BNB : Try.prog.funcs[Sn]? = some AWO := Tryz.func66
abbrev ASC : FuncId := 135
noncomputable abbrev ANK : Func := Tryz.f135
theorem BHJ : Try.prog.funcs[ASC]? = some ANK := Tryz.func135
abbrev yD : FuncId := 111
noncomputable abbrev AWF : Func := Tryz.f111
theorem BPX : Try.prog.funcs[yD]? = some AWF := Tryz.func111
abbrev AWC : FuncId := 136
noncomputable abbrev AXV : Func := Tryz.f136
theorem BNE : Try.prog.funcs[AWC]? = some AXV := Tryz.func136
abbrev Nq : FuncId := 95
noncomputable abbrev iE : Func := Tryz.f95
theorem AUZ : Try.prog.funcs[Nq]? = some iE := Tryz.func95
abbrev n_At : FuncId := 43
noncomputable abbrev F_At : Func := Tryz.f43
theorem BXA : Try.prog.funcs[n_At]? = some F_At := Tryz.func43
abbrev Hp : FuncId := 97
noncomputable abbrev AGR : Func := Tryz.f97
theorem BDN : Try.prog.funcs[Hp]? = some AGR := Tryz.func97
abbrev X2 : FuncId := 45
noncomputable abbrev AFT : Func := Tryz.f45
theorem BDD : Try.prog.funcs[X2]? = some AFT := Tryz.func45
abbrev ZS : FuncId := 100
noncomputable abbrev ARA : Func := Tryz.f100
theorem BKO : Try.prog.funcs[ZS]? = some ARA := Tryz.func100
abbrev ACA : FuncId := 115
noncomputable abbrev AYU : Func := Tryz.f115
theorem BMU : Try.prog.funcs[ACA]? = some AYU := Tryz.func115
abbrev AQH : FuncId := 132
noncomputable abbrev ADD : Func := Tryz.f132
theorem BAL : Try.prog.funcs[AQH]? = some ADD := Tryz.func132
abbrev ACG : FuncId := 141
noncomputable abbrev AAI : Func := Tryz.f141
theorem BCM : Try.prog.funcs[ACG]? = some AAI := Tryz.func141
abbrev La : FuncId := 99
noncomputable abbrev pQ : Func := Tryz.f99
theorem AXD : Try.prog.funcs[La]? = some pQ := Tryz.func99
abbrev GT : FuncId := 124
noncomputable abbrev RR : Func := Tryz.f124
theorem Kt : Try.prog.funcs[GT]? = some RR := Tryz.func124
abbrev UL : FuncId := 98
noncomputable abbrev tS : Func := Tryz.f98
theorem AWJ : Try.prog.funcs[UL]? = some tS := Tryz.func98
abbrev P0 : FuncId := 51
noncomputable abbrev AVX : Func := Tryz.f51
theorem BMQ : Try.prog.funcs[P0]? = some AVX := Tryz.func51
abbrev QW : FuncId := 49
noncomputable abbrev Eg : Func := Tryz.f49
theorem AKI : Try.prog.funcs[QW]? = some Eg := Tryz.func49
abbrev AIQ : FuncId := 50
noncomputable abbrev T6 : Func := Tryz.f50
theorem BCS : Try.prog.funcs[AIQ]? = some T6 := Tryz.func50
abbrev Je : FuncId := 63
noncomputable abbrev AGL : Func := Tryz.f63
theorem BDF : Try.prog.funcs[Je]? = some AGL := Tryz.func63
abbrev J7 : FuncId := 62
noncomputable abbrev ARF : Func := Tryz.f62
theorem BIL : Try.prog.funcs[J7]? = some ARF := Tryz.func62
abbrev kC : FuncId := 107
noncomputable abbrev AAW : Func := Tryz.f107
theorem BDS : Try.prog.funcs[kC]? = some AAW := Tryz.func107
abbrev VS : FuncId := 109
noncomputable abbrev R2 : Func := Tryz.f109
theorem BDZ : Try.prog.funcs[VS]? = some R2 := Tryz.func109
abbrev Y7 : FuncId := 108
noncomputable abbrev AET : Func := Tryz.f108
theorem BDY : Try.prog.funcs[Y7]? = some AET := Tryz.func108
abbrev AWI : FuncId := 19
noncomputable abbrev AYE : Func := Tryz.f19
theorem BNA : Try.prog.funcs[AWI]? = some AYE := Tryz.func19
abbrev WO : FuncId := 55
noncomputable abbrev AAT : Func := Tryz.f55
theorem BDT : Try.prog.funcs[WO]? = some AAT := Tryz.func55
abbrev KE : FuncId := 103
noncomputable abbrev xT : Func := Tryz.f103
theorem AXS : Try.prog.funcs[KE]? = some xT := Tryz.func103
abbrev oZ : FuncId := 104
noncomputable abbrev uC : Func := Tryz.f104
theorem AYA : Try.prog.funcs[oZ]? = some uC := Tryz.func104
abbrev BJN : FuncId := 102
noncomputable abbrev BLI : Func := Tryz.f102
theorem BVL : Try.prog.funcs[BJN]? = some BLI := Tryz.func102
abbrev AZQ : FuncId := 125
noncomputable abbrev BEO : Func := Tryz.f125
theorem BVI : Try.prog.funcs[AZQ]? = some BEO := Tryz.func125
abbrev ARD : FuncId := 137
noncomputable abbrev AVH : Func := Tryz.f137
theorem BMW : Try.prog.funcs[ARD]? = some AVH := Tryz.func137
abbrev sT : FuncId := 105
noncomputable abbrev nT : Func := Tryz.f105
theorem AXF : Try.prog.funcs[sT]? = some nT := Tryz.func105
abbrev YU : FuncId := 126
noncomputable abbrev bS : Func := Tryz.f126
theorem AST : Try.prog.funcs[YU]? = some bS := Tryz.func126
abbrev AXR : FuncId := 13
noncomputable abbrev AVN : Func := Tryz.f13
theorem BOG : Try.prog.funcs[AXR]? = some AVN := Tryz.func13
abbrev ALM : FuncId := 15
noncomputable abbrev ARH : Func := Tryz.f15
theorem BHQ : Try.prog.funcs[ALM]? = some ARH := Tryz.func15
abbrev AVS : FuncId := 71
noncomputable abbrev AWY : Func := Tryz.f71
theorem BQJ : Try.prog.funcs[AVS]? = some AWY := Tryz.func71
abbrev GF : FuncId := 113
noncomputable abbrev ASD : Func := Tryz.f113
theorem BHF : Try.prog.funcs[GF]? = some ASD := Tryz.func113
abbrev AWZ : FuncId := 72
noncomputable abbrev AXM : Func := Tryz.f72
theorem BOV : Try.prog.funcs[AWZ]? = some AXM := Tryz.func72
abbrev GH : FuncId := 114
noncomputable abbrev ANO : Func := Tryz.f114
theorem BII : Try.prog.funcs[GH]? = some ANO := Tryz.func114
abbrev eS : FuncId := 77
noncomputable abbrev lA : Func := Tryz.f77
theorem ASY : Try.prog.funcs[eS]? = some lA := Tryz.func77
abbrev H8 : FuncId := 116
noncomputable abbrev gF : Func := Tryz.f116
theorem ATN : Try.prog.funcs[H8]? = some gF := Tryz.func116
abbrev APM : FuncId := 73
noncomputable abbrev AHR : Func := Tryz.f73
theorem BBV : Try.prog.funcs[APM]? = some AHR := Tryz.func73
abbrev RY : FuncId := 68
noncomputable abbrev AAO : Func := Tryz.f68
theorem BDO : Try.prog.funcs[RY]? = some AAO := Tryz.func68
abbrev QE : FuncId := 67
noncomputable abbrev QF : Func := Tryz.f67
theorem zW : Try.prog.funcs[QE]? = some QF := Tryz.func67
abbrev AYJ : FuncId := 25
noncomputable abbrev Yr : Func := Tryz.f25
theorem ALW : Try.prog.funcs[AYJ]? = some Yr := Tryz.func25
abbrev AAP : FuncId := 78
noncomputable abbrev AVG : Func := Tryz.f78
theorem BPP : Try.prog.funcs[AAP]? = some AVG := Tryz.func78
abbrev cT : FuncId := 79
noncomputable abbrev Dn : Func := Tryz.f79
theorem F5 : Try.prog.funcs[cT]? = some Dn := Tryz.func79
abbrev AAS : FuncId := 30
noncomputable abbrev Ir : Func := Tryz.f30
theorem AKQ : Try.prog.funcs[AAS]? = some Ir := Tryz.func30
abbrev DX : FuncId := 80
noncomputable abbrev vA : Func := Tryz.f80
theorem AXC : Try.prog.funcs[DX]? = some vA := Tryz.func80
abbrev DY : FuncId := 82
noncomputable abbrev wG : Func := Tryz.f82
theorem AYW : Try.prog.funcs[DY]? = some wG := Tryz.func82
abbrev BEV : FuncId := 32
noncomputable abbrev ASV : Func := Tryz.f32
theorem BHH : Try.prog.funcs[BEV]? = some ASV := Tryz.func32
abbrev pE : FuncId := 83
noncomputable abbrev AVK : Func := Tryz.f83
theorem BPF : Try.prog.funcs[pE]? = some AVK := Tryz.func83
abbrev LF : FuncId := 84
noncomputable abbrev AWQ : Func := Tryz.f84
theorem BNH : Try.prog.funcs[LF]? = some AWQ := Tryz.func84
abbrev MK : FuncId := 85
noncomputable abbrev AWU : Func := Tryz.f85
theorem BMO : Try.prog.funcs[MK]? = some AWU := Tryz.func85
abbrev AOD : FuncId := 7
noncomputable abbrev ARM : Func := Tryz.f7
theorem BKV : Try.prog.funcs[AOD]? = some ARM := Tryz.func7
abbrev J8 : FuncId := 8
noncomputable abbrev ANH : Func := Tryz.f8
theorem BJZ : Try.prog.funcs[J8]? = some ANH := Tryz.func8
abbrev AKZ : FuncId := 36
noncomputable abbrev ALZ : Func := Tryz.f36
theorem BHG : Try.prog.funcs[AKZ]? = some ALZ := Tryz.func36
-- none: nilometer/nilometerlaw04.below
-- none: nilometer/nilometerlaw04.sound
abbrev ASG : FuncId := 6
noncomputable abbrev AOE : Func := Tryz.f6
theorem BIW : Try.prog.funcs[ASG]? = some AOE := Tryz.func6
abbrev AOK : FuncId := 47
noncomputable abbrev AMW : Func := Tryz.f47
theorem BKA : Try.prog.funcs[AOK]? = some AMW := Tryz.func47
abbrev Tn : FuncId := 48
noncomputable abbrev Ul : Func := Tryz.f48
theorem ATZ : Try.prog.funcs[Tn]? = some Ul := Tryz.func48
-- none: nilometer/nilometerlaw04.RatingRises
-- none: nilometer/nilometerlaw04.RatingScaled
-- none: nilometer/nilometerlaw04.RatingMore
-- none: nilometer/nilometerlaw04.RatingFewest
-- none: nilometer/nilometerlaw04.RatingPassed
-- none: nilometer/nilometerlaw04.RatingReached
abbrev AWP : FuncId := 41
noncomputable abbrev AYL : Func := Tryz.f41
theorem BOX : Try.prog.funcs[AWP]? = some AYL := Tryz.func41
abbrev Dl : FuncId := 69
noncomputable abbrev AXL : Func := Tryz.f69
theorem BNG : Try.prog.funcs[Dl]? = some AXL := Tryz.func69
abbrev mF : FuncId := 38
noncomputable abbrev ADL : Func := Tryz.f38
theorem BDX : Try.prog.funcs[mF]? = some ADL := Tryz.func38
abbrev ARW : FuncId := 93
noncomputable abbrev APK : Func := Tryz.f93
theorem BFK : Try.prog.funcs[ARW]? = some APK := Tryz.func93
abbrev Fp : FuncId := 74
noncomputable abbrev ADT : Func := Tryz.f74
theorem BCW : Try.prog.funcs[Fp]? = some ADT := Tryz.func74
abbrev kY : FuncId := 40
noncomputable abbrev ASF : Func := Tryz.f40
theorem BKL : Try.prog.funcs[kY]? = some ASF := Tryz.func40
abbrev ANN : FuncId := 87
noncomputable abbrev AXH : Func := Tryz.f87
theorem BNI : Try.prog.funcs[ANN]? = some AXH := Tryz.func87
abbrev AEN : FuncId := 59
noncomputable abbrev AWG : Func := Tryz.f59
theorem BPC : Try.prog.funcs[AEN]? = some AWG := Tryz.func59
abbrev nY : FuncId := 57
noncomputable abbrev AWA : Func := Tryz.f57
theorem BPQ : Try.prog.funcs[nY]? = some AWA := Tryz.func57
abbrev AQP : FuncId := 75
noncomputable abbrev ALP : Func := Tryz.f75
theorem BFL : Try.prog.funcs[AQP]? = some ALP := Tryz.func75
abbrev AXI : FuncId := 42
noncomputable abbrev AVV : Func := Tryz.f42
theorem BNU : Try.prog.funcs[AXI]? = some AVV := Tryz.func42
abbrev L7 : FuncId := 58
noncomputable abbrev ALX : Func := Tryz.f58
theorem BME : Try.prog.funcs[L7]? = some ALX := Tryz.func58
abbrev BHL : FuncId := 44
noncomputable abbrev BHC : Func := Tryz.f44
theorem BVF : Try.prog.funcs[BHL]? = some BHC := Tryz.func44
abbrev AVM : FuncId := 16
noncomputable abbrev AYO : Func := Tryz.f16
theorem BPA : Try.prog.funcs[AVM]? = some AYO := Tryz.func16
abbrev AXB : FuncId := 10
noncomputable abbrev AYD : Func := Tryz.f10
theorem BMX : Try.prog.funcs[AXB]? = some AYD := Tryz.func10
abbrev G3 : FuncId := 29
noncomputable abbrev AQY : Func := Tryz.f29
theorem BKZ : Try.prog.funcs[G3]? = some AQY := Tryz.func29
abbrev AEZ : FuncId := 17
noncomputable abbrev AGQ : Func := Tryz.f17
theorem BEB : Try.prog.funcs[AEZ]? = some AGQ := Tryz.func17
abbrev APG : FuncId := 22
noncomputable abbrev APW : Func := Tryz.f22
theorem BGJ : Try.prog.funcs[APG]? = some APW := Tryz.func22
abbrev ARS : FuncId := 23
noncomputable abbrev ARQ : Func := Tryz.f23
theorem BKH : Try.prog.funcs[ARS]? = some ARQ := Tryz.func23
abbrev AMA : FuncId := 46
noncomputable abbrev API : Func := Tryz.f46
theorem BKM : Try.prog.funcs[AMA]? = some API := Tryz.func46
abbrev ATM : FuncId := 5
noncomputable abbrev AHQ : Func := Tryz.f5
theorem BDJ : Try.prog.funcs[ATM]? = some AHQ := Tryz.func5
end Go.Bal
