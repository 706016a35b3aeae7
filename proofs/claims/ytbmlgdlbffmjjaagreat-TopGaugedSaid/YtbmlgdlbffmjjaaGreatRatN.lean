/- Functions by name. -/
import Derived.Test.YtbmlgdlbffmjjaaGreatCom0
set_option linter.unusedVariables false
set_option linter.unusedSimpArgs false
namespace Go.Bal
open Go Go.Sym Go.Proofs
abbrev n_in:FuncId:=51
noncomputable abbrev F_in:Func:=Tryz.f51
theorem CRM:Try.prog.funcs[n_in]?=some F_in:=Tryz.func51
abbrev n_eG:FuncId:=52
noncomputable abbrev F_eG:Func:=Tryz.f52
theorem CJY:Try.prog.funcs[n_eG]?=some F_eG:=Tryz.func52
abbrev n_eL:FuncId:=55
noncomputable abbrev F_eL:Func:=Tryz.f55
theorem CRP:Try.prog.funcs[n_eL]?=some F_eL:=Tryz.func55
abbrev n_eI:FuncId:=134
noncomputable abbrev F_eI:Func:=Tryz.f134
theorem CSS:Try.prog.funcs[n_eI]?=some F_eI:=Tryz.func134
abbrev G1:FuncId:=90
noncomputable abbrev AXG:Func:=Tryz.f90
theorem BVX:Try.prog.funcs[G1]?=some AXG:=Tryz.func90
abbrev AVB:FuncId:=92
noncomputable abbrev BUV:Func:=Tryz.f92
theorem CLC:Try.prog.funcs[AVB]?=some BUV:=Tryz.func92
abbrev AVX:FuncId:=158
noncomputable abbrev BYG:Func:=Tryz.f158
theorem CMW:Try.prog.funcs[AVX]?=some BYG:=Tryz.func158
abbrev AXN:FuncId:=89
noncomputable abbrev AZC:Func:=Tryz.f89
theorem BYS:Try.prog.funcs[AXN]?=some AZC:=Tryz.func89
abbrev BXF:FuncId:=91
noncomputable abbrev BNK:Func:=Tryz.f91
theorem COS:Try.prog.funcs[BXF]?=some BNK:=Tryz.func91
abbrev BNW:FuncId:=157
noncomputable abbrev BVQ:Func:=Tryz.f157
theorem CMC:Try.prog.funcs[BNW]?=some BVQ:=Tryz.func157
abbrev AYS:FuncId:=127
noncomputable abbrev AVD:Func:=Tryz.f127
theorem BPT:Try.prog.funcs[AYS]?=some AVD:=Tryz.func127
abbrev BUG:FuncId:=128
noncomputable abbrev BVP:Func:=Tryz.f128
theorem COK:Try.prog.funcs[BUG]?=some BVP:=Tryz.func128
abbrev BWR:FuncId:=169
noncomputable abbrev BRR:Func:=Tryz.f169
theorem CMZ:Try.prog.funcs[BWR]?=some BRR:=Tryz.func169
abbrev BJJ:FuncId:=53
noncomputable abbrev BUY:Func:=Tryz.f53
theorem CNA:Try.prog.funcs[BJJ]?=some BUY:=Tryz.func53
abbrev BFK:FuncId:=93
noncomputable abbrev BZW:Func:=Tryz.f93
theorem CND:Try.prog.funcs[BFK]?=some BZW:=Tryz.func93
abbrev AIL:FuncId:=56
noncomputable abbrev BPZ:Func:=Tryz.f56
theorem CMG:Try.prog.funcs[AIL]?=some BPZ:=Tryz.func56
abbrev F2:FuncId:=26
noncomputable abbrev ARJ:Func:=Tryz.f26
theorem BTS:Try.prog.funcs[F2]?=some ARJ:=Tryz.func26
abbrev J7:FuncId:=54
noncomputable abbrev AJE:Func:=Tryz.f54
theorem BND:Try.prog.funcs[J7]?=some AJE:=Tryz.func54
abbrev AGA:FuncId:=27
noncomputable abbrev AKI:Func:=Tryz.f27
theorem BKU:Try.prog.funcs[AGA]?=some AKI:=Tryz.func27
abbrev D5:FuncId:=129
noncomputable abbrev A4:Func:=Tryz.f129
theorem AXK:Try.prog.funcs[D5]?=some A4:=Tryz.func129
abbrev ACQ:FuncId:=96
noncomputable abbrev APL:Func:=Tryz.f96
theorem BOH:Try.prog.funcs[ACQ]?=some APL:=Tryz.func96
abbrev R9:FuncId:=105
noncomputable abbrev Y6:Func:=Tryz.f105
theorem BCN:Try.prog.funcs[R9]?=some Y6:=Tryz.func105
abbrev ALX:FuncId:=58
noncomputable abbrev BXH:Func:=Tryz.f58
theorem CMY:Try.prog.funcs[ALX]?=some BXH:=Tryz.func58
abbrev wX:FuncId:=188
noncomputable abbrev X4:Func:=Tryz.f188
theorem BED:Try.prog.funcs[wX]?=some X4:=Tryz.func188
abbrev ADH:FuncId:=187
noncomputable abbrev ATQ:Func:=Tryz.f187
theorem BUA:Try.prog.funcs[ADH]?=some ATQ:=Tryz.func187
abbrev AJI:FuncId:=28
noncomputable abbrev BBC:Func:=Tryz.f28
theorem CEH:Try.prog.funcs[AJI]?=some BBC:=Tryz.func28
abbrev BEP:FuncId:=57
noncomputable abbrev BCS:Func:=Tryz.f57
theorem CAJ:Try.prog.funcs[BEP]?=some BCS:=Tryz.func57
abbrev A5:FuncId:=61
noncomputable abbrev BEI:Func:=Tryz.f61
theorem CFJ:Try.prog.funcs[A5]?=some BEI:=Tryz.func61
abbrev ARE:FuncId:=94
noncomputable abbrev ASD:Func:=Tryz.f94
theorem BSW:Try.prog.funcs[ARE]?=some ASD:=Tryz.func94
abbrev T8:FuncId:=98
noncomputable abbrev AZX:Func:=Tryz.f98
theorem CCL:Try.prog.funcs[T8]?=some AZX:=Tryz.func98
abbrev BEX:FuncId:=95
noncomputable abbrev BAA:Func:=Tryz.f95
theorem CDL:Try.prog.funcs[BEX]?=some BAA:=Tryz.func95
abbrev ADK:FuncId:=71
noncomputable abbrev ATB:Func:=Tryz.f71
theorem BPE:Try.prog.funcs[ADK]?=some ATB:=Tryz.func71
-- none: nilometer/rating.At
abbrev tJ:FuncId:=29
noncomputable abbrev ADQ:Func:=Tryz.f29
theorem BKG:Try.prog.funcs[tJ]?=some ADQ:=Tryz.func29
abbrev AIP:FuncId:=13
noncomputable abbrev ALB:Func:=Tryz.f13
theorem BLK:Try.prog.funcs[AIP]?=some ALB:=Tryz.func13
abbrev oN:FuncId:=62
noncomputable abbrev ARD:Func:=Tryz.f62
theorem BQR:Try.prog.funcs[oN]?=some ARD:=Tryz.func62
abbrev AKD:FuncId:=133
noncomputable abbrev BCC:Func:=Tryz.f133
theorem CCX:Try.prog.funcs[AKD]?=some BCC:=Tryz.func133
abbrev APT:FuncId:=156
noncomputable abbrev AFX:Func:=Tryz.f156
theorem BIE:Try.prog.funcs[APT]?=some AFX:=Tryz.func156
abbrev AGJ:FuncId:=168
noncomputable abbrev AEX:Func:=Tryz.f168
theorem BHO:Try.prog.funcs[AGJ]?=some AEX:=Tryz.func168
abbrev xC:FuncId:=100
noncomputable abbrev Z0:Func:=Tryz.f100
theorem BAP:Try.prog.funcs[xC]?=some Z0:=Tryz.func100
abbrev Fz:FuncId:=132
noncomputable abbrev dC:Func:=Tryz.f132
theorem sM:Try.prog.funcs[Fz]?=some dC:=Tryz.func132
abbrev nH:FuncId:=99
noncomputable abbrev V9:Func:=Tryz.f99
theorem BAR:Try.prog.funcs[nH]?=some V9:=Tryz.func99
abbrev AIR:FuncId:=65
noncomputable abbrev BAV:Func:=Tryz.f65
theorem CCR:Try.prog.funcs[AIR]?=some BAV:=Tryz.func65
abbrev wM:FuncId:=67
noncomputable abbrev vR:Func:=Tryz.f67
theorem AMF:Try.prog.funcs[wM]?=some vR:=Tryz.func67
abbrev AIA:FuncId:=138
noncomputable abbrev AJD:Func:=Tryz.f138
theorem BMS:Try.prog.funcs[AIA]?=some AJD:=Tryz.func138
-- none: nilometer/rating.Through
abbrev N7:FuncId:=64
noncomputable abbrev AET:Func:=Tryz.f64
theorem BLV:Try.prog.funcs[N7]?=some AET:=Tryz.func64
abbrev ARC:FuncId:=102
noncomputable abbrev APM:Func:=Tryz.f102
theorem BWF:Try.prog.funcs[ARC]?=some APM:=Tryz.func102
abbrev H6:FuncId:=135
noncomputable abbrev AJT:Func:=Tryz.f135
theorem BMN:Try.prog.funcs[H6]?=some AJT:=Tryz.func135
abbrev mN:FuncId:=137
noncomputable abbrev AIG:Func:=Tryz.f137
theorem BNC:Try.prog.funcs[mN]?=some AIG:=Tryz.func137
abbrev AJF:FuncId:=136
noncomputable abbrev AKH:Func:=Tryz.f136
theorem BLY:Try.prog.funcs[AJF]?=some AKH:=Tryz.func136
-- none: nilometer/rating.Knot
abbrev E2:FuncId:=30
noncomputable abbrev AHF:Func:=Tryz.f30
theorem BKB:Try.prog.funcs[E2]?=some AHF:=Tryz.func30
abbrev Sk:FuncId:=60
noncomputable abbrev P0:Func:=Tryz.f60
theorem BES:Try.prog.funcs[Sk]?=some P0:=Tryz.func60
abbrev R3:FuncId:=63
noncomputable abbrev P6:Func:=Tryz.f63
theorem AZY:Try.prog.funcs[R3]?=some P6:=Tryz.func63
abbrev BYX:FuncId:=59
noncomputable abbrev BXG:Func:=Tryz.f59
theorem CNO:Try.prog.funcs[BYX]?=some BXG:=Tryz.func59
abbrev BHU:FuncId:=97
noncomputable abbrev BSM:Func:=Tryz.f97
theorem CPY:Try.prog.funcs[BHU]?=some BSM:=Tryz.func97
abbrev AUH:FuncId:=130
noncomputable abbrev BEH:Func:=Tryz.f130
theorem CEP:Try.prog.funcs[AUH]?=some BEH:=Tryz.func130
abbrev S6:FuncId:=66
noncomputable abbrev R7:Func:=Tryz.f66
theorem BDJ:Try.prog.funcs[S6]?=some R7:=Tryz.func66
abbrev oT:FuncId:=101
noncomputable abbrev C4:Func:=Tryz.f101
theorem AXR:Try.prog.funcs[oT]?=some C4:=Tryz.func101
abbrev BCZ:FuncId:=14
noncomputable abbrev BBT:Func:=Tryz.f14
theorem CDS:Try.prog.funcs[BCZ]?=some BBT:=Tryz.func14
-- none: nilometer/rating.Knots
-- none: nilometer/rating.Proves
-- none: nilometer/rating.Proves$1
abbrev AZS:FuncId:=69
noncomputable abbrev BAY:Func:=Tryz.f69
theorem CBI:Try.prog.funcs[AZS]?=some BAY:=Tryz.func69
abbrev Ex:FuncId:=104
noncomputable abbrev AQY:Func:=Tryz.f104
theorem BXM:Try.prog.funcs[Ex]?=some AQY:=Tryz.func104
abbrev BCM:FuncId:=70
noncomputable abbrev BEO:Func:=Tryz.f70
theorem CBM:Try.prog.funcs[BCM]?=some BEO:=Tryz.func70
abbrev Ev:FuncId:=106
noncomputable abbrev AOZ:Func:=Tryz.f106
theorem BOS:Try.prog.funcs[Ev]?=some AOZ:=Tryz.func106
abbrev ASP:FuncId:=103
noncomputable abbrev I1:Func:=Tryz.f103
theorem AZN:Try.prog.funcs[ASP]?=some I1:=Tryz.func103
abbrev ADG:FuncId:=139
noncomputable abbrev F1:Func:=Tryz.f139
theorem AVE:Try.prog.funcs[ADG]?=some F1:=Tryz.func139
abbrev ATI:FuncId:=68
noncomputable abbrev ALE:Func:=Tryz.f68
theorem BJN:Try.prog.funcs[ATI]?=some ALE:=Tryz.func68
abbrev uU:FuncId:=32
noncomputable abbrev AHC:Func:=Tryz.f32
theorem BLL:Try.prog.funcs[uU]?=some AHC:=Tryz.func32
abbrev dR:FuncId:=31
noncomputable abbrev eZ:Func:=Tryz.f31
theorem W5:Try.prog.funcs[dR]?=some eZ:=Tryz.func31
abbrev BCR:FuncId:=15
noncomputable abbrev zF:Func:=Tryz.f15
theorem ATT:Try.prog.funcs[BCR]?=some zF:=Tryz.func15
-- none: nilometer/rating.Reach
-- none: (*nilometer/rating.book).span
-- none: (*nilometer/rating.book).upTo
-- none: nilometer/rating.Stages
-- none: nilometer/rating.Stages$1
-- none: nilometer/rating.Stages$2
-- none: nilometer/rating.Dry
-- none: nilometer/rating.Dry$1
-- none: nilometer/rating.Dry$2
-- none: nilometer/rating.Dry$3
-- none: nilometer/rating.Widest
-- none: nilometer/nilometerlaw04.Made
abbrev BSY:FuncId:=4
noncomputable abbrev BUQ:Func:=Tryz.f4
theorem COI:Try.prog.funcs[BSY]?=some BUQ:=Tryz.func4
-- none: nilometer/nilometerkit.Pick
abbrev AKP:FuncId:=8
noncomputable abbrev BDX:Func:=Tryz.f8
theorem CDD:Try.prog.funcs[AKP]?=some BDX:=Tryz.func8
abbrev E1:FuncId:=5
noncomputable abbrev ALD:Func:=Tryz.f5
theorem BLB:Try.prog.funcs[E1]?=some ALD:=Tryz.func5
-- none: nilometer/nilometerkit.Mixed
-- none: nilometer/nilometerkit.Copy[nilometer/rating.Gauging]
-- none: nilometer/nilometerkit.Copy[int]
-- none: nilometer/nilometerkit.Copy[nilometer/rating.Line]
-- none: nilometer/nilometerlaw04.below
-- none: nilometer/nilometerlaw04.sound
-- none: nilometer/nilometerlaw04.awake
-- none: nilometer/nilometerlaw04.Three
-- none: nilometer/nilometerlaw04.fraction
-- none: nilometer/nilometerlaw04.RatingRises
-- none: nilometer/nilometerlaw04.RatingScaled
-- none: nilometer/nilometerlaw04.RatingMore
-- none: nilometer/nilometerlaw04.RatingFewest
-- none: nilometer/nilometerlaw04.RatingPassed
-- none: nilometer/nilometerlaw04.RatingReached
-- none: nilometer/rating.Has
-- none: nilometer/nilometerref04.outside
-- none: nilometer/nilometerref04.Check
-- none: nilometer/nilometerref04.broken
-- none: nilometer/nilometerref04.crooked
-- none: nilometer/nilometerref04.CheckRating
-- none: nilometer/nilometerref04.low
-- none: nilometer/nilometerref04.below
-- none: nilometer/nilometerref04.had
-- none: nilometer/nilometerref04.kept
-- none: nilometer/nilometerref04.Has
-- none: nilometer/nilometerref04.Part
-- none: nilometer/nilometerref04.At
-- none: nilometer/nilometerref04.Passes
-- none: nilometer/nilometerlaw04.Gaugings
-- none: nilometer/nilometerlaw04.line
-- none: nilometer/nilometerlaw04.model
-- none: nilometer/nilometerkit.Same[nilometer/rating.Gauging]
abbrev BQC:FuncId:=3
noncomputable abbrev BBG:Func:=Tryz.f3
theorem CGN:Try.prog.funcs[BQC]?=some BBG:=Tryz.func3
abbrev BSO:FuncId:=6
noncomputable abbrev BZC:Func:=Tryz.f6
theorem CPZ:Try.prog.funcs[BSO]?=some BZC:=Tryz.func6
abbrev ASA:FuncId:=7
noncomputable abbrev ARS:Func:=Tryz.f7
theorem BOL:Try.prog.funcs[ASA]?=some ARS:=Tryz.func7
abbrev ACV:FuncId:=19
noncomputable abbrev APZ:Func:=Tryz.f19
theorem BPF:Try.prog.funcs[ACV]?=some APZ:=Tryz.func19
abbrev AMG:FuncId:=9
noncomputable abbrev BQM:Func:=Tryz.f9
theorem BVB:Try.prog.funcs[AMG]?=some BQM:=Tryz.func9
abbrev ADO:FuncId:=10
noncomputable abbrev AQB:Func:=Tryz.f10
theorem BVW:Try.prog.funcs[ADO]?=some AQB:=Tryz.func10
abbrev ADM:FuncId:=11
noncomputable abbrev ATE:Func:=Tryz.f11
theorem BTV:Try.prog.funcs[ADM]?=some ATE:=Tryz.func11
abbrev BDC:FuncId:=12
noncomputable abbrev BCP:Func:=Tryz.f12
theorem CDO:Try.prog.funcs[BDC]?=some BCP:=Tryz.func12
abbrev AFK:FuncId:=16
noncomputable abbrev BAU:Func:=Tryz.f16
theorem CEA:Try.prog.funcs[AFK]?=some BAU:=Tryz.func16
abbrev BAF:FuncId:=17
noncomputable abbrev BAQ:Func:=Tryz.f17
theorem CEX:Try.prog.funcs[BAF]?=some BAQ:=Tryz.func17
abbrev AGC:FuncId:=18
noncomputable abbrev AJP:Func:=Tryz.f18
theorem BKK:Try.prog.funcs[AGC]?=some AJP:=Tryz.func18
abbrev BDQ:FuncId:=20
noncomputable abbrev BDD:Func:=Tryz.f20
theorem CGH:Try.prog.funcs[BDQ]?=some BDD:=Tryz.func20
abbrev H8:FuncId:=39
noncomputable abbrev AHL:Func:=Tryz.f39
theorem BMK:Try.prog.funcs[H8]?=some AHL:=Tryz.func39
abbrev AMR:FuncId:=40
noncomputable abbrev BNQ:Func:=Tryz.f40
theorem CPL:Try.prog.funcs[AMR]?=some BNQ:=Tryz.func40
abbrev BAH:FuncId:=41
noncomputable abbrev AZU:Func:=Tryz.f41
theorem CAB:Try.prog.funcs[BAH]?=some AZU:=Tryz.func41
abbrev BCE:FuncId:=85
noncomputable abbrev BCI:Func:=Tryz.f85
theorem CAE:Try.prog.funcs[BCE]?=some BCI:=Tryz.func85
abbrev ATR:FuncId:=86
noncomputable abbrev AOP:Func:=Tryz.f86
theorem BTN:Try.prog.funcs[ATR]?=some AOP:=Tryz.func86
abbrev zG:FuncId:=82
noncomputable abbrev BDV:Func:=Tryz.f82
theorem CAX:Try.prog.funcs[zG]?=some BDV:=Tryz.func82
abbrev AUA:FuncId:=84
noncomputable abbrev BAZ:Func:=Tryz.f84
theorem CBO:Try.prog.funcs[AUA]?=some BAZ:=Tryz.func84
abbrev n_eN:FuncId:=83
noncomputable abbrev F_eN:Func:=Tryz.f83
theorem CRZ:Try.prog.funcs[n_eN]?=some F_eN:=Tryz.func83
abbrev AWZ:FuncId:=121
noncomputable abbrev BZV:Func:=Tryz.f121
theorem CMP:Try.prog.funcs[AWZ]?=some BZV:=Tryz.func121
abbrev BXP:FuncId:=120
noncomputable abbrev BUX:Func:=Tryz.f120
theorem CPN:Try.prog.funcs[BXP]?=some BUX:=Tryz.func120
abbrev BXD:FuncId:=150
noncomputable abbrev BRI:Func:=Tryz.f150
theorem CPU:Try.prog.funcs[BXD]?=some BRI:=Tryz.func150
abbrev BEV:FuncId:=122
noncomputable abbrev BBB:Func:=Tryz.f122
theorem CCU:Try.prog.funcs[BEV]?=some BBB:=Tryz.func122
abbrev ACY:FuncId:=123
noncomputable abbrev AQM:Func:=Tryz.f123
theorem BUS:Try.prog.funcs[ACY]?=some AQM:=Tryz.func123
abbrev mO:FuncId:=152
noncomputable abbrev vW:Func:=Tryz.f152
theorem ANL:Try.prog.funcs[mO]?=some vW:=Tryz.func152
abbrev ADC:FuncId:=124
noncomputable abbrev APE:Func:=Tryz.f124
theorem BTG:Try.prog.funcs[ADC]?=some APE:=Tryz.func124
abbrev ACD:FuncId:=125
noncomputable abbrev J3:Func:=Tryz.f125
theorem AVS:Try.prog.funcs[ACD]?=some J3:=Tryz.func125
abbrev N2:FuncId:=153
noncomputable abbrev uD:Func:=Tryz.f153
theorem ALY:Try.prog.funcs[N2]?=some uD:=Tryz.func153
abbrev xQ:FuncId:=154
noncomputable abbrev W0:Func:=Tryz.f154
theorem AJY:Try.prog.funcs[xQ]?=some W0:=Tryz.func154
abbrev AKY:FuncId:=165
noncomputable abbrev BDY:Func:=Tryz.f165
theorem CER:Try.prog.funcs[AKY]?=some BDY:=Tryz.func165
abbrev AEC:FuncId:=166
noncomputable abbrev BDW:Func:=Tryz.f166
theorem CBV:Try.prog.funcs[AEC]?=some BDW:=Tryz.func166
abbrev AZQ:FuncId:=164
noncomputable abbrev BAG:Func:=Tryz.f164
theorem CCI:Try.prog.funcs[AZQ]?=some BAG:=Tryz.func164
abbrev AQU:FuncId:=151
noncomputable abbrev ATF:Func:=Tryz.f151
theorem BSQ:Try.prog.funcs[AQU]?=some ATF:=Tryz.func151
abbrev BBL:FuncId:=21
noncomputable abbrev BCF:Func:=Tryz.f21
theorem CFX:Try.prog.funcs[BBL]?=some BCF:=Tryz.func21
abbrev APR:FuncId:=22
noncomputable abbrev AOR:Func:=Tryz.f22
theorem BRG:Try.prog.funcs[APR]?=some AOR:=Tryz.func22
abbrev M3:FuncId:=23
noncomputable abbrev AID:Func:=Tryz.f23
theorem BLU:Try.prog.funcs[M3]?=some AID:=Tryz.func23
abbrev AQP:FuncId:=24
noncomputable abbrev BAB:Func:=Tryz.f24
theorem CDR:Try.prog.funcs[AQP]?=some BAB:=Tryz.func24
abbrev oI:FuncId:=50
noncomputable abbrev G7:Func:=Tryz.f50
theorem AVC:Try.prog.funcs[oI]?=some G7:=Tryz.func50
abbrev L7:FuncId:=25
noncomputable abbrev BTJ:Func:=Tryz.f25
theorem CPO:Try.prog.funcs[L7]?=some BTJ:=Tryz.func25
abbrev AIU:FuncId:=42
noncomputable abbrev AHO:Func:=Tryz.f42
theorem BKI:Try.prog.funcs[AIU]?=some AHO:=Tryz.func42
abbrev APG:FuncId:=43
noncomputable abbrev AOW:Func:=Tryz.f43
theorem BTE:Try.prog.funcs[APG]?=some AOW:=Tryz.func43
abbrev ALL:FuncId:=44
noncomputable abbrev AGR:Func:=Tryz.f44
theorem BMR:Try.prog.funcs[ALL]?=some AGR:=Tryz.func44
abbrev n_eV:FuncId:=45
noncomputable abbrev F_eV:Func:=Tryz.f45
theorem CSE:Try.prog.funcs[n_eV]?=some F_eV:=Tryz.func45
abbrev BGW:FuncId:=88
noncomputable abbrev BUN:Func:=Tryz.f88
theorem CLS:Try.prog.funcs[BGW]?=some BUN:=Tryz.func88
abbrev BSZ:FuncId:=87
noncomputable abbrev BXK:Func:=Tryz.f87
theorem CNC:Try.prog.funcs[BSZ]?=some BXK:=Tryz.func87
abbrev BOU:FuncId:=126
noncomputable abbrev BXY:Func:=Tryz.f126
theorem CKY:Try.prog.funcs[BOU]?=some BXY:=Tryz.func126
abbrev AEE:FuncId:=46
noncomputable abbrev BDH:Func:=Tryz.f46
theorem CAZ:Try.prog.funcs[AEE]?=some BDH:=Tryz.func46
abbrev CLV:FuncId:=49
abbrev AHN:FuncId:=47
noncomputable abbrev ADU:Func:=Tryz.f47
theorem BLI:Try.prog.funcs[AHN]?=some ADU:=Tryz.func47
abbrev BBO:FuncId:=48
noncomputable abbrev BCX:Func:=Tryz.f48
theorem CEC:Try.prog.funcs[BBO]?=some BCX:=Tryz.func48
abbrev V3:FuncId:=33
noncomputable abbrev T2:Func:=Tryz.f33
theorem BAW:Try.prog.funcs[V3]?=some T2:=Tryz.func33
abbrev BBK:FuncId:=34
noncomputable abbrev BDL:Func:=Tryz.f34
theorem CFR:Try.prog.funcs[BBK]?=some BDL:=Tryz.func34
abbrev AEY:FuncId:=35
noncomputable abbrev AEB:Func:=Tryz.f35
theorem BMZ:Try.prog.funcs[AEY]?=some AEB:=Tryz.func35
abbrev ATM:FuncId:=78
noncomputable abbrev BCA:Func:=Tryz.f78
theorem CED:Try.prog.funcs[ATM]?=some BCA:=Tryz.func78
abbrev APS:FuncId:=114
noncomputable abbrev BEJ:Func:=Tryz.f114
theorem CAS:Try.prog.funcs[APS]?=some BEJ:=Tryz.func114
abbrev AQW:FuncId:=36
noncomputable abbrev ASI:Func:=Tryz.f36
theorem BYY:Try.prog.funcs[AQW]?=some ASI:=Tryz.func36
abbrev AUV:FuncId:=37
noncomputable abbrev AQF:Func:=Tryz.f37
theorem BVR:Try.prog.funcs[AUV]?=some AQF:=Tryz.func37
abbrev ASH:FuncId:=38
noncomputable abbrev ATH:Func:=Tryz.f38
theorem BPV:Try.prog.funcs[ASH]?=some ATH:=Tryz.func38
abbrev M9:FuncId:=72
noncomputable abbrev ALA:Func:=Tryz.f72
theorem BMH:Try.prog.funcs[M9]?=some ALA:=Tryz.func72
abbrev Z7:FuncId:=73
noncomputable abbrev BUU:Func:=Tryz.f73
theorem COV:Try.prog.funcs[Z7]?=some BUU:=Tryz.func73
abbrev BDU:FuncId:=74
noncomputable abbrev BDS:Func:=Tryz.f74
theorem CDJ:Try.prog.funcs[BDU]?=some BDS:=Tryz.func74
abbrev ARU:FuncId:=75
noncomputable abbrev APA:Func:=Tryz.f75
theorem BPJ:Try.prog.funcs[ARU]?=some APA:=Tryz.func75
abbrev tM:FuncId:=112
noncomputable abbrev ADY:Func:=Tryz.f112
theorem BLJ:Try.prog.funcs[tM]?=some ADY:=Tryz.func112
abbrev mC:FuncId:=113
noncomputable abbrev AIH:Func:=Tryz.f113
theorem BLE:Try.prog.funcs[mC]?=some AIH:=Tryz.func113
abbrev BEK:FuncId:=76
noncomputable abbrev BCL:Func:=Tryz.f76
theorem CCB:Try.prog.funcs[BEK]?=some BCL:=Tryz.func76
abbrev ATG:FuncId:=77
noncomputable abbrev E7:Func:=Tryz.f77
theorem AWS:Try.prog.funcs[ATG]?=some E7:=Tryz.func77
abbrev L9:FuncId:=107
noncomputable abbrev AOV:Func:=Tryz.f107
theorem BQG:Try.prog.funcs[L9]?=some AOV:=Tryz.func107
abbrev I8:FuncId:=110
noncomputable abbrev AIS:Func:=Tryz.f110
theorem BMF:Try.prog.funcs[I8]?=some AIS:=Tryz.func110
abbrev n_eD:FuncId:=108
noncomputable abbrev F_eD:Func:=Tryz.f108
theorem CSC:Try.prog.funcs[n_eD]?=some F_eD:=Tryz.func108
abbrev BJS:FuncId:=141
noncomputable abbrev BRT:Func:=Tryz.f141
theorem CNM:Try.prog.funcs[BJS]?=some BRT:=Tryz.func141
abbrev BPX:FuncId:=140
noncomputable abbrev BXZ:Func:=Tryz.f140
theorem CMD:Try.prog.funcs[BPX]?=some BXZ:=Tryz.func140
abbrev BXT:FuncId:=159
noncomputable abbrev BYT:Func:=Tryz.f159
theorem CPT:Try.prog.funcs[BXT]?=some BYT:=Tryz.func159
abbrev S8:FuncId:=109
noncomputable abbrev BDN:Func:=Tryz.f109
theorem CAA:Try.prog.funcs[S8]?=some BDN:=Tryz.func109
abbrev BBF:FuncId:=111
noncomputable abbrev BDM:Func:=Tryz.f111
theorem CEQ:Try.prog.funcs[BBF]?=some BDM:=Tryz.func111
abbrev ACX:FuncId:=143
noncomputable abbrev ASY:Func:=Tryz.f143
theorem BZG:Try.prog.funcs[ACX]?=some ASY:=Tryz.func143
abbrev E8:FuncId:=146
noncomputable abbrev ATD:Func:=Tryz.f146
theorem BXQ:Try.prog.funcs[E8]?=some ATD:=Tryz.func146
abbrev AUX:FuncId:=142
noncomputable abbrev ARX:Func:=Tryz.f142
theorem BSC:Try.prog.funcs[AUX]?=some ARX:=Tryz.func142
abbrev AGP:FuncId:=144
noncomputable abbrev AGE:Func:=Tryz.f144
theorem BNB:Try.prog.funcs[AGP]?=some AGE:=Tryz.func144
abbrev wS:FuncId:=160
noncomputable abbrev U4:Func:=Tryz.f160
theorem BDP:Try.prog.funcs[wS]?=some U4:=Tryz.func160
abbrev n_eS:FuncId:=145
noncomputable abbrev F_eS:Func:=Tryz.f145
theorem CRT:Try.prog.funcs[n_eS]?=some F_eS:=Tryz.func145
abbrev BGO:FuncId:=162
noncomputable abbrev BNG:Func:=Tryz.f162
theorem CPA:Try.prog.funcs[BGO]?=some BNG:=Tryz.func162
abbrev BWM:FuncId:=161
noncomputable abbrev BUB:Func:=Tryz.f161
theorem CPS:Try.prog.funcs[BWM]?=some BUB:=Tryz.func161
abbrev BRE:FuncId:=170
noncomputable abbrev BTH:Func:=Tryz.f170
theorem CLH:Try.prog.funcs[BRE]?=some BTH:=Tryz.func170
abbrev AGH:FuncId:=79
noncomputable abbrev AFZ:Func:=Tryz.f79
theorem BKT:Try.prog.funcs[AGH]?=some AFZ:=Tryz.func79
abbrev W8:FuncId:=117
noncomputable abbrev BBA:Func:=Tryz.f117
theorem CEE:Try.prog.funcs[W8]?=some BBA:=Tryz.func117
abbrev ANG:FuncId:=115
noncomputable abbrev BUL:Func:=Tryz.f115
theorem CKX:Try.prog.funcs[ANG]?=some BUL:=Tryz.func115
abbrev I4:FuncId:=80
noncomputable abbrev AEL:Func:=Tryz.f80
theorem BKD:Try.prog.funcs[I4]?=some AEL:=Tryz.func80
abbrev AHB:FuncId:=81
noncomputable abbrev AJW:Func:=Tryz.f81
theorem BLW:Try.prog.funcs[AHB]?=some AJW:=Tryz.func81
abbrev n_eR:FuncId:=116
noncomputable abbrev F_eR:Func:=Tryz.f116
theorem CTI:Try.prog.funcs[n_eR]?=some F_eR:=Tryz.func116
abbrev ANU:FuncId:=148
noncomputable abbrev BNI:Func:=Tryz.f148
theorem CLZ:Try.prog.funcs[ANU]?=some BNI:=Tryz.func148
abbrev BZS:FuncId:=147
noncomputable abbrev BWQ:Func:=Tryz.f147
theorem CMB:Try.prog.funcs[BZS]?=some BWQ:=Tryz.func147
abbrev BWX:FuncId:=163
noncomputable abbrev BUD:Func:=Tryz.f163
theorem CNI:Try.prog.funcs[BWX]?=some BUD:=Tryz.func163
abbrev AJH:FuncId:=118
noncomputable abbrev AIZ:Func:=Tryz.f118
theorem BLT:Try.prog.funcs[AJH]?=some AIZ:=Tryz.func118
abbrev xM:FuncId:=149
noncomputable abbrev S9:Func:=Tryz.f149
theorem BEF:Try.prog.funcs[xM]?=some S9:=Tryz.func149
abbrev AIJ:FuncId:=119
noncomputable abbrev AKB:Func:=Tryz.f119
theorem BKW:Try.prog.funcs[AIJ]?=some AKB:=Tryz.func119
end Go.Bal
