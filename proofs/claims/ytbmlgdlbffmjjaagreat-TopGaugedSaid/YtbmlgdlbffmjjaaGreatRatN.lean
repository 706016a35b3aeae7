/- Functions by name. -/
import Derived.Test.YtbmlgdlbffmjjaaGreatCom0
set_option linter.unusedVariables false
set_option linter.unusedSimpArgs false
namespace Go.Bal
open Go Go.Sym Go.Proofs
abbrev n_in:FuncId:=51
noncomputable abbrev F_in:Func:=Tryz.f51
theorem CRS:Try.prog.funcs[n_in]?=some F_in:=Tryz.func51
abbrev n_eG:FuncId:=52
noncomputable abbrev F_eG:Func:=Tryz.f52
theorem CJO:Try.prog.funcs[n_eG]?=some F_eG:=Tryz.func52
abbrev n_eL:FuncId:=55
noncomputable abbrev F_eL:Func:=Tryz.f55
theorem CQQ:Try.prog.funcs[n_eL]?=some F_eL:=Tryz.func55
abbrev n_eI:FuncId:=134
noncomputable abbrev F_eI:Func:=Tryz.f134
theorem CQD:Try.prog.funcs[n_eI]?=some F_eI:=Tryz.func134
abbrev K9:FuncId:=90
noncomputable abbrev AVT:Func:=Tryz.f90
theorem BXC:Try.prog.funcs[K9]?=some AVT:=Tryz.func90
abbrev AZG:FuncId:=92
noncomputable abbrev BZF:Func:=Tryz.f92
theorem CNE:Try.prog.funcs[AZG]?=some BZF:=Tryz.func92
abbrev AVL:FuncId:=158
noncomputable abbrev BZH:Func:=Tryz.f158
theorem CPR:Try.prog.funcs[AVL]?=some BZH:=Tryz.func158
abbrev AXG:FuncId:=89
noncomputable abbrev AZB:Func:=Tryz.f89
theorem BRY:Try.prog.funcs[AXG]?=some AZB:=Tryz.func89
abbrev BOS:FuncId:=91
noncomputable abbrev BOD:Func:=Tryz.f91
theorem CPZ:Try.prog.funcs[BOS]?=some BOD:=Tryz.func91
abbrev BPU:FuncId:=157
noncomputable abbrev BZG:Func:=Tryz.f157
theorem CPU:Try.prog.funcs[BPU]?=some BZG:=Tryz.func157
abbrev AYV:FuncId:=127
noncomputable abbrev AWT:Func:=Tryz.f127
theorem BZX:Try.prog.funcs[AYV]?=some AWT:=Tryz.func127
abbrev BXA:FuncId:=128
noncomputable abbrev BSB:Func:=Tryz.f128
theorem CPB:Try.prog.funcs[BXA]?=some BSB:=Tryz.func128
abbrev BSL:FuncId:=169
noncomputable abbrev BWW:Func:=Tryz.f169
theorem COJ:Try.prog.funcs[BSL]?=some BWW:=Tryz.func169
abbrev BFV:FuncId:=53
noncomputable abbrev BOP:Func:=Tryz.f53
theorem CPC:Try.prog.funcs[BFV]?=some BOP:=Tryz.func53
abbrev BJX:FuncId:=93
noncomputable abbrev BWA:Func:=Tryz.f93
theorem CLW:Try.prog.funcs[BJX]?=some BWA:=Tryz.func93
abbrev AJF:FuncId:=56
noncomputable abbrev BOU:Func:=Tryz.f56
theorem COE:Try.prog.funcs[AJF]?=some BOU:=Tryz.func56
abbrev J9:FuncId:=26
noncomputable abbrev AOY:Func:=Tryz.f26
theorem BQN:Try.prog.funcs[J9]?=some AOY:=Tryz.func26
abbrev F1:FuncId:=54
noncomputable abbrev AEL:Func:=Tryz.f54
theorem BKD:Try.prog.funcs[F1]?=some AEL:=Tryz.func54
abbrev AGA:FuncId:=27
noncomputable abbrev AJM:Func:=Tryz.f27
theorem BMM:Try.prog.funcs[AGA]?=some AJM:=Tryz.func27
abbrev zV:FuncId:=129
noncomputable abbrev A1:Func:=Tryz.f129
theorem AWS:Try.prog.funcs[zV]?=some A1:=Tryz.func129
abbrev ACW:FuncId:=96
noncomputable abbrev APB:Func:=Tryz.f96
theorem BXO:Try.prog.funcs[ACW]?=some APB:=Tryz.func96
abbrev X8:FuncId:=105
noncomputable abbrev P2:Func:=Tryz.f105
theorem BCI:Try.prog.funcs[X8]?=some P2:=Tryz.func105
abbrev AOD:FuncId:=58
noncomputable abbrev BXZ:Func:=Tryz.f58
theorem CNQ:Try.prog.funcs[AOD]?=some BXZ:=Tryz.func58
abbrev wW:FuncId:=188
noncomputable abbrev Z6:Func:=Tryz.f188
theorem AZY:Try.prog.funcs[wW]?=some Z6:=Tryz.func188
abbrev ABX:FuncId:=187
noncomputable abbrev ARW:Func:=Tryz.f187
theorem BSJ:Try.prog.funcs[ABX]?=some ARW:=Tryz.func187
abbrev AHU:FuncId:=28
noncomputable abbrev BBV:Func:=Tryz.f28
theorem CEA:Try.prog.funcs[AHU]?=some BBV:=Tryz.func28
abbrev BDJ:FuncId:=57
noncomputable abbrev AZZ:Func:=Tryz.f57
theorem CCW:Try.prog.funcs[BDJ]?=some AZZ:=Tryz.func57
abbrev zA:FuncId:=61
noncomputable abbrev BBJ:Func:=Tryz.f61
theorem CFJ:Try.prog.funcs[zA]?=some BBJ:=Tryz.func61
abbrev AUK:FuncId:=94
noncomputable abbrev ASR:Func:=Tryz.f94
theorem BNU:Try.prog.funcs[AUK]?=some ASR:=Tryz.func94
abbrev V7:FuncId:=98
noncomputable abbrev BDU:Func:=Tryz.f98
theorem CBB:Try.prog.funcs[V7]?=some BDU:=Tryz.func98
abbrev BAM:FuncId:=95
noncomputable abbrev BDT:Func:=Tryz.f95
theorem CBR:Try.prog.funcs[BAM]?=some BDT:=Tryz.func95
abbrev ACU:FuncId:=71
noncomputable abbrev AQW:Func:=Tryz.f71
theorem BWR:Try.prog.funcs[ACU]?=some AQW:=Tryz.func71
-- none: nilometer/rating.At
abbrev vC:FuncId:=29
noncomputable abbrev AIP:Func:=Tryz.f29
theorem BMT:Try.prog.funcs[vC]?=some AIP:=Tryz.func29
abbrev AJZ:FuncId:=13
noncomputable abbrev AIF:Func:=Tryz.f13
theorem BLU:Try.prog.funcs[AJZ]?=some AIF:=Tryz.func13
abbrev nM:FuncId:=62
noncomputable abbrev ATX:Func:=Tryz.f62
theorem BWK:Try.prog.funcs[nM]?=some ATX:=Tryz.func62
abbrev ALA:FuncId:=133
noncomputable abbrev BBP:Func:=Tryz.f133
theorem CGH:Try.prog.funcs[ALA]?=some BBP:=Tryz.func133
abbrev APC:FuncId:=156
noncomputable abbrev ADU:Func:=Tryz.f156
theorem BIK:Try.prog.funcs[APC]?=some ADU:=Tryz.func156
abbrev AFG:FuncId:=168
noncomputable abbrev AEN:Func:=Tryz.f168
theorem BIX:Try.prog.funcs[AFG]?=some AEN:=Tryz.func168
abbrev xS:FuncId:=100
noncomputable abbrev Z2:Func:=Tryz.f100
theorem BEF:Try.prog.funcs[xS]?=some Z2:=Tryz.func100
abbrev Fj:FuncId:=132
noncomputable abbrev fN:Func:=Tryz.f132
theorem uH:Try.prog.funcs[Fj]?=some fN:=Tryz.func132
abbrev mN:FuncId:=99
noncomputable abbrev X2:Func:=Tryz.f99
theorem AZT:Try.prog.funcs[mN]?=some X2:=Tryz.func99
abbrev AKN:FuncId:=65
noncomputable abbrev AZX:Func:=Tryz.f65
theorem CAL:Try.prog.funcs[AKN]?=some AZX:=Tryz.func65
abbrev uF:FuncId:=67
noncomputable abbrev tL:Func:=Tryz.f67
theorem AOL:Try.prog.funcs[uF]?=some tL:=Tryz.func67
abbrev AFL:FuncId:=138
noncomputable abbrev AGW:Func:=Tryz.f138
theorem BME:Try.prog.funcs[AFL]?=some AGW:=Tryz.func138
-- none: nilometer/rating.Through
abbrev G9:FuncId:=64
noncomputable abbrev AHI:Func:=Tryz.f64
theorem BLV:Try.prog.funcs[G9]?=some AHI:=Tryz.func64
abbrev AUS:FuncId:=102
noncomputable abbrev APN:Func:=Tryz.f102
theorem BYQ:Try.prog.funcs[AUS]?=some APN:=Tryz.func102
abbrev L6:FuncId:=135
noncomputable abbrev AIT:Func:=Tryz.f135
theorem BKT:Try.prog.funcs[L6]?=some AIT:=Tryz.func135
abbrev nI:FuncId:=137
noncomputable abbrev AFN:Func:=Tryz.f137
theorem BKI:Try.prog.funcs[nI]?=some AFN:=Tryz.func137
abbrev AED:FuncId:=136
noncomputable abbrev AJN:Func:=Tryz.f136
theorem BKJ:Try.prog.funcs[AED]?=some AJN:=Tryz.func136
-- none: nilometer/rating.Knot
abbrev H9:FuncId:=30
noncomputable abbrev AJJ:Func:=Tryz.f30
theorem BKO:Try.prog.funcs[H9]?=some AJJ:=Tryz.func30
abbrev Si:FuncId:=60
noncomputable abbrev V2:Func:=Tryz.f60
theorem BAD:Try.prog.funcs[Si]?=some V2:=Tryz.func60
abbrev W5:FuncId:=63
noncomputable abbrev P7:Func:=Tryz.f63
theorem BCS:Try.prog.funcs[W5]?=some P7:=Tryz.func63
abbrev BON:FuncId:=59
noncomputable abbrev BYR:Func:=Tryz.f59
theorem CON:Try.prog.funcs[BON]?=some BYR:=Tryz.func59
abbrev BHL:FuncId:=97
noncomputable abbrev BTA:Func:=Tryz.f97
theorem COL:Try.prog.funcs[BHL]?=some BTA:=Tryz.func97
abbrev ATQ:FuncId:=130
noncomputable abbrev BBL:Func:=Tryz.f130
theorem CCN:Try.prog.funcs[ATQ]?=some BBL:=Tryz.func130
abbrev S5:FuncId:=66
noncomputable abbrev Y5:Func:=Tryz.f66
theorem BDC:Try.prog.funcs[S5]?=some Y5:=Tryz.func66
abbrev oK:FuncId:=101
noncomputable abbrev zQ:Func:=Tryz.f101
theorem AZF:Try.prog.funcs[oK]?=some zQ:=Tryz.func101
abbrev AZW:FuncId:=14
noncomputable abbrev BDM:Func:=Tryz.f14
theorem CER:Try.prog.funcs[AZW]?=some BDM:=Tryz.func14
-- none: nilometer/rating.Knots
-- none: nilometer/rating.Proves
-- none: nilometer/rating.Proves$1
abbrev BEJ:FuncId:=69
noncomputable abbrev BBY:Func:=Tryz.f69
theorem CCQ:Try.prog.funcs[BEJ]?=some BBY:=Tryz.func69
abbrev Ex:FuncId:=104
noncomputable abbrev APJ:Func:=Tryz.f104
theorem BWH:Try.prog.funcs[Ex]?=some APJ:=Tryz.func104
abbrev BAA:FuncId:=70
noncomputable abbrev BBT:Func:=Tryz.f70
theorem CAD:Try.prog.funcs[BAA]?=some BBT:=Tryz.func70
abbrev Fc:FuncId:=106
noncomputable abbrev ATY:Func:=Tryz.f106
theorem BWZ:Try.prog.funcs[Fc]?=some ATY:=Tryz.func106
abbrev ASI:FuncId:=103
noncomputable abbrev L8:Func:=Tryz.f103
theorem AYU:Try.prog.funcs[ASI]?=some L8:=Tryz.func103
abbrev ADP:FuncId:=139
noncomputable abbrev L3:Func:=Tryz.f139
theorem AVQ:Try.prog.funcs[ADP]?=some L3:=Tryz.func139
abbrev APX:FuncId:=68
noncomputable abbrev AFC:Func:=Tryz.f68
theorem BGB:Try.prog.funcs[APX]?=some AFC:=Tryz.func68
abbrev uC:FuncId:=32
noncomputable abbrev AJB:Func:=Tryz.f32
theorem BLM:Try.prog.funcs[uC]?=some AJB:=Tryz.func32
abbrev cW:FuncId:=31
noncomputable abbrev cZ:Func:=Tryz.f31
theorem O9:Try.prog.funcs[cW]?=some cZ:=Tryz.func31
abbrev BDA:FuncId:=15
noncomputable abbrev B7:Func:=Tryz.f15
theorem AUA:Try.prog.funcs[BDA]?=some B7:=Tryz.func15
-- none: nilometer/rating.Reach
-- none: (*nilometer/rating.book).span
-- none: (*nilometer/rating.book).upTo
-- none: nilometer/rating.Stages
-- none: nilometer/rating.Stages$1
-- none: nilometer/rating.Stages$2
-- none: nilometer/rating.Dry
-- none: nilometer/rating.Dry$1
-- none: nilometer/rating.Dry$2
-- none: nilometer/rating.Dry$3
-- none: nilometer/rating.Widest
-- none: nilometer/nilometerlaw04.Made
abbrev BVZ:FuncId:=4
noncomputable abbrev BUV:Func:=Tryz.f4
theorem COV:Try.prog.funcs[BVZ]?=some BUV:=Tryz.func4
-- none: nilometer/nilometerkit.Pick
abbrev AIV:FuncId:=8
noncomputable abbrev AZS:Func:=Tryz.f8
theorem CFN:Try.prog.funcs[AIV]?=some AZS:=Tryz.func8
abbrev J7:FuncId:=5
noncomputable abbrev AKR:Func:=Tryz.f5
theorem BMB:Try.prog.funcs[J7]?=some AKR:=Tryz.func5
-- none: nilometer/nilometerkit.Mixed
-- none: nilometer/nilometerkit.Copy[nilometer/rating.Gauging]
-- none: nilometer/nilometerkit.Copy[int]
-- none: nilometer/nilometerkit.Copy[nilometer/rating.Line]
-- none: nilometer/nilometerlaw04.below
-- none: nilometer/nilometerlaw04.sound
-- none: nilometer/nilometerlaw04.awake
-- none: nilometer/nilometerlaw04.Three
-- none: nilometer/nilometerlaw04.fraction
-- none: nilometer/nilometerlaw04.RatingRises
-- none: nilometer/nilometerlaw04.RatingScaled
-- none: nilometer/nilometerlaw04.RatingMore
-- none: nilometer/nilometerlaw04.RatingFewest
-- none: nilometer/nilometerlaw04.RatingPassed
-- none: nilometer/nilometerlaw04.RatingReached
-- none: nilometer/rating.Has
-- none: nilometer/nilometerref04.outside
-- none: nilometer/nilometerref04.Check
-- none: nilometer/nilometerref04.broken
-- none: nilometer/nilometerref04.crooked
-- none: nilometer/nilometerref04.CheckRating
-- none: nilometer/nilometerref04.low
-- none: nilometer/nilometerref04.below
-- none: nilometer/nilometerref04.had
-- none: nilometer/nilometerref04.kept
-- none: nilometer/nilometerref04.Has
-- none: nilometer/nilometerref04.Part
-- none: nilometer/nilometerref04.At
-- none: nilometer/nilometerref04.Passes
-- none: nilometer/nilometerlaw04.Gaugings
-- none: nilometer/nilometerlaw04.line
-- none: nilometer/nilometerlaw04.model
-- none: nilometer/nilometerkit.Same[nilometer/rating.Gauging]
abbrev BZA:FuncId:=3
noncomputable abbrev BED:Func:=Tryz.f3
theorem CCJ:Try.prog.funcs[BZA]?=some BED:=Tryz.func3
abbrev BUT:FuncId:=6
noncomputable abbrev BWI:Func:=Tryz.f6
theorem CMG:Try.prog.funcs[BUT]?=some BWI:=Tryz.func6
abbrev AQD:FuncId:=7
noncomputable abbrev AUI:Func:=Tryz.f7
theorem BOM:Try.prog.funcs[AQD]?=some AUI:=Tryz.func7
abbrev ADD:FuncId:=19
noncomputable abbrev ASU:Func:=Tryz.f19
theorem BNR:Try.prog.funcs[ADD]?=some ASU:=Tryz.func19
abbrev AOA:FuncId:=9
noncomputable abbrev BNY:Func:=Tryz.f9
theorem BOJ:Try.prog.funcs[AOA]?=some BNY:=Tryz.func9
abbrev ACT:FuncId:=10
noncomputable abbrev ARV:Func:=Tryz.f10
theorem BVK:Try.prog.funcs[ACT]?=some ARV:=Tryz.func10
abbrev ADL:FuncId:=11
noncomputable abbrev ASV:Func:=Tryz.f11
theorem BTL:Try.prog.funcs[ADL]?=some ASV:=Tryz.func11
abbrev BBZ:FuncId:=12
noncomputable abbrev BCV:Func:=Tryz.f12
theorem CBT:Try.prog.funcs[BBZ]?=some BCV:=Tryz.func12
abbrev AGK:FuncId:=16
noncomputable abbrev BEV:Func:=Tryz.f16
theorem CEM:Try.prog.funcs[AGK]?=some BEV:=Tryz.func16
abbrev BCT:FuncId:=17
noncomputable abbrev BCZ:Func:=Tryz.f17
theorem CCK:Try.prog.funcs[BCT]?=some BCZ:=Tryz.func17
abbrev AKA:FuncId:=18
noncomputable abbrev AJC:Func:=Tryz.f18
theorem BMF:Try.prog.funcs[AKA]?=some AJC:=Tryz.func18
abbrev BCY:FuncId:=20
noncomputable abbrev BDZ:Func:=Tryz.f20
theorem CFM:Try.prog.funcs[BCY]?=some BDZ:=Tryz.func20
abbrev M1:FuncId:=39
noncomputable abbrev AHD:Func:=Tryz.f39
theorem BKK:Try.prog.funcs[M1]?=some AHD:=Tryz.func39
abbrev ANL:FuncId:=40
noncomputable abbrev BYY:Func:=Tryz.f40
theorem CNA:Try.prog.funcs[ANL]?=some BYY:=Tryz.func40
abbrev BDE:FuncId:=41
noncomputable abbrev BCB:Func:=Tryz.f41
theorem CBM:Try.prog.funcs[BDE]?=some BCB:=Tryz.func41
abbrev BAZ:FuncId:=85
noncomputable abbrev BAG:Func:=Tryz.f85
theorem CGK:Try.prog.funcs[BAZ]?=some BAG:=Tryz.func85
abbrev ATA:FuncId:=86
noncomputable abbrev ARC:Func:=Tryz.f86
theorem BSH:Try.prog.funcs[ATA]?=some ARC:=Tryz.func86
abbrev C6:FuncId:=82
noncomputable abbrev BDN:Func:=Tryz.f82
theorem CEX:Try.prog.funcs[C6]?=some BDN:=Tryz.func82
abbrev AUT:FuncId:=84
noncomputable abbrev BBS:Func:=Tryz.f84
theorem CCZ:Try.prog.funcs[AUT]?=some BBS:=Tryz.func84
abbrev n_eN:FuncId:=83
noncomputable abbrev F_eN:Func:=Tryz.f83
theorem CRZ:Try.prog.funcs[n_eN]?=some F_eN:=Tryz.func83
abbrev AZL:FuncId:=121
noncomputable abbrev BXM:Func:=Tryz.f121
theorem CNF:Try.prog.funcs[AZL]?=some BXM:=Tryz.func121
abbrev BQV:FuncId:=120
noncomputable abbrev BRE:Func:=Tryz.f120
theorem CMQ:Try.prog.funcs[BQV]?=some BRE:=Tryz.func120
abbrev BPB:FuncId:=150
noncomputable abbrev BXF:Func:=Tryz.f150
theorem COX:Try.prog.funcs[BPB]?=some BXF:=Tryz.func150
abbrev BAV:FuncId:=122
noncomputable abbrev BAQ:Func:=Tryz.f122
theorem CBI:Try.prog.funcs[BAV]?=some BAQ:=Tryz.func122
abbrev ACJ:FuncId:=123
noncomputable abbrev ASX:Func:=Tryz.f123
theorem BPA:Try.prog.funcs[ACJ]?=some ASX:=Tryz.func123
abbrev lY:FuncId:=152
noncomputable abbrev uK:Func:=Tryz.f152
theorem AOJ:Try.prog.funcs[lY]?=some uK:=Tryz.func152
abbrev ACX:FuncId:=124
noncomputable abbrev ATJ:Func:=Tryz.f124
theorem BPX:Try.prog.funcs[ACX]?=some ATJ:=Tryz.func124
abbrev ACF:FuncId:=125
noncomputable abbrev F5:Func:=Tryz.f125
theorem AXZ:Try.prog.funcs[ACF]?=some F5:=Tryz.func125
abbrev E3:FuncId:=153
noncomputable abbrev wN:Func:=Tryz.f153
theorem AND:Try.prog.funcs[E3]?=some wN:=Tryz.func153
abbrev wT:FuncId:=154
noncomputable abbrev X9:Func:=Tryz.f154
theorem AIW:Try.prog.funcs[wT]?=some X9:=Tryz.func154
abbrev AFY:FuncId:=165
noncomputable abbrev BAO:Func:=Tryz.f165
theorem CBO:Try.prog.funcs[AFY]?=some BAO:=Tryz.func165
abbrev AHE:FuncId:=166
noncomputable abbrev BBC:Func:=Tryz.f166
theorem CCA:Try.prog.funcs[AHE]?=some BBC:=Tryz.func166
abbrev BAC:FuncId:=164
noncomputable abbrev BBF:Func:=Tryz.f164
theorem CEU:Try.prog.funcs[BAC]?=some BBF:=Tryz.func164
abbrev AQT:FuncId:=151
noncomputable abbrev AQP:Func:=Tryz.f151
theorem BVL:Try.prog.funcs[AQT]?=some AQP:=Tryz.func151
abbrev BCC:FuncId:=21
noncomputable abbrev BDQ:Func:=Tryz.f21
theorem CFC:Try.prog.funcs[BCC]?=some BDQ:=Tryz.func21
abbrev AQQ:FuncId:=22
noncomputable abbrev ASM:Func:=Tryz.f22
theorem BOB:Try.prog.funcs[AQQ]?=some ASM:=Tryz.func22
abbrev M6:FuncId:=23
noncomputable abbrev AJE:Func:=Tryz.f23
theorem BMV:Try.prog.funcs[M6]?=some AJE:=Tryz.func23
abbrev AQB:FuncId:=24
noncomputable abbrev BAK:Func:=Tryz.f24
theorem CAG:Try.prog.funcs[AQB]?=some BAK:=Tryz.func24
abbrev oU:FuncId:=50
noncomputable abbrev E5:Func:=Tryz.f50
theorem AWX:Try.prog.funcs[oU]?=some E5:=Tryz.func50
abbrev J2:FuncId:=25
noncomputable abbrev BSZ:Func:=Tryz.f25
theorem CPN:Try.prog.funcs[J2]?=some BSZ:=Tryz.func25
abbrev AKI:FuncId:=42
noncomputable abbrev AFS:Func:=Tryz.f42
theorem BMR:Try.prog.funcs[AKI]?=some AFS:=Tryz.func42
abbrev ATG:FuncId:=43
noncomputable abbrev ARR:Func:=Tryz.f43
theorem BUX:Try.prog.funcs[ATG]?=some ARR:=Tryz.func43
abbrev AFK:FuncId:=44
noncomputable abbrev AJI:Func:=Tryz.f44
theorem BKQ:Try.prog.funcs[AFK]?=some AJI:=Tryz.func44
abbrev n_eV:FuncId:=45
noncomputable abbrev F_eV:Func:=Tryz.f45
theorem CRK:Try.prog.funcs[n_eV]?=some F_eV:=Tryz.func45
abbrev BGU:FuncId:=88
noncomputable abbrev BXQ:Func:=Tryz.f88
theorem COA:Try.prog.funcs[BGU]?=some BXQ:=Tryz.func88
abbrev BPW:FuncId:=87
noncomputable abbrev BNH:Func:=Tryz.f87
theorem CKY:Try.prog.funcs[BPW]?=some BNH:=Tryz.func87
abbrev BYT:FuncId:=126
noncomputable abbrev BNN:Func:=Tryz.f126
theorem COT:Try.prog.funcs[BYT]?=some BNN:=Tryz.func126
abbrev AJX:FuncId:=46
noncomputable abbrev BAR:Func:=Tryz.f46
theorem CEQ:Try.prog.funcs[AJX]?=some BAR:=Tryz.func46
abbrev CPF:FuncId:=49
abbrev AHB:FuncId:=47
noncomputable abbrev AKK:Func:=Tryz.f47
theorem BKG:Try.prog.funcs[AHB]?=some AKK:=Tryz.func47
abbrev BCK:FuncId:=48
noncomputable abbrev BCG:Func:=Tryz.f48
theorem CEG:Try.prog.funcs[BCK]?=some BCG:=Tryz.func48
abbrev U6:FuncId:=33
noncomputable abbrev U9:Func:=Tryz.f33
theorem BDD:Try.prog.funcs[U6]?=some U9:=Tryz.func33
abbrev BBR:FuncId:=34
noncomputable abbrev BBW:Func:=Tryz.f34
theorem BZZ:Try.prog.funcs[BBR]?=some BBW:=Tryz.func34
abbrev AGO:FuncId:=35
noncomputable abbrev ALD:Func:=Tryz.f35
theorem BMP:Try.prog.funcs[AGO]?=some ALD:=Tryz.func35
abbrev ATH:FuncId:=78
noncomputable abbrev BDF:Func:=Tryz.f78
theorem CCX:Try.prog.funcs[ATH]?=some BDF:=Tryz.func78
abbrev ASH:FuncId:=114
noncomputable abbrev BAF:Func:=Tryz.f114
theorem CBG:Try.prog.funcs[ASH]?=some BAF:=Tryz.func114
abbrev AQU:FuncId:=36
noncomputable abbrev AQA:Func:=Tryz.f36
theorem BYJ:Try.prog.funcs[AQU]?=some AQA:=Tryz.func36
abbrev ARA:FuncId:=37
noncomputable abbrev ARS:Func:=Tryz.f37
theorem BZT:Try.prog.funcs[ARA]?=some ARS:=Tryz.func37
abbrev AQX:FuncId:=38
noncomputable abbrev ASO:Func:=Tryz.f38
theorem BNV:Try.prog.funcs[AQX]?=some ASO:=Tryz.func38
abbrev L7:FuncId:=72
noncomputable abbrev AEF:Func:=Tryz.f72
theorem BKP:Try.prog.funcs[L7]?=some AEF:=Tryz.func72
abbrev AAQ:FuncId:=73
noncomputable abbrev BPY:Func:=Tryz.f73
theorem COH:Try.prog.funcs[AAQ]?=some BPY:=Tryz.func73
abbrev BDO:FuncId:=74
noncomputable abbrev BEY:Func:=Tryz.f74
theorem CEN:Try.prog.funcs[BDO]?=some BEY:=Tryz.func74
abbrev ARY:FuncId:=75
noncomputable abbrev ASZ:Func:=Tryz.f75
theorem BQJ:Try.prog.funcs[ARY]?=some ASZ:=Tryz.func75
abbrev uI:FuncId:=112
noncomputable abbrev AFU:Func:=Tryz.f112
theorem BLZ:Try.prog.funcs[uI]?=some AFU:=Tryz.func112
abbrev lT:FuncId:=113
noncomputable abbrev ADW:Func:=Tryz.f113
theorem BLP:Try.prog.funcs[lT]?=some ADW:=Tryz.func113
abbrev BDL:FuncId:=76
noncomputable abbrev BEZ:Func:=Tryz.f76
theorem CDZ:Try.prog.funcs[BDL]?=some BEZ:=Tryz.func76
abbrev AOV:FuncId:=77
noncomputable abbrev N0:Func:=Tryz.f77
theorem AVY:Try.prog.funcs[AOV]?=some N0:=Tryz.func77
abbrev J0:FuncId:=107
noncomputable abbrev AQE:Func:=Tryz.f107
theorem BZE:Try.prog.funcs[J0]?=some AQE:=Tryz.func107
abbrev E2:FuncId:=110
noncomputable abbrev ADR:Func:=Tryz.f110
theorem BLG:Try.prog.funcs[E2]?=some ADR:=Tryz.func110
abbrev n_eD:FuncId:=108
noncomputable abbrev F_eD:Func:=Tryz.f108
theorem CQW:Try.prog.funcs[n_eD]?=some F_eD:=Tryz.func108
abbrev BIN:FuncId:=141
noncomputable abbrev BXW:Func:=Tryz.f141
theorem CNX:Try.prog.funcs[BIN]?=some BXW:=Tryz.func141
abbrev BQG:FuncId:=140
noncomputable abbrev BQS:Func:=Tryz.f140
theorem COG:Try.prog.funcs[BQG]?=some BQS:=Tryz.func140
abbrev BZM:FuncId:=159
noncomputable abbrev BUO:Func:=Tryz.f159
theorem CLG:Try.prog.funcs[BZM]?=some BUO:=Tryz.func159
abbrev S1:FuncId:=109
noncomputable abbrev BEC:Func:=Tryz.f109
theorem CDU:Try.prog.funcs[S1]?=some BEC:=Tryz.func109
abbrev BEP:FuncId:=111
noncomputable abbrev BBX:Func:=Tryz.f111
theorem CAM:Try.prog.funcs[BEP]?=some BBX:=Tryz.func111
abbrev ACO:FuncId:=143
noncomputable abbrev AQI:Func:=Tryz.f143
theorem BVW:Try.prog.funcs[ACO]?=some AQI:=Tryz.func143
abbrev K8:FuncId:=146
noncomputable abbrev AOP:Func:=Tryz.f146
theorem BNS:Try.prog.funcs[K8]?=some AOP:=Tryz.func146
abbrev AOU:FuncId:=142
noncomputable abbrev APM:Func:=Tryz.f142
theorem BTB:Try.prog.funcs[AOU]?=some APM:=Tryz.func142
abbrev AFQ:FuncId:=144
noncomputable abbrev AEP:Func:=Tryz.f144
theorem BMZ:Try.prog.funcs[AFQ]?=some AEP:=Tryz.func144
abbrev xR:FuncId:=160
noncomputable abbrev P6:Func:=Tryz.f160
theorem BDR:Try.prog.funcs[xR]?=some P6:=Tryz.func160
abbrev n_eS:FuncId:=145
noncomputable abbrev F_eS:Func:=Tryz.f145
theorem CRR:Try.prog.funcs[n_eS]?=some F_eS:=Tryz.func145
abbrev BHQ:FuncId:=162
noncomputable abbrev BVR:Func:=Tryz.f162
theorem CME:Try.prog.funcs[BHQ]?=some BVR:=Tryz.func162
abbrev BUH:FuncId:=161
noncomputable abbrev BQR:Func:=Tryz.f161
theorem CNO:Try.prog.funcs[BUH]?=some BQR:=Tryz.func161
abbrev BXK:FuncId:=170
noncomputable abbrev BPL:Func:=Tryz.f170
theorem CMO:Try.prog.funcs[BXK]?=some BPL:=Tryz.func170
abbrev ADY:FuncId:=79
noncomputable abbrev AFF:Func:=Tryz.f79
theorem BLT:Try.prog.funcs[ADY]?=some AFF:=Tryz.func79
abbrev Q6:FuncId:=117
noncomputable abbrev BEG:Func:=Tryz.f117
theorem CAA:Try.prog.funcs[Q6]?=some BEG:=Tryz.func117
abbrev AMA:FuncId:=115
noncomputable abbrev BOZ:Func:=Tryz.f115
theorem COP:Try.prog.funcs[AMA]?=some BOZ:=Tryz.func115
abbrev K6:FuncId:=80
noncomputable abbrev AHZ:Func:=Tryz.f80
theorem BLJ:Try.prog.funcs[K6]?=some AHZ:=Tryz.func80
abbrev AKH:FuncId:=81
noncomputable abbrev AKM:Func:=Tryz.f81
theorem BKS:Try.prog.funcs[AKH]?=some AKM:=Tryz.func81
abbrev n_eR:FuncId:=116
noncomputable abbrev F_eR:Func:=Tryz.f116
theorem CQR:Try.prog.funcs[n_eR]?=some F_eR:=Tryz.func116
abbrev ANO:FuncId:=148
noncomputable abbrev BXI:Func:=Tryz.f148
theorem CLB:Try.prog.funcs[ANO]?=some BXI:=Tryz.func148
abbrev BWV:FuncId:=147
noncomputable abbrev BOX:Func:=Tryz.f147
theorem CKZ:Try.prog.funcs[BWV]?=some BOX:=Tryz.func147
abbrev BWU:FuncId:=163
noncomputable abbrev BYA:Func:=Tryz.f163
theorem CPX:Try.prog.funcs[BWU]?=some BYA:=Tryz.func163
abbrev AKS:FuncId:=118
noncomputable abbrev AHJ:Func:=Tryz.f118
theorem BMO:Try.prog.funcs[AKS]?=some AHJ:=Tryz.func118
abbrev xM:FuncId:=149
noncomputable abbrev U8:Func:=Tryz.f149
theorem BBH:Try.prog.funcs[xM]?=some U8:=Tryz.func149
abbrev AEA:FuncId:=119
noncomputable abbrev AEB:Func:=Tryz.f119
theorem BLC:Try.prog.funcs[AEA]?=some AEB:=Tryz.func119
end Go.Bal
