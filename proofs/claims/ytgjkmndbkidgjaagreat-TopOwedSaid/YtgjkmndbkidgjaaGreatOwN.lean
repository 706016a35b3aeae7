/- Functions by name. -/
import Derived.Test.YtgjkmndbkidgjaaGreatPrg0
set_option linter.unusedVariables false
set_option linter.unusedSimpArgs false
namespace Go.Bal
open Go Go.Sym Go.Proofs
abbrev ALT : FuncId := 5
noncomputable abbrev AQS : Func := Tryz.f5
theorem AZK : Try.prog.funcs[ALT]? = some AQS := Tryz.func5
abbrev tK : FuncId := 7
noncomputable abbrev AEJ : Func := Tryz.f7
theorem AUB : Try.prog.funcs[tK]? = some AEJ := Tryz.func7
abbrev qR : FuncId := 14
noncomputable abbrev rH : Func := Tryz.f14
theorem AKG : Try.prog.funcs[qR]? = some rH := Tryz.func14
abbrev W8 : FuncId := 6
noncomputable abbrev H7 : Func := Tryz.f6
theorem AKT : Try.prog.funcs[W8]? = some H7 := Tryz.func6
abbrev ACA : FuncId := 30
noncomputable abbrev ACX : Func := Tryz.f30
theorem ASZ : Try.prog.funcs[ACA]? = some ACX := Tryz.func30
abbrev APF : FuncId := 3
noncomputable abbrev AEP : Func := Tryz.f3
theorem AUX : Try.prog.funcs[APF]? = some AEP := Tryz.func3
abbrev ADA : FuncId := 4
noncomputable abbrev AFJ : Func := Tryz.f4
theorem ATK : Try.prog.funcs[ADA]? = some AFJ := Tryz.func4
abbrev AFO : FuncId := 15
noncomputable abbrev ADC : Func := Tryz.f15
theorem ASI : Try.prog.funcs[AFO]? = some ADC := Tryz.func15
abbrev N9 : FuncId := 13
noncomputable abbrev Q9 : Func := Tryz.f13
theorem AOP : Try.prog.funcs[N9]? = some Q9 := Tryz.func13
abbrev APJ : FuncId := 26
noncomputable abbrev APD : Func := Tryz.f26
theorem AZE : Try.prog.funcs[APJ]? = some APD := Tryz.func26
abbrev APO : FuncId := 28
noncomputable abbrev AKZ : Func := Tryz.f28
theorem BAV : Try.prog.funcs[APO]? = some AKZ := Tryz.func28
abbrev G7 : FuncId := 8
noncomputable abbrev zN : Func := Tryz.f8
theorem ANG : Try.prog.funcs[G7]? = some zN := Tryz.func8
abbrev ADQ : FuncId := 16
noncomputable abbrev AFB : Func := Tryz.f16
theorem ATJ : Try.prog.funcs[ADQ]? = some AFB := Tryz.func16
abbrev AFZ : FuncId := 17
noncomputable abbrev AFK : Func := Tryz.f17
theorem ASU : Try.prog.funcs[AFZ]? = some AFK := Tryz.func17
abbrev lN : FuncId := 36
noncomputable abbrev J6 : Func := Tryz.f36
theorem ARA : Try.prog.funcs[lN]? = some J6 := Tryz.func36
abbrev AOA : FuncId := 18
noncomputable abbrev AMN : Func := Tryz.f18
theorem BAE : Try.prog.funcs[AOA]? = some AMN := Tryz.func18
abbrev ACG : FuncId := 19
noncomputable abbrev ADD : Func := Tryz.f19
theorem ASY : Try.prog.funcs[ACG]? = some ADD := Tryz.func19
abbrev Yk : FuncId := 38
noncomputable abbrev ADI : Func := Tryz.f38
theorem ASL : Try.prog.funcs[Yk]? = some ADI := Tryz.func38
abbrev fF : FuncId := 39
noncomputable abbrev ADV : Func := Tryz.f39
theorem AUG : Try.prog.funcs[fF]? = some ADV := Tryz.func39
abbrev Ca : FuncId := 40
noncomputable abbrev zX : Func := Tryz.f40
theorem ANI : Try.prog.funcs[Ca]? = some zX := Tryz.func40
abbrev Bs : FuncId := 41
noncomputable abbrev O2 : Func := Tryz.f41
theorem APU : Try.prog.funcs[Bs]? = some O2 := Tryz.func41
abbrev AOV : FuncId := 31
noncomputable abbrev APE : Func := Tryz.f31
theorem BCO : Try.prog.funcs[AOV]? = some APE := Tryz.func31
abbrev W5 : FuncId := 58
noncomputable abbrev ADR : Func := Tryz.f58
theorem AUW : Try.prog.funcs[W5]? = some ADR := Tryz.func58
abbrev Ar : FuncId := 32
noncomputable abbrev ARP : Func := Tryz.f32
theorem BBN : Try.prog.funcs[Ar]? = some ARP := Tryz.func32
abbrev Xu : FuncId := 59
noncomputable abbrev S4 : Func := Tryz.f59
theorem AQF : Try.prog.funcs[Xu]? = some S4 := Tryz.func59
abbrev pW : FuncId := 35
noncomputable abbrev nO : Func := Tryz.f35
theorem AJO : Try.prog.funcs[pW]? = some nO := Tryz.func35
abbrev n_eP : FuncId := 57
noncomputable abbrev F_eP : Func := Tryz.f57
theorem BDL : Try.prog.funcs[n_eP]? = some F_eP := Tryz.func57
abbrev AAF : FuncId := 79
noncomputable abbrev AOS : Func := Tryz.f79
theorem AZQ : Try.prog.funcs[AAF]? = some AOS := Tryz.func79
abbrev AMV : FuncId := 78
noncomputable abbrev AOC : Func := Tryz.f78
theorem BAM : Try.prog.funcs[AMV]? = some AOC := Tryz.func78
abbrev ABI : FuncId := 62
noncomputable abbrev AAK : Func := Tryz.f62
theorem ANM : Try.prog.funcs[ABI]? = some AAK := Tryz.func62
abbrev n_eY : FuncId := 33
noncomputable abbrev F_eY : Func := Tryz.f33
theorem BEQ : Try.prog.funcs[n_eY]? = some F_eY := Tryz.func33
abbrev AAL : FuncId := 61
noncomputable abbrev AMW : Func := Tryz.f61
theorem AYM : Try.prog.funcs[AAL]? = some AMW := Tryz.func61
abbrev ALP : FuncId := 60
noncomputable abbrev ALN : Func := Tryz.f60
theorem BBI : Try.prog.funcs[ALP]? = some ALN := Tryz.func60
abbrev ARO : FuncId := 80
noncomputable abbrev AMP : Func := Tryz.f80
theorem BBB : Try.prog.funcs[ARO]? = some AMP := Tryz.func80
abbrev iU : FuncId := 34
noncomputable abbrev I7 : Func := Tryz.f34
theorem ALV : Try.prog.funcs[iU]? = some I7 := Tryz.func34
abbrev ASF : FuncId := 37
noncomputable abbrev APL : Func := Tryz.f37
theorem AZP : Try.prog.funcs[ASF]? = some APL := Tryz.func37
abbrev rY : FuncId := 63
noncomputable abbrev ABZ : Func := Tryz.f63
theorem AUM : Try.prog.funcs[rY]? = some ABZ := Tryz.func63
abbrev AOW : FuncId := 53
noncomputable abbrev AMA : Func := Tryz.f53
theorem AYS : Try.prog.funcs[AOW]? = some AMA := Tryz.func53
abbrev T8 : FuncId := 77
noncomputable abbrev AGL : Func := Tryz.f77
theorem ATS : Try.prog.funcs[T8]? = some AGL := Tryz.func77
abbrev n_eJ : FuncId := 76
noncomputable abbrev F_eJ : Func := Tryz.f76
theorem BEA : Try.prog.funcs[n_eJ]? = some F_eJ := Tryz.func76
abbrev ABR : FuncId := 101
noncomputable abbrev ART : Func := Tryz.f101
theorem BAN : Try.prog.funcs[ABR]? = some ART := Tryz.func101
abbrev P0 : FuncId := 29
noncomputable abbrev T1 : Func := Tryz.f29
theorem AQY : Try.prog.funcs[P0]? = some T1 := Tryz.func29
abbrev tM : FuncId := 54
noncomputable abbrev oN : Func := Tryz.f54
theorem AKA : Try.prog.funcs[tM]? = some oN := Tryz.func54
abbrev ARK : FuncId := 55
noncomputable abbrev ASH : Func := Tryz.f55
theorem BBG : Try.prog.funcs[ARK]? = some ASH := Tryz.func55
abbrev ADJ : FuncId := 56
noncomputable abbrev AED : Func := Tryz.f56
theorem ATN : Try.prog.funcs[ADJ]? = some AED := Tryz.func56
abbrev OO : FuncId := 11
noncomputable abbrev AOB : Func := Tryz.f11
theorem AZI : Try.prog.funcs[OO]? = some AOB := Tryz.func11
abbrev AHH : FuncId := 22
noncomputable abbrev ALS : Func := Tryz.f22
theorem AZY : Try.prog.funcs[AHH]? = some ALS := Tryz.func22
abbrev JD : FuncId := 44
noncomputable abbrev IY : Func := Tryz.f44
theorem UA : Try.prog.funcs[JD]? = some IY := Tryz.func44
abbrev JM : FuncId := 69
noncomputable abbrev IQ : Func := Tryz.f69
theorem WK : Try.prog.funcs[JM]? = some IQ := Tryz.func69
abbrev AIK : FuncId := 46
noncomputable abbrev ALI : Func := Tryz.f46
theorem AYR : Try.prog.funcs[AIK]? = some ALI := Tryz.func46
abbrev ANF : FuncId := 70
noncomputable abbrev AOT : Func := Tryz.f70
theorem AZZ : Try.prog.funcs[ANF]? = some AOT := Tryz.func70
abbrev jU : FuncId := 87
noncomputable abbrev R2 : Func := Tryz.f87
theorem AMS : Try.prog.funcs[jU]? = some R2 := Tryz.func87
abbrev gX : FuncId := 9
noncomputable abbrev U9 : Func := Tryz.f9
theorem AMB : Try.prog.funcs[gX]? = some U9 := Tryz.func9
abbrev U2 : FuncId := 10
noncomputable abbrev yX : Func := Tryz.f10
theorem AMC : Try.prog.funcs[U2]? = some yX := Tryz.func10
abbrev Xd : FuncId := 12
noncomputable abbrev ZJ : Func := Tryz.f12
theorem xS : Try.prog.funcs[Xd]? = some ZJ := Tryz.func12
abbrev uX : FuncId := 20
noncomputable abbrev ADM : Func := Tryz.f20
theorem AUI : Try.prog.funcs[uX]? = some ADM := Tryz.func20
abbrev kS : FuncId := 45
noncomputable abbrev S3 : Func := Tryz.f45
theorem AQA : Try.prog.funcs[kS]? = some S3 := Tryz.func45
abbrev U5 : FuncId := 21
noncomputable abbrev T5 : Func := Tryz.f21
theorem ALO : Try.prog.funcs[U5]? = some T5 := Tryz.func21
abbrev nL : FuncId := 23
noncomputable abbrev mX : Func := Tryz.f23
theorem AIL : Try.prog.funcs[nL]? = some mX := Tryz.func23
abbrev mM : FuncId := 48
noncomputable abbrev R8 : Func := Tryz.f48
theorem ALR : Try.prog.funcs[mM]? = some R8 := Tryz.func48
abbrev AAH : FuncId := 24
noncomputable abbrev AMT : Func := Tryz.f24
theorem AYY : Try.prog.funcs[AAH]? = some AMT := Tryz.func24
abbrev mS : FuncId := 25
noncomputable abbrev E7 : Func := Tryz.f25
theorem ANX : Try.prog.funcs[mS]? = some E7 := Tryz.func25
abbrev oM : FuncId := 42
noncomputable abbrev uZ : Func := Tryz.f42
theorem AKO : Try.prog.funcs[oM]? = some uZ := Tryz.func42
abbrev vX : FuncId := 43
noncomputable abbrev vO : Func := Tryz.f43
theorem AJW : Try.prog.funcs[vX]? = some vO := Tryz.func43
abbrev Cy : FuncId := 67
noncomputable abbrev Yg : Func := Tryz.f67
theorem ADX : Try.prog.funcs[Cy]? = some Yg := Tryz.func67
abbrev AFH : FuncId := 47
noncomputable abbrev AFM : Func := Tryz.f47
theorem AUU : Try.prog.funcs[AFH]? = some AFM := Tryz.func47
abbrev n_of : FuncId := 49
noncomputable abbrev F_of : Func := Tryz.f49
theorem BHS : Try.prog.funcs[n_of]? = some F_of := Tryz.func49
abbrev F1 : FuncId := 50
noncomputable abbrev D2 : Func := Tryz.f50
theorem ALD : Try.prog.funcs[F1]? = some D2 := Tryz.func50
abbrev yS : FuncId := 64
noncomputable abbrev C0 : Func := Tryz.f64
theorem AQQ : Try.prog.funcs[yS]? = some C0 := Tryz.func64
abbrev Vr : FuncId := 82
noncomputable abbrev vB : Func := Tryz.f82
theorem AKE : Try.prog.funcs[Vr]? = some vB := Tryz.func82
abbrev Tx : FuncId := 83
noncomputable abbrev oA : Func := Tryz.f83
theorem AJZ : Try.prog.funcs[Tx]? = some oA := Tryz.func83
abbrev F7 : FuncId := 65
noncomputable abbrev K9 : Func := Tryz.f65
theorem AMX : Try.prog.funcs[F7]? = some K9 := Tryz.func65
abbrev GP : FuncId := 84
noncomputable abbrev ZH : Func := Tryz.f84
theorem xR : Try.prog.funcs[GP]? = some ZH := Tryz.func84
abbrev qY : FuncId := 66
noncomputable abbrev yQ : Func := Tryz.f66
theorem AHF : Try.prog.funcs[qY]? = some yQ := Tryz.func66
abbrev PN : FuncId := 85
noncomputable abbrev sR : Func := Tryz.f85
theorem ACF : Try.prog.funcs[PN]? = some sR := Tryz.func85
abbrev xL : FuncId := 68
noncomputable abbrev AQH : Func := Tryz.f68
theorem AZS : Try.prog.funcs[xL]? = some AQH := Tryz.func68
abbrev n_eW : FuncId := 81
noncomputable abbrev F_eW : Func := Tryz.f81
theorem BEF : Try.prog.funcs[n_eW]? = some F_eW := Tryz.func81
abbrev AAQ : FuncId := 103
noncomputable abbrev AKS : Func := Tryz.f103
theorem BAJ : Try.prog.funcs[AAQ]? = some AKS := Tryz.func103
abbrev ANP : FuncId := 102
noncomputable abbrev APR : Func := Tryz.f102
theorem BBP : Try.prog.funcs[ANP]? = some APR := Tryz.func102
abbrev ANZ : FuncId := 109
noncomputable abbrev APK : Func := Tryz.f109
theorem AYX : Try.prog.funcs[ANZ]? = some APK := Tryz.func109
abbrev vF : FuncId := 27
noncomputable abbrev sI : Func := Tryz.f27
theorem AJN : Try.prog.funcs[vF]? = some sI := Tryz.func27
abbrev ADG : FuncId := 51
noncomputable abbrev ACM : Func := Tryz.f51
theorem ASM : Try.prog.funcs[ADG]? = some ACM := Tryz.func51
abbrev nX : FuncId := 52
noncomputable abbrev qH : Func := Tryz.f52
theorem AKK : Try.prog.funcs[nX]? = some qH := Tryz.func52
abbrev IF : FuncId := 72
noncomputable abbrev KA : Func := Tryz.f72
theorem Iw : Try.prog.funcs[IF]? = some KA := Tryz.func72
abbrev UZ : FuncId := 75
noncomputable abbrev Pp : Func := Tryz.f75
theorem ABK : Try.prog.funcs[UZ]? = some Pp := Tryz.func75
abbrev C5 : FuncId := 71
noncomputable abbrev yZ : Func := Tryz.f71
theorem ASB : Try.prog.funcs[C5]? = some yZ := Tryz.func71
abbrev lS : FuncId := 90
noncomputable abbrev S5 : Func := Tryz.f90
theorem APN : Try.prog.funcs[lS]? = some S5 := Tryz.func90
abbrev Tk : FuncId := 92
noncomputable abbrev rL : Func := Tryz.f92
theorem AKI : Try.prog.funcs[Tk]? = some rL := Tryz.func92
abbrev jD : FuncId := 94
noncomputable abbrev J3 : Func := Tryz.f94
theorem AKY : Try.prog.funcs[jD]? = some J3 := Tryz.func94
abbrev Xv : FuncId := 95
noncomputable abbrev sZ : Func := Tryz.f95
theorem AKH : Try.prog.funcs[Xv]? = some sZ := Tryz.func95
abbrev mL : FuncId := 97
noncomputable abbrev T2 : Func := Tryz.f97
theorem ARF : Try.prog.funcs[mL]? = some T2 := Tryz.func97
abbrev dK : FuncId := 96
noncomputable abbrev AER : Func := Tryz.f96
theorem AUH : Try.prog.funcs[dK]? = some AER := Tryz.func96
abbrev ABF : FuncId := 88
noncomputable abbrev ARS : Func := Tryz.f88
theorem BCR : Try.prog.funcs[ABF]? = some ARS := Tryz.func88
abbrev n_eL : FuncId := 89
noncomputable abbrev F_eL : Func := Tryz.f89
theorem AXQ : Try.prog.funcs[n_eL]? = some F_eL := Tryz.func89
abbrev Tu : FuncId := 105
noncomputable abbrev ABH : Func := Tryz.f105
theorem AQV : Try.prog.funcs[Tu]? = some ABH := Tryz.func105
abbrev Y3 : FuncId := 104
noncomputable abbrev Y0 : Func := Tryz.f104
theorem ARY : Try.prog.funcs[Y3]? = some Y0 := Tryz.func104
abbrev X7 : FuncId := 110
noncomputable abbrev Z0 : Func := Tryz.f110
theorem ALQ : Try.prog.funcs[X7]? = some Z0 := Tryz.func110
abbrev n_eC : FuncId := 91
noncomputable abbrev F_eC : Func := Tryz.f91
theorem AVE : Try.prog.funcs[n_eC]? = some F_eC := Tryz.func91
abbrev Tw : FuncId := 106
noncomputable abbrev Y1 : Func := Tryz.f106
theorem AOQ : Try.prog.funcs[Tw]? = some Y1 := Tryz.func106
abbrev n_eS : FuncId := 93
noncomputable abbrev F_eS : Func := Tryz.f93
theorem AYA : Try.prog.funcs[n_eS]? = some F_eS := Tryz.func93
abbrev Tv : FuncId := 108
noncomputable abbrev ABN : Func := Tryz.f108
theorem ARG : Try.prog.funcs[Tv]? = some ABN := Tryz.func108
abbrev ABS : FuncId := 107
noncomputable abbrev AAJ : Func := Tryz.f107
theorem AMG : Try.prog.funcs[ABS]? = some AAJ := Tryz.func107
abbrev AAE : FuncId := 111
noncomputable abbrev AAU : Func := Tryz.f111
theorem AOE : Try.prog.funcs[AAE]? = some AAU := Tryz.func111
abbrev rO : FuncId := 73
noncomputable abbrev tZ : Func := Tryz.f73
theorem AKL : Try.prog.funcs[rO]? = some tZ := Tryz.func73
abbrev ML : FuncId := 98
noncomputable abbrev dY : Func := Tryz.f98
theorem Ol : Try.prog.funcs[ML]? = some dY := Tryz.func98
abbrev ACZ : FuncId := 99
noncomputable abbrev AET : Func := Tryz.f99
theorem hJ : Try.prog.funcs[ACZ]? = some AET := Tryz.func99
abbrev ANW : FuncId := 74
noncomputable abbrev APM : Func := Tryz.f74
theorem BCP : Try.prog.funcs[ANW]? = some APM := Tryz.func74
abbrev AQT : FuncId := 100
noncomputable abbrev ARX : Func := Tryz.f100
theorem BBF : Try.prog.funcs[AQT]? = some ARX := Tryz.func100
end Go.Bal
