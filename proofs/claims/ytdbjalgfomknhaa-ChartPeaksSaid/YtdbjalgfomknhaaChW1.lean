/- Package chart: charts that are made of numbers, without stops. -/
import Derived.Test.YtdbjalgfomknhaaChW
import Derived.Test.YtdbjalgfomknhaaChK
set_option linter.unusedVariables false
set_option linter.unusedSimpArgs false
namespace Go.Bal
open Go Go.Sym Go.Proofs
theorem stm_eta (s : Stm) : Stm.mk s.bs s.used s.mix = s := rfl
theorem wit_next {K : Int} {s : Stm} (h : StmB K s) (hK : K <= 1000000000000000) (lo hi : Int) : StmB (K + 1) (witS s lo hi) := h.next hK _
theorem head_B {a : MkI} (h : preM a) : StmB 1 (gS1 a.s) /\ StmB 2 (gS2 a.s) /\ StmB 3 (gS3 a.s) /\ StmB 4 (gS4 a.s) /\ StmB 5 (gS5 a.s) /\ StmB 6 (gS6 a.s) := by
 have b1 : StmB 1 (gS1 a.s) := (wit_next h.1 (by omega) 1 12).mono (by omega)
 have b2 : StmB 2 (gS2 a.s) := (wit_next b1 (by omega) (-50) 400).mono (by omega)
 have b3 : StmB 3 (gS3 a.s) := (b2.next (by omega) 12).mono (by omega)
 have b4 : StmB 4 (gS4 a.s) := (b3.next (by omega) 9).mono (by omega)
 have b5 : StmB 5 (gS5 a.s) := (b4.next (by omega) 6).mono (by omega)
 exact ⟨b1, b2, b3, b4, b5, (b5.next (by omega) 300).mono (by omega)⟩
theorem mN_eq {a : MkI} (h : preM a) : (mN a : Int) = witV (gS6 a.s) 1 a.m /\ 1 <= mN a /\ (mN a : Int) <= a.m := by
 obtain ⟨_, _, _, _, _, b6⟩ := head_B h
 obtain ⟨_, m1, m2⟩ := h
 have := witV_in b6 (by omega) (lo := 1) (hi := a.m) (by omega) m1 (by omega)
 unfold mN; omega
theorem go_0 {a : MkI} {x : MS} (h : x.ms = []) : goM a x = x := by unfold goM; rw [h]; rfl
theorem go_1 {a : MkI} {x : MS} (h : 0 < x.ms.length) : goM a x = advZ a (advA a x) := by unfold goM; rw [decide_eq_true h]; rfl
theorem mkCh_s {a : MkI} {k : Nat} {x : MS} (h : 0 < k) : mkCh a k x = mkCh a (k - 1) (addM a (goM a x)) := by
 obtain ⟨n, rfl⟩ : ∃ n, k = n + 1 := ⟨k - 1, by omega⟩
 rfl
theorem n_lt {i n k : Nat} (h : (bif decide ((i : Int) < n) then decide ((k : Int) < 20) else false) = true) : i < n := by
 cases hd : decide ((i : Int) < n) with
 | false => rw [hd] at h; cases h
 | true => have := of_decide_eq_true hd; omega
theorem n_ge {i n k : Nat} (hk : k < 20) (h : (bif decide ((i : Int) < n) then decide ((k : Int) < 20) else false) = false) : ¬ i < n := by
 intro hi
 rw [decide_eq_true (show (i : Int) < n by omega), decide_eq_true (show (k : Int) < 20 by omega)] at h; cases h
theorem mkN_s {a : MkI} {i : Nat} {x : NSt} (h : i < (mS a).ms.length) : mkN a ((mS a).ms.length - i) i x = mkN a ((mS a).ms.length - (i + 1)) (i + 1) (addN a (nextV x.s 2 == 0) i ⟨nextS x.s 2, x.ns⟩) := by
 obtain ⟨n, hn⟩ : ∃ n, (mS a).ms.length - i = n + 1 := ⟨(mS a).ms.length - i - 1, by omega⟩
 rw [hn, show (mS a).ms.length - (i + 1) = n by omega]; rfl
theorem swN_len (l : List Nt) (i k : Nat) : (swN l i k).length = l.length := by simp [swN]
theorem gD_setN {l : List Nt} {j i : Nat} {x : Nt} (hj : j < l.length) : gD (l.set j x) i = bif decide (i = j) then x else gD l i := by
 unfold gD
 rw [List.getD_eq_getElem?_getD, List.getD_eq_getElem?_getD, List.getElem?_set]
 by_cases h : i = j
 ·subst h; simp [hj]
 ·simp [h, Ne.symm h]
theorem swN_at {l : List Nt} {i k : Nat} (hi : i < l.length) (hk : k < l.length) {t : Nat} : gD (swN l i k) t = bif decide (t = k) then gD l i else bif decide (t = i) then gD l k else gD l t := by
 unfold swN
 rw [gD_setN (by simpa using hk), gD_setN hi]
set_option maxHeartbeats 4000000 in
theorem p_MadeF (a : MkI) (h : preM a) (hb : a.b = false) : V_MadeF a := by
 obtain ⟨b1, b2, b3, b4, b5, b6⟩ := head_B h
 obtain ⟨n1, n2, n3⟩ := mN_eq h
 have m2 := h.2.2
 rw [vc_MadeF]; delta z_MadeF_0 z_MadeF_1 z_MadeF_2 z_MadeF_3 z_MadeF_4 z_MadeF_5 z_MadeF_6 z_MadeF_7 z_MadeF_8 z_MadeF_9 z_MadeF_10 z_MadeF_11 z_MadeF_12 z_MadeF_13 z_MadeF_14 z_MadeF_15 z_MadeF_16 z_MadeF_17 z_MadeF_18 z_MadeF_19 z_MadeF_20 z_MadeF_21 z_MadeF_22 z_MadeF_23 z_MadeF_24 z_MadeF_25 z_MadeF_26 z_MadeF_27 z_MadeF_28 z_MadeF_29 z_MadeF_30 z_MadeF_31 z_MadeF_32 z_MadeF_33 z_MadeF_34 z_MadeF_35 z_MadeF_36 z_MadeF_37 z_MadeF_38 z_MadeF_39 z_MadeF_40 z_MadeF_41 z_MadeF_42 z_MadeF_43 z_MadeF_44 z_MadeF_45 z_MadeF_46 z_MadeF_47 z_MadeF_48 z_MadeF_49 z_MadeF_50 z_MadeF_51 z_MadeF_52 z_MadeF_53 z_MadeF_54 z_MadeF_55 z_MadeF_56 z_MadeF_57 z_MadeF_58 z_MadeF_59 z_MadeF_60 z_MadeF_61 z_MadeF_62 z_MadeF_63 z_MadeF_64 z_MadeF_65 z_MadeF_66 z_MadeF_67 z_MadeF_68 z_MadeF_69 z_MadeF_70 z_MadeF_71 z_MadeF_72 z_MadeF_73 z_MadeF_74 z_MadeF_75 z_MadeF_76 z_MadeF_77 z_MadeF_78 z_MadeF_79 z_MadeF_80 z_MadeF_81 z_MadeF_82 z_MadeF_83 z_MadeF_84 z_MadeF_85 z_MadeF_86 z_MadeF_87 z_MadeF_88 z_MadeF_89 z_MadeF_90 z_MadeF_91 z_MadeF_92 z_MadeF_93 z_MadeF_94 z_MadeF_95 z_MadeF_96 z_MadeF_97 z_MadeF_98 z_MadeF_99 z_MadeF_100 z_MadeF_101 z_MadeF_102 z_MadeF_103 z_MadeF_104 z_MadeF_105 z_MadeF_106 z_MadeF_107 z_MadeF_108 z_MadeF_109 z_MadeF_110 z_MadeF_111 z_MadeF_112 z_MadeF_113 z_MadeF_114 z_MadeF_115 z_MadeF_116 z_MadeF_117 z_MadeF_118 z_MadeF_119 z_MadeF_120 z_MadeF_121 z_MadeF_122 z_MadeF_123 z_MadeF_124 z_MadeF_125 z_MadeF_126 z_MadeF_127 z_MadeF_128 z_MadeF_129 z_MadeF_130 z_MadeF_131 z_MadeF_132 z_MadeF_133 z_MadeF_134 z_MadeF_135 z_MadeF_136 z_MadeF_137 z_MadeF_138 z_MadeF_139 z_MadeF_140 z_MadeF_141 z_MadeF_142 z_MadeF_143 z_MadeF_144 z_MadeF_145 z_MadeF_146 z_MadeF_147 z_MadeF_148 z_MadeF_149 z_MadeF_150 z_MadeF_151 z_MadeF_152 z_MadeF_153 z_MadeF_154 z_MadeF_155 z_MadeF_156 z_MadeF_157 z_MadeF_158 z_MadeF_159 z_MadeF_160 z_MadeF_161 z_MadeF_162 z_MadeF_163 z_MadeF_164 z_MadeF_165 z_MadeF_166 z_MadeF_167 z_MadeF_168 z_MadeF_169 z_MadeF_170 z_MadeF_171 z_MadeF_172 z_MadeF_173 z_MadeF_174 z_MadeF_175 z_MadeF_176 z_MadeF_177 z_MadeF_178 z_MadeF_179 z_MadeF_180 z_MadeF_181 z_MadeF_182 z_MadeF_183 z_MadeF_184 z_MadeF_185 z_MadeF_186 z_MadeF_187 z_MadeF_188 z_MadeF_189 z_MadeF_190 z_MadeF_191 z_MadeF_192 z_MadeF_193 z_MadeF_194 z_MadeF_195 z_MadeF_196 z_MadeF_197 z_MadeF_198 z_MadeF_199 z_MadeF_200 z_MadeF_201 z_MadeF_202 z_MadeF_203 z_MadeF_204 z_MadeF_205 z_MadeF_206 z_MadeF_207 z_MadeF_208 z_MadeF_209 z_MadeF_210 z_MadeF_211 z_MadeF_212 z_MadeF_213 z_MadeF_214 z_MadeF_215 z_MadeF_216 z_MadeF_217 z_MadeF_218 z_MadeF_219 z_MadeF_220 z_MadeF_221 z_MadeF_222 z_MadeF_223 z_MadeF_224 z_MadeF_225 z_MadeF_226 z_MadeF_227 z_MadeF_228 z_MadeF_229 z_MadeF_230 z_MadeF_231 z_MadeF_232 z_MadeF_233 z_MadeF_234 z_MadeF_235 z_MadeF_236 z_MadeF_237 z_MadeF_238 z_MadeF_239 z_MadeF_240 z_MadeF_241 z_MadeF_242 z_MadeF_243 z_MadeF_244 z_MadeF_245 z_MadeF_246 z_MadeF_247 z_MadeF_248 z_MadeF_249 z_MadeF_250 z_MadeF_251 z_MadeF_252 z_MadeF_253 z_MadeF_254 z_MadeF_255 z_MadeF_256 z_MadeF_257 z_MadeF_258 z_MadeF_259 z_MadeF_260 z_MadeF_261 z_MadeF_262 z_MadeF_263 z_MadeF_264 z_MadeF_265 z_MadeF_266 z_MadeF_267 z_MadeF_268 z_MadeF_269 z_MadeF_270 z_MadeF_271 z_MadeF_272 z_MadeF_273 z_MadeF_274 z_MadeF_275 z_MadeF_276 z_MadeF_277 z_MadeF_278 z_MadeF_279 z_MadeF_280 z_MadeF_281 z_MadeF_282 z_MadeF_283 z_MadeF_284 z_MadeF_285 z_MadeF_286 z_MadeF_287 z_MadeF_288 z_MadeF_289 z_MadeF_290 z_MadeF_291 z_MadeF_292 z_MadeF_293 z_MadeF_294 z_MadeF_295 z_MadeF_296 z_MadeF_297 z_MadeF_298 z_MadeF_299 z_MadeF_300 z_MadeF_301 z_MadeF_302 z_MadeF_303 z_MadeF_304 z_MadeF_305 z_MadeF_306 z_MadeF_307 z_MadeF_308 z_MadeF_309 z_MadeF_310 z_MadeF_311 z_MadeF_312 z_MadeF_313 z_MadeF_314 z_MadeF_315 z_MadeF_316 z_MadeF_317 z_MadeF_318 z_MadeF_319 z_MadeF_320 z_MadeF_321 z_MadeF_322 z_MadeF_323 z_MadeF_324 z_MadeF_325 z_MadeF_326 z_MadeF_327 z_MadeF_328 z_MadeF_329 z_MadeF_330 z_MadeF_331; simp only [condP, eq_self, implies_true, and_self, true_and, and_true, true_implies, forall_const, decide_eq_true_eq, decide_eq_false_iff_not, Int.toNat_natCast, dSpan_eSpan, dInt_eInt, dMk_e, dNt_e, dPr_e, Nat.zero_add, Int.zero_sub, Nat.le_eq, Nat.succ_eq_add_one, Nat.add_one_le_iff, Bool.not_eq_true', Bool.not_eq_false', rng_length, dSpan_mk, rng_getD, stm_eta]
 refine ⟨⟨⟨rfl, rfl, h.1.used.1, rfl, rfl, b1.used.1, rfl, b2.used.1, rfl, b3.used.1⟩, default, ⟨rfl, λ _ _ => rfl, rfl, rfl, rfl, rfl, rfl, rfl⟩, b4⟩, λ _ => ⟨⟨⟨rfl, b4.used.1⟩, default, ⟨rfl, λ _ _ => rfl, rfl, rfl, rfl⟩, b5⟩, λ _ => ⟨⟨⟨rfl, b5.used.1⟩, default, ⟨rfl, rfl, λ _ _ => rfl, rfl, rfl⟩, b6⟩, λ _ => ⟨⟨⟨rfl, b6.used.1⟩, ⟨⟨mN a, mS0 a⟩, ⟨rfl, rfl, n1, rfl, λ _ _ => rfl, rfl, rfl⟩, ⟨rfl, n3, ?_, ?_, rfl, rfl, .inl rfl⟩, n2, rfl, rfl⟩, ?_, ?_⟩, ?_⟩⟩⟩⟩
 ·exact (wit_next b6 (by omega) 1 a.m).mono (by show 6 + 1 <= 7 + 7 * (a.m - (mN a : Int)); omega)
 ·show (((0 : Nat) : Int)) + (mN a : Int) <= a.m; omega
 ·rintro ⟨k, s, pl, tm, ms, t, st, z⟩ ⟨⟨i1, i2, i3, i4, i5, i6, i7⟩, j1, j2, j3⟩
  dsimp only at i1 i2 i3 i4 i5 i6 i7 j1 j2 j3 ⊢
  subst j2 j3
  obtain rfl : t = [] := List.length_eq_zero_iff.1 i5
  obtain rfl : st = [] := List.length_eq_zero_iff.1 i6
  refine ⟨λ _ => ⟨⟨⟨k, s, pl, tm, [], [], [], []⟩, ⟨rfl, rfl, rfl, rfl, λ _ _ => rfl, rfl, rfl⟩, ⟨?_, ⟨j1, i2⟩, i3.mono (by show 7 + 7 * (a.m - (k : Int)) <= 11 + 7 * (a.m - (k : Int)); omega), i4, rfl, rfl, Nat.le_refl _⟩, rfl, rfl⟩, ?_⟩, λ hk => absurd (show (k : Int) > 0 by omega) hk⟩
  ·rw [<- i1, mkCh_s j1, go_0 rfl]
  ·rintro ⟨k, s, pl, tm, ms, t, st, z⟩ ⟨⟨q1, q2, q3, q4, q5, q6, q7⟩, p1, p2⟩
   dsimp only at q1 q2 q3 q4 q5 q6 q7 p1 p2 ⊢
   subst p1 p2
   obtain rfl : t = [] := List.length_eq_zero_iff.1 q5
   obtain rfl : st = [] := List.length_eq_zero_iff.1 q6
   have s1 := q3.next (by omega) 60
   refine ⟨⟨rfl, q3.used.1⟩, ⟨by decide, by decide, s1.used.1, by decide⟩, ⟨k - 1, addM a ⟨s, pl, tm, [], [], [], []⟩⟩, ⟨rfl, rfl, ?_, rfl, λ _ _ => rfl, rfl, rfl, rfl, rfl, rfl, rfl, λ i hi => ?_, rfl, λ i hi => ?_, rfl, λ i hi => ?_⟩, ⟨⟨q1, by show ((k - 1 : Nat) : Int) <= _; omega, (wit_next s1 (by omega) _ _).mono ?_, ?_, rfl, rfl, .inl rfl⟩, Nat.one_pos, rfl⟩, by show k - 1 + 20 < 100; omega⟩
   ·rw [w64 (by omega) (by omega)]; show ((k - 1 : Nat) : Int) = _; omega
   ·have hi : i < 1 := hi
    obtain rfl : i = 0 := by omega
    exact ⟨rfl, rfl⟩
   ·have hi : i < 1 := hi
    obtain rfl : i = 0 := by omega
    rfl
   ·have hi : i < 1 := hi
    obtain rfl : i = 0 := by omega
    rfl
   ·show 11 + 7 * (a.m - (k : Int)) + 1 + 1 <= 7 + 7 * (a.m - ((k - 1 : Nat) : Int)); omega
   ·show ((1 : Nat) : Int) + ((k - 1 : Nat) : Int) <= a.m; omega
 ·rintro ⟨k, x⟩ ⟨⟨i1, i2, i3, i4, i5, i6, i7⟩, j1, j2⟩
  dsimp only at i1 i2 i3 i4 i5 i6 i7 j1 j2 ⊢
  have s1 := wit_next i3 (by omega) 1 30
  refine ⟨λ hk => ⟨⟨λ hm => ⟨⟨rfl, rfl, i3.used.1⟩, ⟨s1.used.1, ⟨k, advA a x⟩, ⟨rfl, rfl, rfl, rfl, λ _ _ => rfl, rfl, rfl, rfl, rfl, rfl, rfl, λ _ _ => ⟨rfl, rfl⟩, rfl, λ _ _ => rfl, rfl, λ _ _ => rfl⟩, ⟨?_, ⟨by show 0 < k; omega, i2⟩, (wit_next s1 (by omega) _ _).mono ?_, i4, i5, i6, ?_⟩, by show k + 19 < k + 20; omega, j1, j2⟩, ?_⟩, λ hm => absurd (show (x.ms.length : Int) > 0 by omega) hm⟩, ?_⟩, λ hk => ?_⟩
  ·exact (show _ = mkCh a k x by rw [mkCh_s (k := k) (x := x) (by omega), go_1 j1]).trans i1
  ·show 7 + 7 * (a.m - (k : Int)) + 1 + 1 <= 9 + 7 * (a.m - (k : Int)); omega
  ·show x.z.length < x.ms.length; rw [j2]; exact j1
  ·rintro ⟨k2, x2⟩ ⟨⟨q1, q2, q3, q4, q5, q6, q7⟩, p0, p1, p2⟩
   dsimp only at q1 q2 q3 q4 q5 q6 q7 p0 p1 p2 ⊢
   have ez : advZ a x2 = x2 := by unfold advZ; rw [hb]; rfl
   rw [ez] at q1
   exact ⟨λ h => h, ⟨k2, x2⟩, ⟨rfl, rfl, rfl, rfl, λ _ _ => rfl, rfl, rfl, rfl, rfl, rfl, rfl, λ _ _ => ⟨rfl, rfl⟩, rfl, λ _ _ => rfl, rfl, λ _ _ => rfl⟩, ⟨q1, q2, q3.mono (by show 9 + 7 * (a.m - (k2 : Int)) <= 11 + 7 * (a.m - (k2 : Int)); omega), q4, q5, q6, Nat.le_of_lt q7⟩, p0, p1, p2⟩
  ·rintro ⟨k2, x2⟩ ⟨⟨q1, q2, q3, q4, q5, q6, q7⟩, p0, p1, p2⟩
   dsimp only at q1 q2 q3 q4 q5 q6 q7 p0 p1 p2 ⊢
   have s2 := q3.next (by omega) 60
   refine ⟨⟨rfl, q3.used.1⟩, ⟨⟨Nat.one_pos, (λ h => by cases h), by omega, by omega⟩, ⟨Nat.one_pos, (λ h => by cases h), by omega, by omega⟩, s2.used.1, Nat.one_pos, (λ h => by cases h), by omega, by omega⟩, ⟨k2 - 1, addM a x2⟩, ⟨rfl, rfl, ?_, rfl, λ _ _ => rfl, rfl, rfl, ?_, ?_, ?_, ?_, λ i hi => ?_, ?_, λ i hi => ?_, ?_, λ i hi => ?_⟩, ⟨⟨q1, by show ((k2 - 1 : Nat) : Int) <= _; omega, (wit_next s2 (by omega) _ _).mono ?_, ?_, ?_, ?_, .inl p2⟩, ?_, p2⟩, by show k2 - 1 + 20 < k + 20; omega⟩
   ·rw [w64 (by omega) (by omega)]; show ((k2 - 1 : Nat) : Int) = _; omega
   ·show (x2.ms ++ [_]).length = _; simp
   ·show (x2.t ++ [_]).length = _; simp
   ·show (x2.st ++ [_]).length = _; simp
   ·show (x2.ms ++ [_]).length = _; simp
   ·have hi : i < (x2.ms ++ [_]).length := hi
    rw [List.length_append] at hi
    show (gD (x2.ms ++ [_]) i).pl = _ /\ (gD (x2.ms ++ [_]) i).ht = _
    rw [gD_last _ _ _ (by simpa using hi)]
    cases decide (i < x2.ms.length) <;> exact ⟨rfl, rfl⟩
   ·show (x2.t ++ [_]).length = _; simp
   ·have hi : i < (x2.t ++ [x2.tm]).length := hi
    rw [List.length_append] at hi
    show gD (x2.t ++ [_]) i = _
    rw [gD_last _ _ _ (by simpa using hi)]
   ·show (x2.st ++ [_]).length = _; simp
   ·have hi : i < (x2.st ++ [(0 : Int)]).length := by have := hi; simpa [addM] using this
    rw [List.length_append] at hi
    show gD (x2.st ++ [_]) i = _
    rw [gD_last _ _ _ (by simpa using hi)]; rfl
   ·show 11 + 7 * (a.m - (k2 : Int)) + 1 + 1 <= 7 + 7 * (a.m - ((k2 - 1 : Nat) : Int)); omega
   ·show (((x2.ms ++ [_]).length : Nat) : Int) + ((k2 - 1 : Nat) : Int) <= a.m
    rw [List.length_append]; simp; omega
   ·show (x2.t ++ [_]).length = (x2.ms ++ [_]).length; simp [q5]
   ·show (x2.st ++ [_]).length = (x2.ms ++ [_]).length; simp [q6]
   ·show 0 < (x2.ms ++ [_]).length; simp
  ·obtain rfl : k = 0 := by omega
   have e : x = mS a := i1
   subst e
   exact ⟨default, ⟨rfl, λ _ _ => rfl, rfl, rfl, rfl, Nat.le_refl _, λ _ _ => ⟨rfl, rfl⟩, rfl, Nat.le_refl _, λ _ _ => rfl, rfl, Nat.le_refl _, λ _ _ => rfl, by rw [j2]; rfl⟩, i1, i2, i3, i4, i5, i6, i7⟩
 ·intro hF'
  obtain ⟨f1, f2, f3, f4, f5, f6, f7⟩ := hF'
  have hF' : fin6 a := ⟨f1, f2, f3, f4, f5, f6, f7⟩
  have fm : ((mS a).ms.length : Int) <= a.m := by omega
  refine ⟨⟨⟨⟨0, ⟨(mS a).s, []⟩⟩, ⟨rfl, rfl, λ _ _ => rfl, rfl, rfl⟩, ⟨hF', Nat.zero_le _, f3.mono (by show 7 + 7 * (a.m - ((0 : Nat) : Int)) <= 7 + 7 * a.m + 5 * ((0 : Nat) : Int); omega), rfl, Nat.le_refl _⟩, rfl⟩, ?_, ?_⟩, ?_, ?_⟩
  ·rintro ⟨i, x⟩ ⟨⟨_, g1, g2, g3, g4⟩, g5⟩
   dsimp only at g1 g2 g3 g4 g5 ⊢
   have s1 := g2.next (by omega) 2
   refine ⟨λ hc => ?_, λ hc => ?_⟩
   ·have hi := n_lt hc
    refine ⟨⟨⟨⟨rfl, g2.used.1⟩, ⟨i, ⟨nextS x.s 2, x.ns⟩, nextV x.s 2 == 0⟩, ⟨rfl, rfl, rfl, λ _ _ => rfl, rfl, rfl⟩, ⟨hF', ⟨hi, rfl⟩, s1.mono (by show 7 + 7 * a.m + 5 * (i : Int) + 1 <= 8 + 7 * a.m + 5 * (i : Int); omega), (mkN_s hi).symm.trans g3, g4⟩, g5⟩, ?_⟩, ?_, ?_⟩
    ·rintro ⟨i2, x2, b2⟩ ⟨⟨_, ⟨q1, q2⟩, q3, q4, q5⟩, q6⟩
     dsimp only at q1 q2 q3 q4 q5 q6 ⊢
     have t1 := q3.next (by omega) 40
     have t2 := t1.next (by omega) 40
     have t3 := t2.next (by omega) 9
     have t4 := t3.next (by omega) 9
     refine ⟨λ hb2 => ?_, λ hb2 => ?_⟩
     ·subst hb2
      refine ⟨⟨⟨by omega, by omega⟩, rfl, q3.used.1, ⟨by omega, by omega⟩, rfl, t1.used.1, ⟨by omega, by omega⟩, rfl, t2.used.1, ⟨by omega, by omega⟩, rfl, t3.used.1, by decide⟩, ⟨i2, ⟨nS5 x2.s, x2.ns ++ [mkNt a x2.s i2]⟩⟩, ⟨rfl, rfl, λ _ _ => rfl, rfl, rfl, by rw [q6]; rfl, by rw [q6]; rfl, λ j hj => ?_⟩, ⟨hF', ⟨q1, q2⟩, t4.mono (by show 8 + 7 * a.m + 5 * (i2 : Int) + 1 + 1 + 1 + 1 <= 12 + 7 * a.m + 5 * (i2 : Int); omega), q4, ?_⟩, ?_⟩
      ·rw [q6] at hj ⊢
       have hj : j < 1 := hj
       obtain rfl : j = 0 := by omega
       exact ⟨rfl, rfl, rfl, rfl, rfl⟩
      ·show (x2.ns ++ [_]).length <= i2 + 1; rw [q6]; simp
      ·show 0 < (x2.ns ++ [_]).length; simp
     ·subst hb2
      exact ⟨⟨i2, x2⟩, ⟨rfl, rfl, λ _ _ => rfl, rfl, rfl⟩, ⟨hF', ⟨q1, q2⟩, q3.mono (by show 8 + 7 * a.m + 5 * (i2 : Int) <= 12 + 7 * a.m + 5 * (i2 : Int); omega), q4, Nat.le_succ_of_le q5⟩, q6⟩
    ·rintro ⟨i2, x2⟩ ⟨⟨_, ⟨q1, q2⟩, q3, q4, q5⟩, q6⟩
     dsimp only at q1 q2 q3 q4 q5 q6 ⊢
     exact ⟨⟨i2 + 1, x2⟩, ⟨(wsucc (by omega)).symm, rfl, λ _ _ => rfl, rfl, rfl⟩, ⟨⟨hF', by show i2 + 1 <= _; omega, q3.mono (by show 12 + 7 * a.m + 5 * (i2 : Int) <= 7 + 7 * a.m + 5 * ((i2 + 1 : Nat) : Int); omega), q4, q5⟩, q6⟩, by show 100 - (i2 + 1) < 100 - i; omega⟩
    ·rintro ⟨i2, x2⟩ ⟨⟨_, ⟨q1, q2⟩, q3, q4, q5⟩, q6⟩
     dsimp only at q1 q2 q3 q4 q5 q6 ⊢
     exact ⟨⟨i2 + 1, x2⟩, ⟨(wsucc (by omega)).symm, rfl, λ _ _ => rfl, rfl, rfl, rfl, rfl, λ _ _ => ⟨rfl, rfl, rfl, rfl, rfl⟩⟩, ⟨⟨hF', by show i2 + 1 <= _; omega, q3.mono (by show 12 + 7 * a.m + 5 * (i2 : Int) <= 7 + 7 * a.m + 5 * ((i2 + 1 : Nat) : Int); omega), q4, q5⟩, q6⟩, by show 100 - (i2 + 1) < 100 - i; omega⟩
   ·have hi := n_ge (by decide) hc
    obtain rfl : i = (mS a).ms.length := by omega
    rw [Nat.sub_self] at g3
    have e : x = mNs a := g3
    subst e
    exact ⟨default, ⟨rfl, λ _ _ => rfl, rfl, rfl⟩, hF', g5⟩
  ·rintro ⟨i, x⟩ ⟨⟨_, g1, g2, g3, g4⟩, g5⟩
   dsimp only at g1 g2 g3 g4 g5 ⊢
   have s1 := g2.next (by omega) 2
   refine ⟨λ hc => ?_, λ hc => ?_⟩
   ·have hi := n_lt hc
    refine ⟨⟨⟨⟨rfl, g2.used.1⟩, ⟨i, ⟨nextS x.s 2, x.ns⟩, nextV x.s 2 == 0⟩, ⟨rfl, rfl, rfl, λ _ _ => rfl, rfl, rfl, rfl, rfl, λ _ _ => ⟨rfl, rfl, rfl, rfl, rfl⟩⟩, ⟨hF', ⟨hi, rfl⟩, s1.mono (by show 7 + 7 * a.m + 5 * (i : Int) + 1 <= 8 + 7 * a.m + 5 * (i : Int); omega), (mkN_s hi).symm.trans g3, g4⟩, g5⟩, ?_⟩, ?_⟩
    ·rintro ⟨i2, x2, b2⟩ ⟨⟨_, ⟨q1, q2⟩, q3, q4, q5⟩, q6⟩
     dsimp only at q1 q2 q3 q4 q5 q6 ⊢
     have t1 := q3.next (by omega) 40
     have t2 := t1.next (by omega) 40
     have t3 := t2.next (by omega) 9
     have t4 := t3.next (by omega) 9
     refine ⟨λ hb2 => ?_, λ hb2 => ?_⟩
     ·subst hb2
      refine ⟨⟨⟨by omega, by omega⟩, rfl, q3.used.1, ⟨by omega, by omega⟩, rfl, t1.used.1, ⟨by omega, by omega⟩, rfl, t2.used.1, ⟨by omega, by omega⟩, rfl, t3.used.1, Nat.one_pos, (λ h => by cases h), by omega, by omega⟩, ⟨i2, ⟨nS5 x2.s, x2.ns ++ [mkNt a x2.s i2]⟩⟩, ⟨rfl, rfl, λ _ _ => rfl, rfl, rfl, by simp, by simp, λ j hj => ?_⟩, ⟨hF', ⟨q1, q2⟩, t4.mono (by show 8 + 7 * a.m + 5 * (i2 : Int) + 1 + 1 + 1 + 1 <= 12 + 7 * a.m + 5 * (i2 : Int); omega), q4, ?_⟩, ?_⟩
      ·have hj : j < (x2.ns ++ [mkNt a x2.s i2]).length := hj
       rw [List.length_append] at hj
       show (gD (x2.ns ++ [_]) j).mi = _ /\ (gD (x2.ns ++ [_]) j).t.lo = _ /\ (gD (x2.ns ++ [_]) j).t.hi = _ /\ (gD (x2.ns ++ [_]) j).s.lo = _ /\ (gD (x2.ns ++ [_]) j).s.hi = _
       rw [gD_last _ _ _ (by simpa using hj)]
       cases decide (j < x2.ns.length) <;> exact ⟨rfl, rfl, rfl, rfl, rfl⟩
      ·show (x2.ns ++ [_]).length <= i2 + 1; simp; omega
      ·show 0 < (x2.ns ++ [_]).length; simp
     ·subst hb2
      exact ⟨⟨i2, x2⟩, ⟨rfl, rfl, λ _ _ => rfl, rfl, rfl, rfl, rfl, λ _ _ => ⟨rfl, rfl, rfl, rfl, rfl⟩⟩, ⟨hF', ⟨q1, q2⟩, q3.mono (by show 8 + 7 * a.m + 5 * (i2 : Int) <= 12 + 7 * a.m + 5 * (i2 : Int); omega), q4, Nat.le_succ_of_le q5⟩, q6⟩
    ·rintro ⟨i2, x2⟩ ⟨⟨_, ⟨q1, q2⟩, q3, q4, q5⟩, q6⟩
     dsimp only at q1 q2 q3 q4 q5 q6 ⊢
     exact ⟨⟨i2 + 1, x2⟩, ⟨(wsucc (by omega)).symm, rfl, λ _ _ => rfl, rfl, rfl, rfl, rfl, λ _ _ => ⟨rfl, rfl, rfl, rfl, rfl⟩⟩, ⟨⟨hF', by show i2 + 1 <= _; omega, q3.mono (by show 12 + 7 * a.m + 5 * (i2 : Int) <= 7 + 7 * a.m + 5 * ((i2 + 1 : Nat) : Int); omega), q4, q5⟩, q6⟩, by show 100 - (i2 + 1) < 100 - i; omega⟩
   ·have hi := n_ge (by omega) hc
    obtain rfl : i = (mS a).ms.length := by omega
    rw [Nat.sub_self] at g3
    have e : x = mNs a := g3
    subst e
    exact ⟨default, ⟨rfl, λ _ _ => rfl, rfl, rfl, rfl, rfl, λ _ _ => ⟨rfl, rfl, rfl, rfl, rfl⟩⟩, hF', g2.mono (by omega), g5, by omega⟩
  ·rintro ⟨_, e0⟩
   have em : mE a = mNs a := by unfold mE; rw [e0]; rfl
   have en : (mE a).ns = [] := by rw [em]; exact e0
   have el : (mdC a).ns.length = 0 := by show (mE a).ns.length = 0; rw [en]; rfl
   refine ⟨⟨default, ⟨by rw [em], λ _ _ => by rw [em], by rw [em], by rw [em]⟩, en⟩, λ _ => ⟨rfl, rfl, rfl, rfl, rfl, rfl, λ _ _ => ⟨rfl, rfl⟩, el, el, rfl, λ _ _ => rfl, rfl, λ _ _ => rfl, rfl, λ _ _ => rfl⟩⟩
  ·rintro ⟨_, e1, e2, e3⟩
   refine ⟨⟨⟨(mNs a).ns.length - 1, mNs a⟩, ⟨?_, rfl, λ _ _ => rfl, rfl, rfl, rfl, rfl, λ _ _ => ⟨rfl, rfl, rfl, rfl, rfl⟩⟩, hF', by show (mNs a).ns.length - 1 < (mNs a).ns.length; omega, e1.mono ?_, rfl, e3⟩, ?_⟩
   ·rw [w64 (by omega) (by omega)]; show (((mNs a).ns.length - 1 : Nat) : Int) = _; omega
   ·show 7 + 7 * a.m + 5 * a.m <= 7 + 7 * a.m + 5 * a.m + a.m - (((mNs a).ns.length - 1 : Nat) : Int); omega
   ·rintro ⟨i, x⟩ ⟨_, r1, r2, r3, r4⟩
    dsimp only at r1 r2 r3 r4 ⊢
    refine ⟨λ hi => ?_, λ hi => ?_⟩
    ·obtain ⟨j, rfl⟩ : ∃ j, i = j + 1 := ⟨i - 1, by omega⟩
     have ew : IntKind.i64.wrap (((j + 1 : Nat) : Int) + 1) = (j : Int) + 2 := by rw [w64 (by omega) (by omega)]; omega
     have ew2 : IntKind.i64.wrap (((j + 1 : Nat) : Int) - 1) = (j : Int) := by rw [w64 (by omega) (by omega)]; omega
     have hv := nextV_in r2 (by omega) ((j : Int) + 2)
     have hv2 := hv.2 (by omega)
     rw [ew, ew2]
     have hk : (nextV x.s ((j : Int) + 2)).toNat < x.ns.length := by omega
     refine ⟨r2.used.1, ⟨⟨hv.1, by omega⟩, hk, ⟨by omega, by omega⟩, r1, ⟨by omega, by omega⟩, r1, ⟨hv.1, by omega⟩, hk⟩, ⟨j, ⟨nextS x.s ((j : Int) + 2), swN x.ns (j + 1) (nextV x.s ((j : Int) + 2)).toNat⟩⟩, ⟨rfl, rfl, λ _ _ => rfl, rfl, rfl, swN_len _ _ _, swN_len _ _ _, λ t ht => ?_⟩, ⟨hF', ?_, (r2.next (by omega) _).mono ?_, r3, ?_⟩, Nat.lt_succ_self _⟩
     ·have e := swN_at (l := x.ns) (i := j + 1) (k := (nextV x.s ((j : Int) + 2)).toNat) r1 hk (t := t)
      show (gD (swN x.ns (j + 1) _) t).mi = _ /\ (gD (swN x.ns (j + 1) _) t).t.lo = _ /\ (gD (swN x.ns (j + 1) _) t).t.hi = _ /\ (gD (swN x.ns (j + 1) _) t).s.lo = _ /\ (gD (swN x.ns (j + 1) _) t).s.hi = _
      rw [e]
      cases decide (t = (nextV x.s ((j : Int) + 2)).toNat) <;> cases decide (t = j + 1) <;> exact ⟨rfl, rfl, rfl, rfl, rfl⟩
     ·show j < (swN x.ns _ _).length; rw [swN_len]; omega
     ·show 7 + 7 * a.m + 5 * a.m + a.m - ((j + 1 : Nat) : Int) + 1 <= 7 + 7 * a.m + 5 * a.m + a.m - (j : Int); omega
     ·show ((swN x.ns _ _).length : Int) <= _; rw [swN_len]; exact r4
    ·obtain rfl : i = 0 := by omega
     have e : x = mE a := r3
     subst e
     exact ⟨rfl, rfl, rfl, rfl, rfl, rfl, λ _ _ => ⟨rfl, rfl⟩, rfl, Nat.le_refl _, λ _ _ => ⟨rfl, rfl, rfl, rfl, rfl⟩, rfl, λ _ _ => rfl, rfl, λ _ _ => rfl, rfl, λ _ _ => rfl, rfl, λ _ _ => rfl, rfl, rfl⟩
theorem ok_MadeF : SpecOk Try.prog n_Made ((C_Made false).spec (dMkI false)) := okC (C_Made false) (A_Made false) [] [305] fn_Made (λ _ => by kernel_rfl) (λ _ => gok_cons ok_Next (gok_cons ok_Within gok_nil)) (λ (a : MkI) h => p_MadeF a (show preM a /\ a.b = false from h).1 (show preM a /\ a.b = false from h).2) (λ _ => noI rfl rfl) _
end Go.Bal
