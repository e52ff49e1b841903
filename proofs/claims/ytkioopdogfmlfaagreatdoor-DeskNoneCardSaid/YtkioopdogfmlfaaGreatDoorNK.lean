/- Part of the proof. -/
import Derived.Test.YtkioopdogfmlfaaGreatDoorNG
import Derived.Test.YtkioopdogfmlfaaGreatDoorNJ
import Derived.Test.YtkioopdogfmlfaaGreatDoorRows
set_option maxRecDepth 100000
set_option maxHeartbeats 8000000
set_option linter.all false
namespace Go.Pv.T
open Go Go.Pv Go.Proofs
theorem afOk_of {P : Program} {m r : Bool} {f : FuncId} {fn : Func} {af : AF} (h1 : P.funcs[f]? = some fn) (h2 : compF P m r fn = some af) (h3 : (fn.name == "runtime.NumGoroutine") = false) (h4 : af.body.dstOk fn.ntmps = true) : AfOk P r f af := by
  unfold compF at h2
  cases hb : fn.body with
  | none => rw [hb] at h2; cases h2
  | some c =>
    rw [hb, Option.bind_some] at h2
    cases hc : comp P m r c with
    | none => rw [hc] at h2; cases h2
    | some b =>
      rw [hc, Option.bind_some] at h2
      cases hr : fn.results.toList.mapM (compRes P) with
      | none => rw [hr] at h2; cases h2
      | some res =>
        rw [hr] at h2
        cases h2
        exact ⟨m, fn, c, h1, hb, hc, hr, h3, h4⟩
theorem okc145 : AfOk Tryz.prog false 145 F145 := afOk_of (m := false) Tryz.func145 (by kernel_rfl) (by kernel_rfl) (by kernel_rfl)
theorem okc148 : AfOk Tryz.prog false 148 F148 := afOk_of (m := false) Tryz.func148 (by kernel_rfl) (by kernel_rfl) (by kernel_rfl)
theorem okc149 : AfOk Tryz.prog false 149 F149 := afOk_of (m := false) Tryz.func149 (by kernel_rfl) (by kernel_rfl) (by kernel_rfl)
theorem okc153 : AfOk Tryz.prog false 153 F153 := afOk_of (m := false) Tryz.func153 (by kernel_rfl) (by kernel_rfl) (by kernel_rfl)
theorem okc154 : AfOk Tryz.prog false 154 F154 := afOk_of (m := false) Tryz.func154 (by kernel_rfl) (by kernel_rfl) (by kernel_rfl)
theorem okc156 : AfOk Tryz.prog false 156 F156 := afOk_of (m := false) Tryz.func156 (by kernel_rfl) (by kernel_rfl) (by kernel_rfl)
theorem okc159 : AfOk Tryz.prog false 159 F159 := afOk_of (m := false) Tryz.func159 (by kernel_rfl) (by kernel_rfl) (by kernel_rfl)
theorem okc162 : AfOk Tryz.prog false 162 F162 := afOk_of (m := true) Tryz.func162 (by kernel_rfl) (by kernel_rfl) (by kernel_rfl)
theorem okc163 : AfOk Tryz.prog false 163 F163 := afOk_of (m := false) Tryz.func163 (by kernel_rfl) (by kernel_rfl) (by kernel_rfl)
theorem okc164 : AfOk Tryz.prog false 164 F164 := afOk_of (m := true) Tryz.func164 (by kernel_rfl) (by kernel_rfl) (by kernel_rfl)
theorem okc165 : AfOk Tryz.prog false 165 F165 := afOk_of (m := false) Tryz.func165 (by kernel_rfl) (by kernel_rfl) (by kernel_rfl)
theorem okc166 : AfOk Tryz.prog false 166 F166 := afOk_of (m := false) Tryz.func166 (by kernel_rfl) (by kernel_rfl) (by kernel_rfl)
theorem okc167 : AfOk Tryz.prog false 167 F167 := afOk_of (m := false) Tryz.func167 (by kernel_rfl) (by kernel_rfl) (by kernel_rfl)
theorem okc168 : AfOk Tryz.prog false 168 F168 := afOk_of (m := false) Tryz.func168 (by kernel_rfl) (by kernel_rfl) (by kernel_rfl)
theorem okc169 : AfOk Tryz.prog false 169 F169 := afOk_of (m := false) Tryz.func169 (by kernel_rfl) (by kernel_rfl) (by kernel_rfl)
theorem okc170 : AfOk Tryz.prog false 170 F170 := afOk_of (m := false) Tryz.func170 (by kernel_rfl) (by kernel_rfl) (by kernel_rfl)
theorem okc175 : AfOk Tryz.prog false 175 F175 := afOk_of (m := false) Tryz.func175 (by kernel_rfl) (by kernel_rfl) (by kernel_rfl)
theorem okc192 : AfOk Tryz.prog false 192 F192 := afOk_of (m := false) Tryz.func192 (by kernel_rfl) (by kernel_rfl) (by kernel_rfl)
theorem okc193 : AfOk Tryz.prog false 193 F193 := afOk_of (m := false) Tryz.func193 (by kernel_rfl) (by kernel_rfl) (by kernel_rfl)
theorem okc194 : AfOk Tryz.prog false 194 F194 := afOk_of (m := false) Tryz.func194 (by kernel_rfl) (by kernel_rfl) (by kernel_rfl)
theorem okc195 : AfOk Tryz.prog false 195 F195 := afOk_of (m := false) Tryz.func195 (by kernel_rfl) (by kernel_rfl) (by kernel_rfl)
theorem okc200 : AfOk Tryz.prog false 200 F200 := afOk_of (m := false) Tryz.func200 (by kernel_rfl) (by kernel_rfl) (by kernel_rfl)
theorem okc208 : AfOk Tryz.prog false 208 F208 := afOk_of (m := true) Tryz.func208 (by kernel_rfl) (by kernel_rfl) (by kernel_rfl)
theorem okc216 : AfOk Tryz.prog false 216 F216 := afOk_of (m := false) Tryz.func216 (by kernel_rfl) (by kernel_rfl) (by kernel_rfl)
theorem okc217 : AfOk Tryz.prog false 217 F217 := afOk_of (m := false) Tryz.func217 (by kernel_rfl) (by kernel_rfl) (by kernel_rfl)
theorem okc219 : AfOk Tryz.prog false 219 F219 := afOk_of (m := false) Tryz.func219 (by kernel_rfl) (by kernel_rfl) (by kernel_rfl)
theorem okc220 : AfOk Tryz.prog false 220 F220 := afOk_of (m := true) Tryz.func220 (by kernel_rfl) (by kernel_rfl) (by kernel_rfl)
theorem okc221 : AfOk Tryz.prog false 221 F221 := afOk_of (m := false) Tryz.func221 (by kernel_rfl) (by kernel_rfl) (by kernel_rfl)
theorem okc222 : AfOk Tryz.prog false 222 F222 := afOk_of (m := false) Tryz.func222 (by kernel_rfl) (by kernel_rfl) (by kernel_rfl)
theorem okc223 : AfOk Tryz.prog false 223 F223 := afOk_of (m := false) Tryz.func223 (by kernel_rfl) (by kernel_rfl) (by kernel_rfl)
theorem okc224 : AfOk Tryz.prog false 224 F224 := afOk_of (m := false) Tryz.func224 (by kernel_rfl) (by kernel_rfl) (by kernel_rfl)
theorem okc234 : AfOk Tryz.prog false 234 F234 := afOk_of (m := false) Tryz.func234 (by kernel_rfl) (by kernel_rfl) (by kernel_rfl)
theorem okc245 : AfOk Tryz.prog false 245 F245 := afOk_of (m := true) Tryz.func245 (by kernel_rfl) (by kernel_rfl) (by kernel_rfl)
theorem okc248 : AfOk Tryz.prog false 248 F248 := afOk_of (m := true) Tryz.func248 (by kernel_rfl) (by kernel_rfl) (by kernel_rfl)
theorem okc249 : AfOk Tryz.prog false 249 F249 := afOk_of (m := true) Tryz.func249 (by kernel_rfl) (by kernel_rfl) (by kernel_rfl)
theorem okc255 : AfOk Tryz.prog false 255 F255 := afOk_of (m := false) Tryz.func255 (by kernel_rfl) (by kernel_rfl) (by kernel_rfl)
theorem okc259 : AfOk Tryz.prog false 259 F259 := afOk_of (m := false) Tryz.func259 (by kernel_rfl) (by kernel_rfl) (by kernel_rfl)
theorem okc271 : AfOk Tryz.prog false 271 F271 := afOk_of (m := false) Tryz.func271 (by kernel_rfl) (by kernel_rfl) (by kernel_rfl)
theorem okc291 : AfOk Tryz.prog false 291 F291 := afOk_of (m := false) Tryz.func291 (by kernel_rfl) (by kernel_rfl) (by kernel_rfl)
theorem okc293 : AfOk Tryz.prog false 293 F293 := afOk_of (m := false) Tryz.func293 (by kernel_rfl) (by kernel_rfl) (by kernel_rfl)
theorem okc295 : AfOk Tryz.prog false 295 F295 := afOk_of (m := false) Tryz.func295 (by kernel_rfl) (by kernel_rfl) (by kernel_rfl)
theorem okc306 : AfOk Tryz.prog false 306 F306 := afOk_of (m := true) Tryz.func306 (by kernel_rfl) (by kernel_rfl) (by kernel_rfl)
theorem okc320 : AfOk Tryz.prog false 320 F320 := afOk_of (m := false) Tryz.func320 (by kernel_rfl) (by kernel_rfl) (by kernel_rfl)
theorem okc343 : AfOk Tryz.prog false 343 F343 := afOk_of (m := true) Tryz.func343 (by kernel_rfl) (by kernel_rfl) (by kernel_rfl)
theorem okc409 : AfOk Tryz.prog false 409 F409 := afOk_of (m := false) Tryz.func409 (by kernel_rfl) (by kernel_rfl) (by kernel_rfl)
theorem okc3 : AfOk Tryz.prog false 3 F3 := afOk_of (m := false) Tryz.func3 (by kernel_rfl) (by kernel_rfl) (by kernel_rfl)
theorem okc5 : AfOk Tryz.prog false 5 F5 := afOk_of (m := false) Tryz.func5 (by kernel_rfl) (by kernel_rfl) (by kernel_rfl)
theorem okc6 : AfOk Tryz.prog false 6 F6 := afOk_of (m := false) Tryz.func6 (by kernel_rfl) (by kernel_rfl) (by kernel_rfl)
theorem okc9 : AfOk Tryz.prog false 9 F9 := afOk_of (m := true) Tryz.func9 (by kernel_rfl) (by kernel_rfl) (by kernel_rfl)
theorem okc19 : AfOk Tryz.prog false 19 F19 := afOk_of (m := false) Tryz.func19 (by kernel_rfl) (by kernel_rfl) (by kernel_rfl)
theorem okc23 : AfOk Tryz.prog false 23 F23 := afOk_of (m := false) Tryz.func23 (by kernel_rfl) (by kernel_rfl) (by kernel_rfl)
theorem okc25 : AfOk Tryz.prog false 25 F25 := afOk_of (m := false) Tryz.func25 (by kernel_rfl) (by kernel_rfl) (by kernel_rfl)
theorem okc32 : AfOk Tryz.prog false 32 F32 := afOk_of (m := false) Tryz.func32 (by kernel_rfl) (by kernel_rfl) (by kernel_rfl)
theorem okc33 : AfOk Tryz.prog false 33 F33 := afOk_of (m := false) Tryz.func33 (by kernel_rfl) (by kernel_rfl) (by kernel_rfl)
theorem okc34 : AfOk Tryz.prog false 34 F34 := afOk_of (m := false) Tryz.func34 (by kernel_rfl) (by kernel_rfl) (by kernel_rfl)
theorem okc35 : AfOk Tryz.prog false 35 F35 := afOk_of (m := false) Tryz.func35 (by kernel_rfl) (by kernel_rfl) (by kernel_rfl)
theorem okc36 : AfOk Tryz.prog false 36 F36 := afOk_of (m := false) Tryz.func36 (by kernel_rfl) (by kernel_rfl) (by kernel_rfl)
theorem okc38 : AfOk Tryz.prog false 38 F38 := afOk_of (m := false) Tryz.func38 (by kernel_rfl) (by kernel_rfl) (by kernel_rfl)
theorem okc39 : AfOk Tryz.prog false 39 F39 := afOk_of (m := false) Tryz.func39 (by kernel_rfl) (by kernel_rfl) (by kernel_rfl)
theorem okc46 : AfOk Tryz.prog false 46 F46 := afOk_of (m := false) Tryz.func46 (by kernel_rfl) (by kernel_rfl) (by kernel_rfl)
theorem okc47 : AfOk Tryz.prog false 47 F47 := afOk_of (m := false) Tryz.func47 (by kernel_rfl) (by kernel_rfl) (by kernel_rfl)
theorem okc49 : AfOk Tryz.prog false 49 F49 := afOk_of (m := false) Tryz.func49 (by kernel_rfl) (by kernel_rfl) (by kernel_rfl)
theorem okc52 : AfOk Tryz.prog false 52 F52 := afOk_of (m := false) Tryz.func52 (by kernel_rfl) (by kernel_rfl) (by kernel_rfl)
theorem okc57 : AfOk Tryz.prog false 57 F57 := afOk_of (m := false) Tryz.func57 (by kernel_rfl) (by kernel_rfl) (by kernel_rfl)
theorem okc58 : AfOk Tryz.prog false 58 F58 := afOk_of (m := false) Tryz.func58 (by kernel_rfl) (by kernel_rfl) (by kernel_rfl)
theorem okc59 : AfOk Tryz.prog false 59 F59 := afOk_of (m := false) Tryz.func59 (by kernel_rfl) (by kernel_rfl) (by kernel_rfl)
theorem okc60 : AfOk Tryz.prog false 60 F60 := afOk_of (m := false) Tryz.func60 (by kernel_rfl) (by kernel_rfl) (by kernel_rfl)
theorem okc61 : AfOk Tryz.prog false 61 F61 := afOk_of (m := false) Tryz.func61 (by kernel_rfl) (by kernel_rfl) (by kernel_rfl)
theorem okc62 : AfOk Tryz.prog false 62 F62 := afOk_of (m := false) Tryz.func62 (by kernel_rfl) (by kernel_rfl) (by kernel_rfl)
theorem okc63 : AfOk Tryz.prog false 63 F63 := afOk_of (m := false) Tryz.func63 (by kernel_rfl) (by kernel_rfl) (by kernel_rfl)
theorem okc65 : AfOk Tryz.prog false 65 F65 := afOk_of (m := false) Tryz.func65 (by kernel_rfl) (by kernel_rfl) (by kernel_rfl)
theorem okc66 : AfOk Tryz.prog false 66 F66 := afOk_of (m := false) Tryz.func66 (by kernel_rfl) (by kernel_rfl) (by kernel_rfl)
theorem okc67 : AfOk Tryz.prog false 67 F67 := afOk_of (m := true) Tryz.func67 (by kernel_rfl) (by kernel_rfl) (by kernel_rfl)
theorem okc69 : AfOk Tryz.prog false 69 F69 := afOk_of (m := false) Tryz.func69 (by kernel_rfl) (by kernel_rfl) (by kernel_rfl)
theorem okc71 : AfOk Tryz.prog false 71 F71 := afOk_of (m := false) Tryz.func71 (by kernel_rfl) (by kernel_rfl) (by kernel_rfl)
theorem okc79 : AfOk Tryz.prog false 79 F79 := afOk_of (m := false) Tryz.func79 (by kernel_rfl) (by kernel_rfl) (by kernel_rfl)
theorem okc82 : AfOk Tryz.prog false 82 F82 := afOk_of (m := false) Tryz.func82 (by kernel_rfl) (by kernel_rfl) (by kernel_rfl)
theorem okc85 : AfOk Tryz.prog false 85 F85 := afOk_of (m := false) Tryz.func85 (by kernel_rfl) (by kernel_rfl) (by kernel_rfl)
theorem okc91 : AfOk Tryz.prog false 91 F91 := afOk_of (m := false) Tryz.func91 (by kernel_rfl) (by kernel_rfl) (by kernel_rfl)
theorem okc92 : AfOk Tryz.prog false 92 F92 := afOk_of (m := false) Tryz.func92 (by kernel_rfl) (by kernel_rfl) (by kernel_rfl)
theorem okc93 : AfOk Tryz.prog false 93 F93 := afOk_of (m := false) Tryz.func93 (by kernel_rfl) (by kernel_rfl) (by kernel_rfl)
theorem okc101 : AfOk Tryz.prog false 101 F101 := afOk_of (m := false) Tryz.func101 (by kernel_rfl) (by kernel_rfl) (by kernel_rfl)
theorem okc103 : AfOk Tryz.prog false 103 F103 := afOk_of (m := false) Tryz.func103 (by kernel_rfl) (by kernel_rfl) (by kernel_rfl)
theorem okc104 : AfOk Tryz.prog false 104 F104 := afOk_of (m := false) Tryz.func104 (by kernel_rfl) (by kernel_rfl) (by kernel_rfl)
theorem okc106 : AfOk Tryz.prog false 106 F106 := afOk_of (m := false) Tryz.func106 (by kernel_rfl) (by kernel_rfl) (by kernel_rfl)
theorem okc107 : AfOk Tryz.prog false 107 F107 := afOk_of (m := false) Tryz.func107 (by kernel_rfl) (by kernel_rfl) (by kernel_rfl)
theorem okc111 : AfOk Tryz.prog false 111 F111 := afOk_of (m := false) Tryz.func111 (by kernel_rfl) (by kernel_rfl) (by kernel_rfl)
theorem okc114 : AfOk Tryz.prog false 114 F114 := afOk_of (m := false) Tryz.func114 (by kernel_rfl) (by kernel_rfl) (by kernel_rfl)
theorem okc115 : AfOk Tryz.prog false 115 F115 := afOk_of (m := false) Tryz.func115 (by kernel_rfl) (by kernel_rfl) (by kernel_rfl)
theorem okc116 : AfOk Tryz.prog false 116 F116 := afOk_of (m := false) Tryz.func116 (by kernel_rfl) (by kernel_rfl) (by kernel_rfl)
theorem okc117 : AfOk Tryz.prog false 117 F117 := afOk_of (m := true) Tryz.func117 (by kernel_rfl) (by kernel_rfl) (by kernel_rfl)
theorem okc123 : AfOk Tryz.prog false 123 F123 := afOk_of (m := false) Tryz.func123 (by kernel_rfl) (by kernel_rfl) (by kernel_rfl)
theorem okc129 : AfOk Tryz.prog false 129 F129 := afOk_of (m := false) Tryz.func129 (by kernel_rfl) (by kernel_rfl) (by kernel_rfl)
theorem okc131 : AfOk Tryz.prog false 131 F131 := afOk_of (m := false) Tryz.func131 (by kernel_rfl) (by kernel_rfl) (by kernel_rfl)
theorem okc137 : AfOk Tryz.prog false 137 F137 := afOk_of (m := false) Tryz.func137 (by kernel_rfl) (by kernel_rfl) (by kernel_rfl)
theorem fc_1Ok {f : FuncId} {af : AF} (h : fc_1 f = some af) : AfOk Tryz.prog false f af := by
  unfold fc_1 at h
  split at h
  · cases h; exact okc145
  · cases h; exact okc148
  · cases h; exact okc149
  · cases h; exact okc153
  · cases h; exact okc154
  · cases h; exact okc156
  · cases h; exact okc159
  · cases h; exact okc162
  · cases h; exact okc163
  · cases h; exact okc164
  · cases h; exact okc165
  · cases h; exact okc166
  · cases h; exact okc167
  · cases h; exact okc168
  · cases h; exact okc169
  · cases h; exact okc170
  · cases h; exact okc175
  · cases h; exact okc192
  · cases h; exact okc193
  · cases h; exact okc194
  · cases h; exact okc195
  · cases h; exact okc200
  · cases h; exact okc208
  · cases h; exact okc216
  · cases h; exact okc217
  · cases h; exact okc219
  · cases h; exact okc220
  · cases h; exact okc221
  · cases h; exact okc222
  · cases h; exact okc223
  · cases h; exact okc224
  · cases h; exact okc234
  · cases h; exact okc245
  · cases h; exact okc248
  · cases h; exact okc249
  · cases h; exact okc255
  · cases h; exact okc259
  · cases h; exact okc271
  · cases h; exact okc291
  · cases h; exact okc293
  · cases h; exact okc295
  · cases h; exact okc306
  · cases h; exact okc320
  · cases h; exact okc343
  · cases h; exact okc409
  · cases h
theorem fcOk {f : FuncId} {af : AF} (h : fc f = some af) : AfOk Tryz.prog false f af := by
  unfold fc at h
  split at h
  · cases h; exact okc3
  · cases h; exact okc5
  · cases h; exact okc6
  · cases h; exact okc9
  · cases h; exact okc19
  · cases h; exact okc23
  · cases h; exact okc25
  · cases h; exact okc32
  · cases h; exact okc33
  · cases h; exact okc34
  · cases h; exact okc35
  · cases h; exact okc36
  · cases h; exact okc38
  · cases h; exact okc39
  · cases h; exact okc46
  · cases h; exact okc47
  · cases h; exact okc49
  · cases h; exact okc52
  · cases h; exact okc57
  · cases h; exact okc58
  · cases h; exact okc59
  · cases h; exact okc60
  · cases h; exact okc61
  · cases h; exact okc62
  · cases h; exact okc63
  · cases h; exact okc65
  · cases h; exact okc66
  · cases h; exact okc67
  · cases h; exact okc69
  · cases h; exact okc71
  · cases h; exact okc79
  · cases h; exact okc82
  · cases h; exact okc85
  · cases h; exact okc91
  · cases h; exact okc92
  · cases h; exact okc93
  · cases h; exact okc101
  · cases h; exact okc103
  · cases h; exact okc104
  · cases h; exact okc106
  · cases h; exact okc107
  · cases h; exact okc111
  · cases h; exact okc114
  · cases h; exact okc115
  · cases h; exact okc116
  · cases h; exact okc117
  · cases h; exact okc123
  · cases h; exact okc129
  · cases h; exact okc131
  · cases h; exact okc137
  · exact fc_1Ok h
theorem oks340 : AfOk Tryz.prog true 340 S340 := afOk_of (m := true) Tryz.func340 (by kernel_rfl) (by kernel_rfl) (by kernel_rfl)
theorem oks357 : AfOk Tryz.prog true 357 S357 := afOk_of (m := true) Tryz.func357 (by kernel_rfl) (by kernel_rfl) (by kernel_rfl)
theorem oks361 : AfOk Tryz.prog true 361 S361 := afOk_of (m := true) Tryz.func361 (by kernel_rfl) (by kernel_rfl) (by kernel_rfl)
theorem oks362 : AfOk Tryz.prog true 362 S362 := afOk_of (m := true) Tryz.func362 (by kernel_rfl) (by kernel_rfl) (by kernel_rfl)
theorem oks376 : AfOk Tryz.prog true 376 S376 := afOk_of (m := true) Tryz.func376 (by kernel_rfl) (by kernel_rfl) (by kernel_rfl)
theorem oks377 : AfOk Tryz.prog true 377 S377 := afOk_of (m := true) Tryz.func377 (by kernel_rfl) (by kernel_rfl) (by kernel_rfl)
theorem oks394 : AfOk Tryz.prog true 394 S394 := afOk_of (m := true) Tryz.func394 (by kernel_rfl) (by kernel_rfl) (by kernel_rfl)
theorem oks395 : AfOk Tryz.prog true 395 S395 := afOk_of (m := true) Tryz.func395 (by kernel_rfl) (by kernel_rfl) (by kernel_rfl)
theorem oks400 : AfOk Tryz.prog true 400 S400 := afOk_of (m := true) Tryz.func400 (by kernel_rfl) (by kernel_rfl) (by kernel_rfl)
theorem oks401 : AfOk Tryz.prog true 401 S401 := afOk_of (m := true) Tryz.func401 (by kernel_rfl) (by kernel_rfl) (by kernel_rfl)
theorem oks411 : AfOk Tryz.prog true 411 S411 := afOk_of (m := true) Tryz.func411 (by kernel_rfl) (by kernel_rfl) (by kernel_rfl)
theorem oks415 : AfOk Tryz.prog true 415 S415 := afOk_of (m := true) Tryz.func415 (by kernel_rfl) (by kernel_rfl) (by kernel_rfl)
theorem oks4 : AfOk Tryz.prog true 4 S4 := afOk_of (m := true) Tryz.func4 (by kernel_rfl) (by kernel_rfl) (by kernel_rfl)
theorem oks7 : AfOk Tryz.prog true 7 S7 := afOk_of (m := true) Tryz.func7 (by kernel_rfl) (by kernel_rfl) (by kernel_rfl)
theorem oks8 : AfOk Tryz.prog true 8 S8 := afOk_of (m := true) Tryz.func8 (by kernel_rfl) (by kernel_rfl) (by kernel_rfl)
theorem oks12 : AfOk Tryz.prog true 12 S12 := afOk_of (m := true) Tryz.func12 (by kernel_rfl) (by kernel_rfl) (by kernel_rfl)
theorem oks13 : AfOk Tryz.prog true 13 S13 := afOk_of (m := true) Tryz.func13 (by kernel_rfl) (by kernel_rfl) (by kernel_rfl)
theorem oks20 : AfOk Tryz.prog true 20 S20 := afOk_of (m := true) Tryz.func20 (by kernel_rfl) (by kernel_rfl) (by kernel_rfl)
theorem oks21 : AfOk Tryz.prog true 21 S21 := afOk_of (m := true) Tryz.func21 (by kernel_rfl) (by kernel_rfl) (by kernel_rfl)
theorem oks22 : AfOk Tryz.prog true 22 S22 := afOk_of (m := true) Tryz.func22 (by kernel_rfl) (by kernel_rfl) (by kernel_rfl)
theorem oks24 : AfOk Tryz.prog true 24 S24 := afOk_of (m := true) Tryz.func24 (by kernel_rfl) (by kernel_rfl) (by kernel_rfl)
theorem oks37 : AfOk Tryz.prog true 37 S37 := afOk_of (m := true) Tryz.func37 (by kernel_rfl) (by kernel_rfl) (by kernel_rfl)
theorem oks51 : AfOk Tryz.prog true 51 S51 := afOk_of (m := true) Tryz.func51 (by kernel_rfl) (by kernel_rfl) (by kernel_rfl)
theorem oks80 : AfOk Tryz.prog true 80 S80 := afOk_of (m := true) Tryz.func80 (by kernel_rfl) (by kernel_rfl) (by kernel_rfl)
theorem oks81 : AfOk Tryz.prog true 81 S81 := afOk_of (m := true) Tryz.func81 (by kernel_rfl) (by kernel_rfl) (by kernel_rfl)
theorem oks83 : AfOk Tryz.prog true 83 S83 := afOk_of (m := true) Tryz.func83 (by kernel_rfl) (by kernel_rfl) (by kernel_rfl)
theorem oks94 : AfOk Tryz.prog true 94 S94 := afOk_of (m := true) Tryz.func94 (by kernel_rfl) (by kernel_rfl) (by kernel_rfl)
theorem oks112 : AfOk Tryz.prog true 112 S112 := afOk_of (m := true) Tryz.func112 (by kernel_rfl) (by kernel_rfl) (by kernel_rfl)
theorem oks113 : AfOk Tryz.prog true 113 S113 := afOk_of (m := true) Tryz.func113 (by kernel_rfl) (by kernel_rfl) (by kernel_rfl)
theorem oks130 : AfOk Tryz.prog true 130 S130 := afOk_of (m := true) Tryz.func130 (by kernel_rfl) (by kernel_rfl) (by kernel_rfl)
theorem oks132 : AfOk Tryz.prog true 132 S132 := afOk_of (m := true) Tryz.func132 (by kernel_rfl) (by kernel_rfl) (by kernel_rfl)
theorem oks146 : AfOk Tryz.prog true 146 S146 := afOk_of (m := true) Tryz.func146 (by kernel_rfl) (by kernel_rfl) (by kernel_rfl)
theorem oks161 : AfOk Tryz.prog true 161 S161 := afOk_of (m := true) Tryz.func161 (by kernel_rfl) (by kernel_rfl) (by kernel_rfl)
theorem oks162 : AfOk Tryz.prog true 162 S162 := afOk_of (m := true) Tryz.func162 (by kernel_rfl) (by kernel_rfl) (by kernel_rfl)
theorem oks206 : AfOk Tryz.prog true 206 S206 := afOk_of (m := true) Tryz.func206 (by kernel_rfl) (by kernel_rfl) (by kernel_rfl)
theorem oks208 : AfOk Tryz.prog true 208 S208 := afOk_of (m := true) Tryz.func208 (by kernel_rfl) (by kernel_rfl) (by kernel_rfl)
theorem oks209 : AfOk Tryz.prog true 209 S209 := afOk_of (m := true) Tryz.func209 (by kernel_rfl) (by kernel_rfl) (by kernel_rfl)
theorem oks210 : AfOk Tryz.prog true 210 S210 := afOk_of (m := true) Tryz.func210 (by kernel_rfl) (by kernel_rfl) (by kernel_rfl)
theorem oks211 : AfOk Tryz.prog true 211 S211 := afOk_of (m := true) Tryz.func211 (by kernel_rfl) (by kernel_rfl) (by kernel_rfl)
theorem oks212 : AfOk Tryz.prog true 212 S212 := afOk_of (m := true) Tryz.func212 (by kernel_rfl) (by kernel_rfl) (by kernel_rfl)
theorem oks213 : AfOk Tryz.prog true 213 S213 := afOk_of (m := true) Tryz.func213 (by kernel_rfl) (by kernel_rfl) (by kernel_rfl)
theorem oks219 : AfOk Tryz.prog true 219 S219 := afOk_of (m := true) Tryz.func219 (by kernel_rfl) (by kernel_rfl) (by kernel_rfl)
theorem oks241 : AfOk Tryz.prog true 241 S241 := afOk_of (m := true) Tryz.func241 (by kernel_rfl) (by kernel_rfl) (by kernel_rfl)
theorem oks242 : AfOk Tryz.prog true 242 S242 := afOk_of (m := true) Tryz.func242 (by kernel_rfl) (by kernel_rfl) (by kernel_rfl)
theorem oks243 : AfOk Tryz.prog true 243 S243 := afOk_of (m := true) Tryz.func243 (by kernel_rfl) (by kernel_rfl) (by kernel_rfl)
theorem oks244 : AfOk Tryz.prog true 244 S244 := afOk_of (m := true) Tryz.func244 (by kernel_rfl) (by kernel_rfl) (by kernel_rfl)
theorem oks246 : AfOk Tryz.prog true 246 S246 := afOk_of (m := true) Tryz.func246 (by kernel_rfl) (by kernel_rfl) (by kernel_rfl)
theorem oks250 : AfOk Tryz.prog true 250 S250 := afOk_of (m := true) Tryz.func250 (by kernel_rfl) (by kernel_rfl) (by kernel_rfl)
theorem oks252 : AfOk Tryz.prog true 252 S252 := afOk_of (m := true) Tryz.func252 (by kernel_rfl) (by kernel_rfl) (by kernel_rfl)
theorem oks253 : AfOk Tryz.prog true 253 S253 := afOk_of (m := true) Tryz.func253 (by kernel_rfl) (by kernel_rfl) (by kernel_rfl)
theorem oks256 : AfOk Tryz.prog true 256 S256 := afOk_of (m := true) Tryz.func256 (by kernel_rfl) (by kernel_rfl) (by kernel_rfl)
theorem oks287 : AfOk Tryz.prog true 287 S287 := afOk_of (m := true) Tryz.func287 (by kernel_rfl) (by kernel_rfl) (by kernel_rfl)
theorem oks288 : AfOk Tryz.prog true 288 S288 := afOk_of (m := true) Tryz.func288 (by kernel_rfl) (by kernel_rfl) (by kernel_rfl)
theorem oks289 : AfOk Tryz.prog true 289 S289 := afOk_of (m := true) Tryz.func289 (by kernel_rfl) (by kernel_rfl) (by kernel_rfl)
theorem oks293 : AfOk Tryz.prog true 293 S293 := afOk_of (m := true) Tryz.func293 (by kernel_rfl) (by kernel_rfl) (by kernel_rfl)
theorem oks297 : AfOk Tryz.prog true 297 S297 := afOk_of (m := true) Tryz.func297 (by kernel_rfl) (by kernel_rfl) (by kernel_rfl)
theorem oks299 : AfOk Tryz.prog true 299 S299 := afOk_of (m := true) Tryz.func299 (by kernel_rfl) (by kernel_rfl) (by kernel_rfl)
theorem oks300 : AfOk Tryz.prog true 300 S300 := afOk_of (m := true) Tryz.func300 (by kernel_rfl) (by kernel_rfl) (by kernel_rfl)
theorem oks302 : AfOk Tryz.prog true 302 S302 := afOk_of (m := true) Tryz.func302 (by kernel_rfl) (by kernel_rfl) (by kernel_rfl)
theorem oks304 : AfOk Tryz.prog true 304 S304 := afOk_of (m := true) Tryz.func304 (by kernel_rfl) (by kernel_rfl) (by kernel_rfl)
theorem oks327 : AfOk Tryz.prog true 327 S327 := afOk_of (m := true) Tryz.func327 (by kernel_rfl) (by kernel_rfl) (by kernel_rfl)
theorem oks336 : AfOk Tryz.prog true 336 S336 := afOk_of (m := true) Tryz.func336 (by kernel_rfl) (by kernel_rfl) (by kernel_rfl)
theorem fs_1Ok {f : FuncId} {af : AF} (h : fs_1 f = some af) : AfOk Tryz.prog true f af := by
  unfold fs_1 at h
  split at h
  · cases h; exact oks340
  · cases h; exact oks357
  · cases h; exact oks361
  · cases h; exact oks362
  · cases h; exact oks376
  · cases h; exact oks377
  · cases h; exact oks394
  · cases h; exact oks395
  · cases h; exact oks400
  · cases h; exact oks401
  · cases h; exact oks411
  · cases h; exact oks415
  · cases h
theorem fsOk {f : FuncId} {af : AF} (h : fs f = some af) : AfOk Tryz.prog true f af := by
  unfold fs at h
  split at h
  · cases h; exact oks4
  · cases h; exact oks7
  · cases h; exact oks8
  · cases h; exact oks12
  · cases h; exact oks13
  · cases h; exact oks20
  · cases h; exact oks21
  · cases h; exact oks22
  · cases h; exact oks24
  · cases h; exact oks37
  · cases h; exact oks51
  · cases h; exact oks80
  · cases h; exact oks81
  · cases h; exact oks83
  · cases h; exact oks94
  · cases h; exact oks112
  · cases h; exact oks113
  · cases h; exact oks130
  · cases h; exact oks132
  · cases h; exact oks146
  · cases h; exact oks161
  · cases h; exact oks162
  · cases h; exact oks206
  · cases h; exact oks208
  · cases h; exact oks209
  · cases h; exact oks210
  · cases h; exact oks211
  · cases h; exact oks212
  · cases h; exact oks213
  · cases h; exact oks219
  · cases h; exact oks241
  · cases h; exact oks242
  · cases h; exact oks243
  · cases h; exact oks244
  · cases h; exact oks246
  · cases h; exact oks250
  · cases h; exact oks252
  · cases h; exact oks253
  · cases h; exact oks256
  · cases h; exact oks287
  · cases h; exact oks288
  · cases h; exact oks289
  · cases h; exact oks293
  · cases h; exact oks297
  · cases h; exact oks299
  · cases h; exact oks300
  · cases h; exact oks302
  · cases h; exact oks304
  · cases h; exact oks327
  · cases h; exact oks336
  · exact fs_1Ok h
theorem envOk : EnvOk Tryz.prog E := ⟨fun _ _ h => fcOk h, fun _ _ h => fsOk h, (fun f m h => by
  simp only [E] at h
  cases h), (fun f cs h => by
  simp only [E] at h
  split at h
  · cases h; exact mkLaw
  · cases h), (fun f args r h => by
  simp only [E] at h
  cases h)⟩
end Go.Pv.T
