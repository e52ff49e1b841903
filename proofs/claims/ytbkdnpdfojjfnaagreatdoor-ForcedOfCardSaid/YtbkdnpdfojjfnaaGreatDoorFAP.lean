/- Part of the proof. -/
import Derived.Test.YtbkdnpdfojjfnaaGreatDoorFAG
import Derived.Test.YtbkdnpdfojjfnaaGreatDoorFAI
import Derived.Test.YtbkdnpdfojjfnaaGreatDoorFAO
import Derived.Test.YtbkdnpdfojjfnaaGreatDoorRows
set_option maxRecDepth 100000
set_option maxHeartbeats 8000000
set_option linter.all false
namespace Go.Pv.T
open Go Go.Pv Go.Proofs
theorem afOk_of {P : Program} {m r : Bool} {f : FuncId} {fn : Func} {af : AF} (h1 : P.funcs[f]? = some fn) (h2 : compF P m r fn = some af) (h3 : (fn.name == "runtime.NumGoroutine") = false) (h4 : af.body.dstOk fn.ntmps = true) : AfOk P r f af := by
  unfold compF at h2
  cases hb : fn.body with
  | none => rw [hb] at h2; cases h2
  | some c =>
    rw [hb, Option.bind_some] at h2
    cases hc : comp P m r c with
    | none => rw [hc] at h2; cases h2
    | some b =>
      rw [hc, Option.bind_some] at h2
      cases hr : fn.results.toList.mapM (compRes P) with
      | none => rw [hr] at h2; cases h2
      | some res =>
        rw [hr] at h2
        cases h2
        exact ⟨m, fn, c, h1, hb, hc, hr, h3, h4⟩
theorem okc167 : AfOk Tryz.prog false 167 F167 := afOk_of (m := false) Tryz.func167 (by kernel_rfl) (by kernel_rfl) (by kernel_rfl)
theorem okc169 : AfOk Tryz.prog false 169 F169 := afOk_of (m := false) Tryz.func169 (by kernel_rfl) (by kernel_rfl) (by kernel_rfl)
theorem okc171 : AfOk Tryz.prog false 171 F171 := afOk_of (m := true) Tryz.func171 (by kernel_rfl) (by kernel_rfl) (by kernel_rfl)
theorem okc175 : AfOk Tryz.prog false 175 F175 := afOk_of (m := true) Tryz.func175 (by kernel_rfl) (by kernel_rfl) (by kernel_rfl)
theorem okc180 : AfOk Tryz.prog false 180 F180 := afOk_of (m := false) Tryz.func180 (by kernel_rfl) (by kernel_rfl) (by kernel_rfl)
theorem okc182 : AfOk Tryz.prog false 182 F182 := afOk_of (m := false) Tryz.func182 (by kernel_rfl) (by kernel_rfl) (by kernel_rfl)
theorem okc186 : AfOk Tryz.prog false 186 F186 := afOk_of (m := false) Tryz.func186 (by kernel_rfl) (by kernel_rfl) (by kernel_rfl)
theorem okc196 : AfOk Tryz.prog false 196 F196 := afOk_of (m := false) Tryz.func196 (by kernel_rfl) (by kernel_rfl) (by kernel_rfl)
theorem okc197 : AfOk Tryz.prog false 197 F197 := afOk_of (m := false) Tryz.func197 (by kernel_rfl) (by kernel_rfl) (by kernel_rfl)
theorem okc198 : AfOk Tryz.prog false 198 F198 := afOk_of (m := false) Tryz.func198 (by kernel_rfl) (by kernel_rfl) (by kernel_rfl)
theorem okc201 : AfOk Tryz.prog false 201 F201 := afOk_of (m := false) Tryz.func201 (by kernel_rfl) (by kernel_rfl) (by kernel_rfl)
theorem okc202 : AfOk Tryz.prog false 202 F202 := afOk_of (m := false) Tryz.func202 (by kernel_rfl) (by kernel_rfl) (by kernel_rfl)
theorem okc204 : AfOk Tryz.prog false 204 F204 := afOk_of (m := true) Tryz.func204 (by kernel_rfl) (by kernel_rfl) (by kernel_rfl)
theorem okc206 : AfOk Tryz.prog false 206 F206 := afOk_of (m := false) Tryz.func206 (by kernel_rfl) (by kernel_rfl) (by kernel_rfl)
theorem okc208 : AfOk Tryz.prog false 208 F208 := afOk_of (m := false) Tryz.func208 (by kernel_rfl) (by kernel_rfl) (by kernel_rfl)
theorem okc209 : AfOk Tryz.prog false 209 F209 := afOk_of (m := false) Tryz.func209 (by kernel_rfl) (by kernel_rfl) (by kernel_rfl)
theorem okc213 : AfOk Tryz.prog false 213 F213 := afOk_of (m := true) Tryz.func213 (by kernel_rfl) (by kernel_rfl) (by kernel_rfl)
theorem okc226 : AfOk Tryz.prog false 226 F226 := afOk_of (m := false) Tryz.func226 (by kernel_rfl) (by kernel_rfl) (by kernel_rfl)
theorem okc227 : AfOk Tryz.prog false 227 F227 := afOk_of (m := false) Tryz.func227 (by kernel_rfl) (by kernel_rfl) (by kernel_rfl)
theorem okc228 : AfOk Tryz.prog false 228 F228 := afOk_of (m := false) Tryz.func228 (by kernel_rfl) (by kernel_rfl) (by kernel_rfl)
theorem okc245 : AfOk Tryz.prog false 245 F245 := afOk_of (m := false) Tryz.func245 (by kernel_rfl) (by kernel_rfl) (by kernel_rfl)
theorem okc292 : AfOk Tryz.prog false 292 F292 := afOk_of (m := false) Tryz.func292 (by kernel_rfl) (by kernel_rfl) (by kernel_rfl)
theorem okc72 : AfOk Tryz.prog false 72 F72 := afOk_of (m := true) Tryz.func72 (by kernel_rfl) (by kernel_rfl) (by kernel_rfl)
theorem okc74 : AfOk Tryz.prog false 74 F74 := afOk_of (m := true) Tryz.func74 (by kernel_rfl) (by kernel_rfl) (by kernel_rfl)
theorem okc77 : AfOk Tryz.prog false 77 F77 := afOk_of (m := true) Tryz.func77 (by kernel_rfl) (by kernel_rfl) (by kernel_rfl)
theorem okc78 : AfOk Tryz.prog false 78 F78 := afOk_of (m := true) Tryz.func78 (by kernel_rfl) (by kernel_rfl) (by kernel_rfl)
theorem okc81 : AfOk Tryz.prog false 81 F81 := afOk_of (m := false) Tryz.func81 (by kernel_rfl) (by kernel_rfl) (by kernel_rfl)
theorem okc82 : AfOk Tryz.prog false 82 F82 := afOk_of (m := false) Tryz.func82 (by kernel_rfl) (by kernel_rfl) (by kernel_rfl)
theorem okc83 : AfOk Tryz.prog false 83 F83 := afOk_of (m := false) Tryz.func83 (by kernel_rfl) (by kernel_rfl) (by kernel_rfl)
theorem okc84 : AfOk Tryz.prog false 84 F84 := afOk_of (m := false) Tryz.func84 (by kernel_rfl) (by kernel_rfl) (by kernel_rfl)
theorem okc85 : AfOk Tryz.prog false 85 F85 := afOk_of (m := false) Tryz.func85 (by kernel_rfl) (by kernel_rfl) (by kernel_rfl)
theorem okc86 : AfOk Tryz.prog false 86 F86 := afOk_of (m := false) Tryz.func86 (by kernel_rfl) (by kernel_rfl) (by kernel_rfl)
theorem okc87 : AfOk Tryz.prog false 87 F87 := afOk_of (m := false) Tryz.func87 (by kernel_rfl) (by kernel_rfl) (by kernel_rfl)
theorem okc88 : AfOk Tryz.prog false 88 F88 := afOk_of (m := false) Tryz.func88 (by kernel_rfl) (by kernel_rfl) (by kernel_rfl)
theorem okc89 : AfOk Tryz.prog false 89 F89 := afOk_of (m := false) Tryz.func89 (by kernel_rfl) (by kernel_rfl) (by kernel_rfl)
theorem okc91 : AfOk Tryz.prog false 91 F91 := afOk_of (m := false) Tryz.func91 (by kernel_rfl) (by kernel_rfl) (by kernel_rfl)
theorem okc92 : AfOk Tryz.prog false 92 F92 := afOk_of (m := false) Tryz.func92 (by kernel_rfl) (by kernel_rfl) (by kernel_rfl)
theorem okc93 : AfOk Tryz.prog false 93 F93 := afOk_of (m := false) Tryz.func93 (by kernel_rfl) (by kernel_rfl) (by kernel_rfl)
theorem okc94 : AfOk Tryz.prog false 94 F94 := afOk_of (m := false) Tryz.func94 (by kernel_rfl) (by kernel_rfl) (by kernel_rfl)
theorem okc95 : AfOk Tryz.prog false 95 F95 := afOk_of (m := false) Tryz.func95 (by kernel_rfl) (by kernel_rfl) (by kernel_rfl)
theorem okc100 : AfOk Tryz.prog false 100 F100 := afOk_of (m := false) Tryz.func100 (by kernel_rfl) (by kernel_rfl) (by kernel_rfl)
theorem okc103 : AfOk Tryz.prog false 103 F103 := afOk_of (m := false) Tryz.func103 (by kernel_rfl) (by kernel_rfl) (by kernel_rfl)
theorem okc104 : AfOk Tryz.prog false 104 F104 := afOk_of (m := false) Tryz.func104 (by kernel_rfl) (by kernel_rfl) (by kernel_rfl)
theorem okc105 : AfOk Tryz.prog false 105 F105 := afOk_of (m := false) Tryz.func105 (by kernel_rfl) (by kernel_rfl) (by kernel_rfl)
theorem okc106 : AfOk Tryz.prog false 106 F106 := afOk_of (m := false) Tryz.func106 (by kernel_rfl) (by kernel_rfl) (by kernel_rfl)
theorem okc108 : AfOk Tryz.prog false 108 F108 := afOk_of (m := false) Tryz.func108 (by kernel_rfl) (by kernel_rfl) (by kernel_rfl)
theorem okc114 : AfOk Tryz.prog false 114 F114 := afOk_of (m := false) Tryz.func114 (by kernel_rfl) (by kernel_rfl) (by kernel_rfl)
theorem okc115 : AfOk Tryz.prog false 115 F115 := afOk_of (m := false) Tryz.func115 (by kernel_rfl) (by kernel_rfl) (by kernel_rfl)
theorem okc116 : AfOk Tryz.prog false 116 F116 := afOk_of (m := false) Tryz.func116 (by kernel_rfl) (by kernel_rfl) (by kernel_rfl)
theorem okc117 : AfOk Tryz.prog false 117 F117 := afOk_of (m := false) Tryz.func117 (by kernel_rfl) (by kernel_rfl) (by kernel_rfl)
theorem okc118 : AfOk Tryz.prog false 118 F118 := afOk_of (m := false) Tryz.func118 (by kernel_rfl) (by kernel_rfl) (by kernel_rfl)
theorem okc121 : AfOk Tryz.prog false 121 F121 := afOk_of (m := false) Tryz.func121 (by kernel_rfl) (by kernel_rfl) (by kernel_rfl)
theorem okc122 : AfOk Tryz.prog false 122 F122 := afOk_of (m := false) Tryz.func122 (by kernel_rfl) (by kernel_rfl) (by kernel_rfl)
theorem okc124 : AfOk Tryz.prog false 124 F124 := afOk_of (m := false) Tryz.func124 (by kernel_rfl) (by kernel_rfl) (by kernel_rfl)
theorem okc125 : AfOk Tryz.prog false 125 F125 := afOk_of (m := false) Tryz.func125 (by kernel_rfl) (by kernel_rfl) (by kernel_rfl)
theorem okc126 : AfOk Tryz.prog false 126 F126 := afOk_of (m := false) Tryz.func126 (by kernel_rfl) (by kernel_rfl) (by kernel_rfl)
theorem okc127 : AfOk Tryz.prog false 127 F127 := afOk_of (m := false) Tryz.func127 (by kernel_rfl) (by kernel_rfl) (by kernel_rfl)
theorem okc128 : AfOk Tryz.prog false 128 F128 := afOk_of (m := false) Tryz.func128 (by kernel_rfl) (by kernel_rfl) (by kernel_rfl)
theorem okc129 : AfOk Tryz.prog false 129 F129 := afOk_of (m := false) Tryz.func129 (by kernel_rfl) (by kernel_rfl) (by kernel_rfl)
theorem okc133 : AfOk Tryz.prog false 133 F133 := afOk_of (m := false) Tryz.func133 (by kernel_rfl) (by kernel_rfl) (by kernel_rfl)
theorem okc135 : AfOk Tryz.prog false 135 F135 := afOk_of (m := false) Tryz.func135 (by kernel_rfl) (by kernel_rfl) (by kernel_rfl)
theorem okc136 : AfOk Tryz.prog false 136 F136 := afOk_of (m := false) Tryz.func136 (by kernel_rfl) (by kernel_rfl) (by kernel_rfl)
theorem okc138 : AfOk Tryz.prog false 138 F138 := afOk_of (m := false) Tryz.func138 (by kernel_rfl) (by kernel_rfl) (by kernel_rfl)
theorem okc141 : AfOk Tryz.prog false 141 F141 := afOk_of (m := false) Tryz.func141 (by kernel_rfl) (by kernel_rfl) (by kernel_rfl)
theorem okc148 : AfOk Tryz.prog false 148 F148 := afOk_of (m := false) Tryz.func148 (by kernel_rfl) (by kernel_rfl) (by kernel_rfl)
theorem okc152 : AfOk Tryz.prog false 152 F152 := afOk_of (m := false) Tryz.func152 (by kernel_rfl) (by kernel_rfl) (by kernel_rfl)
theorem okc153 : AfOk Tryz.prog false 153 F153 := afOk_of (m := false) Tryz.func153 (by kernel_rfl) (by kernel_rfl) (by kernel_rfl)
theorem okc154 : AfOk Tryz.prog false 154 F154 := afOk_of (m := false) Tryz.func154 (by kernel_rfl) (by kernel_rfl) (by kernel_rfl)
theorem okc156 : AfOk Tryz.prog false 156 F156 := afOk_of (m := false) Tryz.func156 (by kernel_rfl) (by kernel_rfl) (by kernel_rfl)
theorem okc158 : AfOk Tryz.prog false 158 F158 := afOk_of (m := false) Tryz.func158 (by kernel_rfl) (by kernel_rfl) (by kernel_rfl)
theorem okc162 : AfOk Tryz.prog false 162 F162 := afOk_of (m := false) Tryz.func162 (by kernel_rfl) (by kernel_rfl) (by kernel_rfl)
theorem okc164 : AfOk Tryz.prog false 164 F164 := afOk_of (m := false) Tryz.func164 (by kernel_rfl) (by kernel_rfl) (by kernel_rfl)
theorem okc3 : AfOk Tryz.prog false 3 F3 := afOk_of (m := false) Tryz.func3 (by kernel_rfl) (by kernel_rfl) (by kernel_rfl)
theorem okc4 : AfOk Tryz.prog false 4 F4 := afOk_of (m := false) Tryz.func4 (by kernel_rfl) (by kernel_rfl) (by kernel_rfl)
theorem okc5 : AfOk Tryz.prog false 5 F5 := afOk_of (m := false) Tryz.func5 (by kernel_rfl) (by kernel_rfl) (by kernel_rfl)
theorem okc6 : AfOk Tryz.prog false 6 F6 := afOk_of (m := false) Tryz.func6 (by kernel_rfl) (by kernel_rfl) (by kernel_rfl)
theorem okc7 : AfOk Tryz.prog false 7 F7 := afOk_of (m := false) Tryz.func7 (by kernel_rfl) (by kernel_rfl) (by kernel_rfl)
theorem okc8 : AfOk Tryz.prog false 8 F8 := afOk_of (m := false) Tryz.func8 (by kernel_rfl) (by kernel_rfl) (by kernel_rfl)
theorem okc9 : AfOk Tryz.prog false 9 F9 := afOk_of (m := false) Tryz.func9 (by kernel_rfl) (by kernel_rfl) (by kernel_rfl)
theorem okc10 : AfOk Tryz.prog false 10 F10 := afOk_of (m := false) Tryz.func10 (by kernel_rfl) (by kernel_rfl) (by kernel_rfl)
theorem okc14 : AfOk Tryz.prog false 14 F14 := afOk_of (m := true) Tryz.func14 (by kernel_rfl) (by kernel_rfl) (by kernel_rfl)
theorem okc15 : AfOk Tryz.prog false 15 F15 := afOk_of (m := false) Tryz.func15 (by kernel_rfl) (by kernel_rfl) (by kernel_rfl)
theorem okc16 : AfOk Tryz.prog false 16 F16 := afOk_of (m := false) Tryz.func16 (by kernel_rfl) (by kernel_rfl) (by kernel_rfl)
theorem okc17 : AfOk Tryz.prog false 17 F17 := afOk_of (m := false) Tryz.func17 (by kernel_rfl) (by kernel_rfl) (by kernel_rfl)
theorem okc18 : AfOk Tryz.prog false 18 F18 := afOk_of (m := false) Tryz.func18 (by kernel_rfl) (by kernel_rfl) (by kernel_rfl)
theorem okc19 : AfOk Tryz.prog false 19 F19 := afOk_of (m := false) Tryz.func19 (by kernel_rfl) (by kernel_rfl) (by kernel_rfl)
theorem okc20 : AfOk Tryz.prog false 20 F20 := afOk_of (m := false) Tryz.func20 (by kernel_rfl) (by kernel_rfl) (by kernel_rfl)
theorem okc21 : AfOk Tryz.prog false 21 F21 := afOk_of (m := false) Tryz.func21 (by kernel_rfl) (by kernel_rfl) (by kernel_rfl)
theorem okc22 : AfOk Tryz.prog false 22 F22 := afOk_of (m := false) Tryz.func22 (by kernel_rfl) (by kernel_rfl) (by kernel_rfl)
theorem okc23 : AfOk Tryz.prog false 23 F23 := afOk_of (m := false) Tryz.func23 (by kernel_rfl) (by kernel_rfl) (by kernel_rfl)
theorem okc25 : AfOk Tryz.prog false 25 F25 := afOk_of (m := false) Tryz.func25 (by kernel_rfl) (by kernel_rfl) (by kernel_rfl)
theorem okc26 : AfOk Tryz.prog false 26 F26 := afOk_of (m := false) Tryz.func26 (by kernel_rfl) (by kernel_rfl) (by kernel_rfl)
theorem okc27 : AfOk Tryz.prog false 27 F27 := afOk_of (m := false) Tryz.func27 (by kernel_rfl) (by kernel_rfl) (by kernel_rfl)
theorem okc29 : AfOk Tryz.prog false 29 F29 := afOk_of (m := false) Tryz.func29 (by kernel_rfl) (by kernel_rfl) (by kernel_rfl)
theorem okc30 : AfOk Tryz.prog false 30 F30 := afOk_of (m := true) Tryz.func30 (by kernel_rfl) (by kernel_rfl) (by kernel_rfl)
theorem okc31 : AfOk Tryz.prog false 31 F31 := afOk_of (m := true) Tryz.func31 (by kernel_rfl) (by kernel_rfl) (by kernel_rfl)
theorem okc32 : AfOk Tryz.prog false 32 F32 := afOk_of (m := false) Tryz.func32 (by kernel_rfl) (by kernel_rfl) (by kernel_rfl)
theorem okc33 : AfOk Tryz.prog false 33 F33 := afOk_of (m := false) Tryz.func33 (by kernel_rfl) (by kernel_rfl) (by kernel_rfl)
theorem okc34 : AfOk Tryz.prog false 34 F34 := afOk_of (m := false) Tryz.func34 (by kernel_rfl) (by kernel_rfl) (by kernel_rfl)
theorem okc36 : AfOk Tryz.prog false 36 F36 := afOk_of (m := false) Tryz.func36 (by kernel_rfl) (by kernel_rfl) (by kernel_rfl)
theorem okc37 : AfOk Tryz.prog false 37 F37 := afOk_of (m := false) Tryz.func37 (by kernel_rfl) (by kernel_rfl) (by kernel_rfl)
theorem okc38 : AfOk Tryz.prog false 38 F38 := afOk_of (m := false) Tryz.func38 (by kernel_rfl) (by kernel_rfl) (by kernel_rfl)
theorem okc39 : AfOk Tryz.prog false 39 F39 := afOk_of (m := false) Tryz.func39 (by kernel_rfl) (by kernel_rfl) (by kernel_rfl)
theorem okc40 : AfOk Tryz.prog false 40 F40 := afOk_of (m := false) Tryz.func40 (by kernel_rfl) (by kernel_rfl) (by kernel_rfl)
theorem okc41 : AfOk Tryz.prog false 41 F41 := afOk_of (m := false) Tryz.func41 (by kernel_rfl) (by kernel_rfl) (by kernel_rfl)
theorem okc44 : AfOk Tryz.prog false 44 F44 := afOk_of (m := false) Tryz.func44 (by kernel_rfl) (by kernel_rfl) (by kernel_rfl)
theorem okc50 : AfOk Tryz.prog false 50 F50 := afOk_of (m := false) Tryz.func50 (by kernel_rfl) (by kernel_rfl) (by kernel_rfl)
theorem okc51 : AfOk Tryz.prog false 51 F51 := afOk_of (m := false) Tryz.func51 (by kernel_rfl) (by kernel_rfl) (by kernel_rfl)
theorem okc52 : AfOk Tryz.prog false 52 F52 := afOk_of (m := false) Tryz.func52 (by kernel_rfl) (by kernel_rfl) (by kernel_rfl)
theorem okc53 : AfOk Tryz.prog false 53 F53 := afOk_of (m := false) Tryz.func53 (by kernel_rfl) (by kernel_rfl) (by kernel_rfl)
theorem okc54 : AfOk Tryz.prog false 54 F54 := afOk_of (m := false) Tryz.func54 (by kernel_rfl) (by kernel_rfl) (by kernel_rfl)
theorem okc55 : AfOk Tryz.prog false 55 F55 := afOk_of (m := false) Tryz.func55 (by kernel_rfl) (by kernel_rfl) (by kernel_rfl)
theorem okc56 : AfOk Tryz.prog false 56 F56 := afOk_of (m := false) Tryz.func56 (by kernel_rfl) (by kernel_rfl) (by kernel_rfl)
theorem okc57 : AfOk Tryz.prog false 57 F57 := afOk_of (m := false) Tryz.func57 (by kernel_rfl) (by kernel_rfl) (by kernel_rfl)
theorem okc58 : AfOk Tryz.prog false 58 F58 := afOk_of (m := false) Tryz.func58 (by kernel_rfl) (by kernel_rfl) (by kernel_rfl)
theorem okc59 : AfOk Tryz.prog false 59 F59 := afOk_of (m := false) Tryz.func59 (by kernel_rfl) (by kernel_rfl) (by kernel_rfl)
theorem okc60 : AfOk Tryz.prog false 60 F60 := afOk_of (m := false) Tryz.func60 (by kernel_rfl) (by kernel_rfl) (by kernel_rfl)
theorem okc61 : AfOk Tryz.prog false 61 F61 := afOk_of (m := false) Tryz.func61 (by kernel_rfl) (by kernel_rfl) (by kernel_rfl)
theorem okc62 : AfOk Tryz.prog false 62 F62 := afOk_of (m := false) Tryz.func62 (by kernel_rfl) (by kernel_rfl) (by kernel_rfl)
theorem okc63 : AfOk Tryz.prog false 63 F63 := afOk_of (m := false) Tryz.func63 (by kernel_rfl) (by kernel_rfl) (by kernel_rfl)
theorem okc66 : AfOk Tryz.prog false 66 F66 := afOk_of (m := false) Tryz.func66 (by kernel_rfl) (by kernel_rfl) (by kernel_rfl)
theorem okc70 : AfOk Tryz.prog false 70 F70 := afOk_of (m := true) Tryz.func70 (by kernel_rfl) (by kernel_rfl) (by kernel_rfl)
theorem fc_2Ok {f : FuncId} {af : AF} (h : fc_2 f = some af) : AfOk Tryz.prog false f af := by
  unfold fc_2 at h
  split at h
  · cases h; exact okc167
  · cases h; exact okc169
  · cases h; exact okc171
  · cases h; exact okc175
  · cases h; exact okc180
  · cases h; exact okc182
  · cases h; exact okc186
  · cases h; exact okc196
  · cases h; exact okc197
  · cases h; exact okc198
  · cases h; exact okc201
  · cases h; exact okc202
  · cases h; exact okc204
  · cases h; exact okc206
  · cases h; exact okc208
  · cases h; exact okc209
  · cases h; exact okc213
  · cases h; exact okc226
  · cases h; exact okc227
  · cases h; exact okc228
  · cases h; exact okc245
  · cases h; exact okc292
  · cases h
theorem fc_1Ok {f : FuncId} {af : AF} (h : fc_1 f = some af) : AfOk Tryz.prog false f af := by
  unfold fc_1 at h
  split at h
  · cases h; exact okc72
  · cases h; exact okc74
  · cases h; exact okc77
  · cases h; exact okc78
  · cases h; exact okc81
  · cases h; exact okc82
  · cases h; exact okc83
  · cases h; exact okc84
  · cases h; exact okc85
  · cases h; exact okc86
  · cases h; exact okc87
  · cases h; exact okc88
  · cases h; exact okc89
  · cases h; exact okc91
  · cases h; exact okc92
  · cases h; exact okc93
  · cases h; exact okc94
  · cases h; exact okc95
  · cases h; exact okc100
  · cases h; exact okc103
  · cases h; exact okc104
  · cases h; exact okc105
  · cases h; exact okc106
  · cases h; exact okc108
  · cases h; exact okc114
  · cases h; exact okc115
  · cases h; exact okc116
  · cases h; exact okc117
  · cases h; exact okc118
  · cases h; exact okc121
  · cases h; exact okc122
  · cases h; exact okc124
  · cases h; exact okc125
  · cases h; exact okc126
  · cases h; exact okc127
  · cases h; exact okc128
  · cases h; exact okc129
  · cases h; exact okc133
  · cases h; exact okc135
  · cases h; exact okc136
  · cases h; exact okc138
  · cases h; exact okc141
  · cases h; exact okc148
  · cases h; exact okc152
  · cases h; exact okc153
  · cases h; exact okc154
  · cases h; exact okc156
  · cases h; exact okc158
  · cases h; exact okc162
  · cases h; exact okc164
  · exact fc_2Ok h
theorem fcOk {f : FuncId} {af : AF} (h : fc f = some af) : AfOk Tryz.prog false f af := by
  unfold fc at h
  split at h
  · cases h; exact okc3
  · cases h; exact okc4
  · cases h; exact okc5
  · cases h; exact okc6
  · cases h; exact okc7
  · cases h; exact okc8
  · cases h; exact okc9
  · cases h; exact okc10
  · cases h; exact okc14
  · cases h; exact okc15
  · cases h; exact okc16
  · cases h; exact okc17
  · cases h; exact okc18
  · cases h; exact okc19
  · cases h; exact okc20
  · cases h; exact okc21
  · cases h; exact okc22
  · cases h; exact okc23
  · cases h; exact okc25
  · cases h; exact okc26
  · cases h; exact okc27
  · cases h; exact okc29
  · cases h; exact okc30
  · cases h; exact okc31
  · cases h; exact okc32
  · cases h; exact okc33
  · cases h; exact okc34
  · cases h; exact okc36
  · cases h; exact okc37
  · cases h; exact okc38
  · cases h; exact okc39
  · cases h; exact okc40
  · cases h; exact okc41
  · cases h; exact okc44
  · cases h; exact okc50
  · cases h; exact okc51
  · cases h; exact okc52
  · cases h; exact okc53
  · cases h; exact okc54
  · cases h; exact okc55
  · cases h; exact okc56
  · cases h; exact okc57
  · cases h; exact okc58
  · cases h; exact okc59
  · cases h; exact okc60
  · cases h; exact okc61
  · cases h; exact okc62
  · cases h; exact okc63
  · cases h; exact okc66
  · cases h; exact okc70
  · exact fc_1Ok h
theorem oks294 : AfOk Tryz.prog true 294 S294 := afOk_of (m := true) Tryz.func294 (by kernel_rfl) (by kernel_rfl) (by kernel_rfl)
theorem oks297 : AfOk Tryz.prog true 297 S297 := afOk_of (m := true) Tryz.func297 (by kernel_rfl) (by kernel_rfl) (by kernel_rfl)
theorem oks305 : AfOk Tryz.prog true 305 S305 := afOk_of (m := true) Tryz.func305 (by kernel_rfl) (by kernel_rfl) (by kernel_rfl)
theorem oks306 : AfOk Tryz.prog true 306 S306 := afOk_of (m := true) Tryz.func306 (by kernel_rfl) (by kernel_rfl) (by kernel_rfl)
theorem oks147 : AfOk Tryz.prog true 147 S147 := afOk_of (m := true) Tryz.func147 (by kernel_rfl) (by kernel_rfl) (by kernel_rfl)
theorem oks155 : AfOk Tryz.prog true 155 S155 := afOk_of (m := true) Tryz.func155 (by kernel_rfl) (by kernel_rfl) (by kernel_rfl)
theorem oks157 : AfOk Tryz.prog true 157 S157 := afOk_of (m := true) Tryz.func157 (by kernel_rfl) (by kernel_rfl) (by kernel_rfl)
theorem oks165 : AfOk Tryz.prog true 165 S165 := afOk_of (m := true) Tryz.func165 (by kernel_rfl) (by kernel_rfl) (by kernel_rfl)
theorem oks166 : AfOk Tryz.prog true 166 S166 := afOk_of (m := true) Tryz.func166 (by kernel_rfl) (by kernel_rfl) (by kernel_rfl)
theorem oks168 : AfOk Tryz.prog true 168 S168 := afOk_of (m := true) Tryz.func168 (by kernel_rfl) (by kernel_rfl) (by kernel_rfl)
theorem oks170 : AfOk Tryz.prog true 170 S170 := afOk_of (m := true) Tryz.func170 (by kernel_rfl) (by kernel_rfl) (by kernel_rfl)
theorem oks176 : AfOk Tryz.prog true 176 S176 := afOk_of (m := true) Tryz.func176 (by kernel_rfl) (by kernel_rfl) (by kernel_rfl)
theorem oks177 : AfOk Tryz.prog true 177 S177 := afOk_of (m := true) Tryz.func177 (by kernel_rfl) (by kernel_rfl) (by kernel_rfl)
theorem oks178 : AfOk Tryz.prog true 178 S178 := afOk_of (m := true) Tryz.func178 (by kernel_rfl) (by kernel_rfl) (by kernel_rfl)
theorem oks179 : AfOk Tryz.prog true 179 S179 := afOk_of (m := true) Tryz.func179 (by kernel_rfl) (by kernel_rfl) (by kernel_rfl)
theorem oks187 : AfOk Tryz.prog true 187 S187 := afOk_of (m := true) Tryz.func187 (by kernel_rfl) (by kernel_rfl) (by kernel_rfl)
theorem oks199 : AfOk Tryz.prog true 199 S199 := afOk_of (m := true) Tryz.func199 (by kernel_rfl) (by kernel_rfl) (by kernel_rfl)
theorem oks203 : AfOk Tryz.prog true 203 S203 := afOk_of (m := true) Tryz.func203 (by kernel_rfl) (by kernel_rfl) (by kernel_rfl)
theorem oks205 : AfOk Tryz.prog true 205 S205 := afOk_of (m := true) Tryz.func205 (by kernel_rfl) (by kernel_rfl) (by kernel_rfl)
theorem oks207 : AfOk Tryz.prog true 207 S207 := afOk_of (m := true) Tryz.func207 (by kernel_rfl) (by kernel_rfl) (by kernel_rfl)
theorem oks208 : AfOk Tryz.prog true 208 S208 := afOk_of (m := true) Tryz.func208 (by kernel_rfl) (by kernel_rfl) (by kernel_rfl)
theorem oks212 : AfOk Tryz.prog true 212 S212 := afOk_of (m := true) Tryz.func212 (by kernel_rfl) (by kernel_rfl) (by kernel_rfl)
theorem oks214 : AfOk Tryz.prog true 214 S214 := afOk_of (m := true) Tryz.func214 (by kernel_rfl) (by kernel_rfl) (by kernel_rfl)
theorem oks215 : AfOk Tryz.prog true 215 S215 := afOk_of (m := true) Tryz.func215 (by kernel_rfl) (by kernel_rfl) (by kernel_rfl)
theorem oks216 : AfOk Tryz.prog true 216 S216 := afOk_of (m := true) Tryz.func216 (by kernel_rfl) (by kernel_rfl) (by kernel_rfl)
theorem oks217 : AfOk Tryz.prog true 217 S217 := afOk_of (m := true) Tryz.func217 (by kernel_rfl) (by kernel_rfl) (by kernel_rfl)
theorem oks233 : AfOk Tryz.prog true 233 S233 := afOk_of (m := true) Tryz.func233 (by kernel_rfl) (by kernel_rfl) (by kernel_rfl)
theorem oks234 : AfOk Tryz.prog true 234 S234 := afOk_of (m := true) Tryz.func234 (by kernel_rfl) (by kernel_rfl) (by kernel_rfl)
theorem oks235 : AfOk Tryz.prog true 235 S235 := afOk_of (m := true) Tryz.func235 (by kernel_rfl) (by kernel_rfl) (by kernel_rfl)
theorem oks237 : AfOk Tryz.prog true 237 S237 := afOk_of (m := true) Tryz.func237 (by kernel_rfl) (by kernel_rfl) (by kernel_rfl)
theorem oks240 : AfOk Tryz.prog true 240 S240 := afOk_of (m := true) Tryz.func240 (by kernel_rfl) (by kernel_rfl) (by kernel_rfl)
theorem oks241 : AfOk Tryz.prog true 241 S241 := afOk_of (m := true) Tryz.func241 (by kernel_rfl) (by kernel_rfl) (by kernel_rfl)
theorem oks242 : AfOk Tryz.prog true 242 S242 := afOk_of (m := true) Tryz.func242 (by kernel_rfl) (by kernel_rfl) (by kernel_rfl)
theorem oks243 : AfOk Tryz.prog true 243 S243 := afOk_of (m := true) Tryz.func243 (by kernel_rfl) (by kernel_rfl) (by kernel_rfl)
theorem oks244 : AfOk Tryz.prog true 244 S244 := afOk_of (m := true) Tryz.func244 (by kernel_rfl) (by kernel_rfl) (by kernel_rfl)
theorem oks246 : AfOk Tryz.prog true 246 S246 := afOk_of (m := true) Tryz.func246 (by kernel_rfl) (by kernel_rfl) (by kernel_rfl)
theorem oks247 : AfOk Tryz.prog true 247 S247 := afOk_of (m := true) Tryz.func247 (by kernel_rfl) (by kernel_rfl) (by kernel_rfl)
theorem oks248 : AfOk Tryz.prog true 248 S248 := afOk_of (m := true) Tryz.func248 (by kernel_rfl) (by kernel_rfl) (by kernel_rfl)
theorem oks249 : AfOk Tryz.prog true 249 S249 := afOk_of (m := true) Tryz.func249 (by kernel_rfl) (by kernel_rfl) (by kernel_rfl)
theorem oks251 : AfOk Tryz.prog true 251 S251 := afOk_of (m := true) Tryz.func251 (by kernel_rfl) (by kernel_rfl) (by kernel_rfl)
theorem oks252 : AfOk Tryz.prog true 252 S252 := afOk_of (m := true) Tryz.func252 (by kernel_rfl) (by kernel_rfl) (by kernel_rfl)
theorem oks253 : AfOk Tryz.prog true 253 S253 := afOk_of (m := true) Tryz.func253 (by kernel_rfl) (by kernel_rfl) (by kernel_rfl)
theorem oks256 : AfOk Tryz.prog true 256 S256 := afOk_of (m := true) Tryz.func256 (by kernel_rfl) (by kernel_rfl) (by kernel_rfl)
theorem oks257 : AfOk Tryz.prog true 257 S257 := afOk_of (m := true) Tryz.func257 (by kernel_rfl) (by kernel_rfl) (by kernel_rfl)
theorem oks258 : AfOk Tryz.prog true 258 S258 := afOk_of (m := true) Tryz.func258 (by kernel_rfl) (by kernel_rfl) (by kernel_rfl)
theorem oks259 : AfOk Tryz.prog true 259 S259 := afOk_of (m := true) Tryz.func259 (by kernel_rfl) (by kernel_rfl) (by kernel_rfl)
theorem oks264 : AfOk Tryz.prog true 264 S264 := afOk_of (m := true) Tryz.func264 (by kernel_rfl) (by kernel_rfl) (by kernel_rfl)
theorem oks267 : AfOk Tryz.prog true 267 S267 := afOk_of (m := true) Tryz.func267 (by kernel_rfl) (by kernel_rfl) (by kernel_rfl)
theorem oks268 : AfOk Tryz.prog true 268 S268 := afOk_of (m := true) Tryz.func268 (by kernel_rfl) (by kernel_rfl) (by kernel_rfl)
theorem oks269 : AfOk Tryz.prog true 269 S269 := afOk_of (m := true) Tryz.func269 (by kernel_rfl) (by kernel_rfl) (by kernel_rfl)
theorem oks270 : AfOk Tryz.prog true 270 S270 := afOk_of (m := true) Tryz.func270 (by kernel_rfl) (by kernel_rfl) (by kernel_rfl)
theorem oks271 : AfOk Tryz.prog true 271 S271 := afOk_of (m := true) Tryz.func271 (by kernel_rfl) (by kernel_rfl) (by kernel_rfl)
theorem oks272 : AfOk Tryz.prog true 272 S272 := afOk_of (m := true) Tryz.func272 (by kernel_rfl) (by kernel_rfl) (by kernel_rfl)
theorem oks283 : AfOk Tryz.prog true 283 S283 := afOk_of (m := true) Tryz.func283 (by kernel_rfl) (by kernel_rfl) (by kernel_rfl)
theorem oks11 : AfOk Tryz.prog true 11 S11 := afOk_of (m := true) Tryz.func11 (by kernel_rfl) (by kernel_rfl) (by kernel_rfl)
theorem oks12 : AfOk Tryz.prog true 12 S12 := afOk_of (m := true) Tryz.func12 (by kernel_rfl) (by kernel_rfl) (by kernel_rfl)
theorem oks13 : AfOk Tryz.prog true 13 S13 := afOk_of (m := true) Tryz.func13 (by kernel_rfl) (by kernel_rfl) (by kernel_rfl)
theorem oks21 : AfOk Tryz.prog true 21 S21 := afOk_of (m := true) Tryz.func21 (by kernel_rfl) (by kernel_rfl) (by kernel_rfl)
theorem oks22 : AfOk Tryz.prog true 22 S22 := afOk_of (m := true) Tryz.func22 (by kernel_rfl) (by kernel_rfl) (by kernel_rfl)
theorem oks24 : AfOk Tryz.prog true 24 S24 := afOk_of (m := true) Tryz.func24 (by kernel_rfl) (by kernel_rfl) (by kernel_rfl)
theorem oks28 : AfOk Tryz.prog true 28 S28 := afOk_of (m := true) Tryz.func28 (by kernel_rfl) (by kernel_rfl) (by kernel_rfl)
theorem oks33 : AfOk Tryz.prog true 33 S33 := afOk_of (m := true) Tryz.func33 (by kernel_rfl) (by kernel_rfl) (by kernel_rfl)
theorem oks35 : AfOk Tryz.prog true 35 S35 := afOk_of (m := true) Tryz.func35 (by kernel_rfl) (by kernel_rfl) (by kernel_rfl)
theorem oks42 : AfOk Tryz.prog true 42 S42 := afOk_of (m := true) Tryz.func42 (by kernel_rfl) (by kernel_rfl) (by kernel_rfl)
theorem oks43 : AfOk Tryz.prog true 43 S43 := afOk_of (m := true) Tryz.func43 (by kernel_rfl) (by kernel_rfl) (by kernel_rfl)
theorem oks45 : AfOk Tryz.prog true 45 S45 := afOk_of (m := true) Tryz.func45 (by kernel_rfl) (by kernel_rfl) (by kernel_rfl)
theorem oks46 : AfOk Tryz.prog true 46 S46 := afOk_of (m := true) Tryz.func46 (by kernel_rfl) (by kernel_rfl) (by kernel_rfl)
theorem oks47 : AfOk Tryz.prog true 47 S47 := afOk_of (m := true) Tryz.func47 (by kernel_rfl) (by kernel_rfl) (by kernel_rfl)
theorem oks48 : AfOk Tryz.prog true 48 S48 := afOk_of (m := true) Tryz.func48 (by kernel_rfl) (by kernel_rfl) (by kernel_rfl)
theorem oks49 : AfOk Tryz.prog true 49 S49 := afOk_of (m := true) Tryz.func49 (by kernel_rfl) (by kernel_rfl) (by kernel_rfl)
theorem oks64 : AfOk Tryz.prog true 64 S64 := afOk_of (m := true) Tryz.func64 (by kernel_rfl) (by kernel_rfl) (by kernel_rfl)
theorem oks65 : AfOk Tryz.prog true 65 S65 := afOk_of (m := true) Tryz.func65 (by kernel_rfl) (by kernel_rfl) (by kernel_rfl)
theorem oks67 : AfOk Tryz.prog true 67 S67 := afOk_of (m := true) Tryz.func67 (by kernel_rfl) (by kernel_rfl) (by kernel_rfl)
theorem oks68 : AfOk Tryz.prog true 68 S68 := afOk_of (m := true) Tryz.func68 (by kernel_rfl) (by kernel_rfl) (by kernel_rfl)
theorem oks69 : AfOk Tryz.prog true 69 S69 := afOk_of (m := true) Tryz.func69 (by kernel_rfl) (by kernel_rfl) (by kernel_rfl)
theorem oks71 : AfOk Tryz.prog true 71 S71 := afOk_of (m := true) Tryz.func71 (by kernel_rfl) (by kernel_rfl) (by kernel_rfl)
theorem oks73 : AfOk Tryz.prog true 73 S73 := afOk_of (m := true) Tryz.func73 (by kernel_rfl) (by kernel_rfl) (by kernel_rfl)
theorem oks75 : AfOk Tryz.prog true 75 S75 := afOk_of (m := true) Tryz.func75 (by kernel_rfl) (by kernel_rfl) (by kernel_rfl)
theorem oks76 : AfOk Tryz.prog true 76 S76 := afOk_of (m := true) Tryz.func76 (by kernel_rfl) (by kernel_rfl) (by kernel_rfl)
theorem oks79 : AfOk Tryz.prog true 79 S79 := afOk_of (m := true) Tryz.func79 (by kernel_rfl) (by kernel_rfl) (by kernel_rfl)
theorem oks80 : AfOk Tryz.prog true 80 S80 := afOk_of (m := true) Tryz.func80 (by kernel_rfl) (by kernel_rfl) (by kernel_rfl)
theorem oks96 : AfOk Tryz.prog true 96 S96 := afOk_of (m := true) Tryz.func96 (by kernel_rfl) (by kernel_rfl) (by kernel_rfl)
theorem oks97 : AfOk Tryz.prog true 97 S97 := afOk_of (m := true) Tryz.func97 (by kernel_rfl) (by kernel_rfl) (by kernel_rfl)
theorem oks98 : AfOk Tryz.prog true 98 S98 := afOk_of (m := true) Tryz.func98 (by kernel_rfl) (by kernel_rfl) (by kernel_rfl)
theorem oks99 : AfOk Tryz.prog true 99 S99 := afOk_of (m := true) Tryz.func99 (by kernel_rfl) (by kernel_rfl) (by kernel_rfl)
theorem oks101 : AfOk Tryz.prog true 101 S101 := afOk_of (m := true) Tryz.func101 (by kernel_rfl) (by kernel_rfl) (by kernel_rfl)
theorem oks102 : AfOk Tryz.prog true 102 S102 := afOk_of (m := true) Tryz.func102 (by kernel_rfl) (by kernel_rfl) (by kernel_rfl)
theorem oks103 : AfOk Tryz.prog true 103 S103 := afOk_of (m := true) Tryz.func103 (by kernel_rfl) (by kernel_rfl) (by kernel_rfl)
theorem oks106 : AfOk Tryz.prog true 106 S106 := afOk_of (m := true) Tryz.func106 (by kernel_rfl) (by kernel_rfl) (by kernel_rfl)
theorem oks110 : AfOk Tryz.prog true 110 S110 := afOk_of (m := true) Tryz.func110 (by kernel_rfl) (by kernel_rfl) (by kernel_rfl)
theorem oks111 : AfOk Tryz.prog true 111 S111 := afOk_of (m := true) Tryz.func111 (by kernel_rfl) (by kernel_rfl) (by kernel_rfl)
theorem oks112 : AfOk Tryz.prog true 112 S112 := afOk_of (m := true) Tryz.func112 (by kernel_rfl) (by kernel_rfl) (by kernel_rfl)
theorem oks113 : AfOk Tryz.prog true 113 S113 := afOk_of (m := true) Tryz.func113 (by kernel_rfl) (by kernel_rfl) (by kernel_rfl)
theorem oks119 : AfOk Tryz.prog true 119 S119 := afOk_of (m := true) Tryz.func119 (by kernel_rfl) (by kernel_rfl) (by kernel_rfl)
theorem oks120 : AfOk Tryz.prog true 120 S120 := afOk_of (m := true) Tryz.func120 (by kernel_rfl) (by kernel_rfl) (by kernel_rfl)
theorem oks130 : AfOk Tryz.prog true 130 S130 := afOk_of (m := true) Tryz.func130 (by kernel_rfl) (by kernel_rfl) (by kernel_rfl)
theorem oks131 : AfOk Tryz.prog true 131 S131 := afOk_of (m := true) Tryz.func131 (by kernel_rfl) (by kernel_rfl) (by kernel_rfl)
theorem oks134 : AfOk Tryz.prog true 134 S134 := afOk_of (m := true) Tryz.func134 (by kernel_rfl) (by kernel_rfl) (by kernel_rfl)
theorem oks138 : AfOk Tryz.prog true 138 S138 := afOk_of (m := true) Tryz.func138 (by kernel_rfl) (by kernel_rfl) (by kernel_rfl)
theorem oks140 : AfOk Tryz.prog true 140 S140 := afOk_of (m := true) Tryz.func140 (by kernel_rfl) (by kernel_rfl) (by kernel_rfl)
theorem oks142 : AfOk Tryz.prog true 142 S142 := afOk_of (m := true) Tryz.func142 (by kernel_rfl) (by kernel_rfl) (by kernel_rfl)
theorem oks144 : AfOk Tryz.prog true 144 S144 := afOk_of (m := true) Tryz.func144 (by kernel_rfl) (by kernel_rfl) (by kernel_rfl)
theorem oks145 : AfOk Tryz.prog true 145 S145 := afOk_of (m := true) Tryz.func145 (by kernel_rfl) (by kernel_rfl) (by kernel_rfl)
theorem oks146 : AfOk Tryz.prog true 146 S146 := afOk_of (m := true) Tryz.func146 (by kernel_rfl) (by kernel_rfl) (by kernel_rfl)
theorem fs_2Ok {f : FuncId} {af : AF} (h : fs_2 f = some af) : AfOk Tryz.prog true f af := by
  unfold fs_2 at h
  split at h
  · cases h; exact oks294
  · cases h; exact oks297
  · cases h; exact oks305
  · cases h; exact oks306
  · cases h
theorem fs_1Ok {f : FuncId} {af : AF} (h : fs_1 f = some af) : AfOk Tryz.prog true f af := by
  unfold fs_1 at h
  split at h
  · cases h; exact oks147
  · cases h; exact oks155
  · cases h; exact oks157
  · cases h; exact oks165
  · cases h; exact oks166
  · cases h; exact oks168
  · cases h; exact oks170
  · cases h; exact oks176
  · cases h; exact oks177
  · cases h; exact oks178
  · cases h; exact oks179
  · cases h; exact oks187
  · cases h; exact oks199
  · cases h; exact oks203
  · cases h; exact oks205
  · cases h; exact oks207
  · cases h; exact oks208
  · cases h; exact oks212
  · cases h; exact oks214
  · cases h; exact oks215
  · cases h; exact oks216
  · cases h; exact oks217
  · cases h; exact oks233
  · cases h; exact oks234
  · cases h; exact oks235
  · cases h; exact oks237
  · cases h; exact oks240
  · cases h; exact oks241
  · cases h; exact oks242
  · cases h; exact oks243
  · cases h; exact oks244
  · cases h; exact oks246
  · cases h; exact oks247
  · cases h; exact oks248
  · cases h; exact oks249
  · cases h; exact oks251
  · cases h; exact oks252
  · cases h; exact oks253
  · cases h; exact oks256
  · cases h; exact oks257
  · cases h; exact oks258
  · cases h; exact oks259
  · cases h; exact oks264
  · cases h; exact oks267
  · cases h; exact oks268
  · cases h; exact oks269
  · cases h; exact oks270
  · cases h; exact oks271
  · cases h; exact oks272
  · cases h; exact oks283
  · exact fs_2Ok h
theorem fsOk {f : FuncId} {af : AF} (h : fs f = some af) : AfOk Tryz.prog true f af := by
  unfold fs at h
  split at h
  · cases h; exact oks11
  · cases h; exact oks12
  · cases h; exact oks13
  · cases h; exact oks21
  · cases h; exact oks22
  · cases h; exact oks24
  · cases h; exact oks28
  · cases h; exact oks33
  · cases h; exact oks35
  · cases h; exact oks42
  · cases h; exact oks43
  · cases h; exact oks45
  · cases h; exact oks46
  · cases h; exact oks47
  · cases h; exact oks48
  · cases h; exact oks49
  · cases h; exact oks64
  · cases h; exact oks65
  · cases h; exact oks67
  · cases h; exact oks68
  · cases h; exact oks69
  · cases h; exact oks71
  · cases h; exact oks73
  · cases h; exact oks75
  · cases h; exact oks76
  · cases h; exact oks79
  · cases h; exact oks80
  · cases h; exact oks96
  · cases h; exact oks97
  · cases h; exact oks98
  · cases h; exact oks99
  · cases h; exact oks101
  · cases h; exact oks102
  · cases h; exact oks103
  · cases h; exact oks106
  · cases h; exact oks110
  · cases h; exact oks111
  · cases h; exact oks112
  · cases h; exact oks113
  · cases h; exact oks119
  · cases h; exact oks120
  · cases h; exact oks130
  · cases h; exact oks131
  · cases h; exact oks134
  · cases h; exact oks138
  · cases h; exact oks140
  · cases h; exact oks142
  · cases h; exact oks144
  · cases h; exact oks145
  · cases h; exact oks146
  · exact fs_1Ok h
theorem envOk : EnvOk Tryz.prog E := ⟨fun _ _ h => fcOk h, fun _ _ h => fsOk h, (fun f m h => by
  simp only [E] at h
  cases h), (fun f cs h => by
  simp only [E] at h
  split at h
  · cases h; exact mkLaw
  · cases h), (fun f args r h => by
  simp only [E] at h
  cases h)⟩
end Go.Pv.T
