/- Part of the proof. -/
import Derived.Test.YtlologakfnhgkaaGreatDoorWG
import Derived.Test.YtlologakfnhgkaaGreatDoorWJ
import Derived.Test.YtlologakfnhgkaaGreatDoorRows
set_option maxRecDepth 100000
set_option maxHeartbeats 8000000
set_option linter.all false
namespace Go.Pv.T
open Go Go.Pv Go.Proofs
theorem afOk_of {P : Program} {m r : Bool} {f : FuncId} {fn : Func} {af : AF} (h1 : P.funcs[f]? = some fn) (h2 : compF P m r fn = some af) (h3 : (fn.name == "runtime.NumGoroutine") = false) (h4 : af.body.dstOk fn.ntmps = true) : AfOk P r f af := by
  unfold compF at h2
  cases hb : fn.body with
  | none => rw [hb] at h2; cases h2
  | some c =>
    rw [hb, Option.bind_some] at h2
    cases hc : comp P m r c with
    | none => rw [hc] at h2; cases h2
    | some b =>
      rw [hc, Option.bind_some] at h2
      cases hr : fn.results.toList.mapM (compRes P) with
      | none => rw [hr] at h2; cases h2
      | some res =>
        rw [hr] at h2
        cases h2
        exact ⟨m, fn, c, h1, hb, hc, hr, h3, h4⟩
theorem okc196 : AfOk Tryz.prog false 196 F196 := afOk_of (m := false) Tryz.func196 (by kernel_rfl) (by kernel_rfl) (by kernel_rfl)
theorem okc198 : AfOk Tryz.prog false 198 F198 := afOk_of (m := false) Tryz.func198 (by kernel_rfl) (by kernel_rfl) (by kernel_rfl)
theorem okc205 : AfOk Tryz.prog false 205 F205 := afOk_of (m := false) Tryz.func205 (by kernel_rfl) (by kernel_rfl) (by kernel_rfl)
theorem okc206 : AfOk Tryz.prog false 206 F206 := afOk_of (m := false) Tryz.func206 (by kernel_rfl) (by kernel_rfl) (by kernel_rfl)
theorem okc214 : AfOk Tryz.prog false 214 F214 := afOk_of (m := true) Tryz.func214 (by kernel_rfl) (by kernel_rfl) (by kernel_rfl)
theorem okc221 : AfOk Tryz.prog false 221 F221 := afOk_of (m := false) Tryz.func221 (by kernel_rfl) (by kernel_rfl) (by kernel_rfl)
theorem okc230 : AfOk Tryz.prog false 230 F230 := afOk_of (m := false) Tryz.func230 (by kernel_rfl) (by kernel_rfl) (by kernel_rfl)
theorem okc231 : AfOk Tryz.prog false 231 F231 := afOk_of (m := false) Tryz.func231 (by kernel_rfl) (by kernel_rfl) (by kernel_rfl)
theorem okc240 : AfOk Tryz.prog false 240 F240 := afOk_of (m := false) Tryz.func240 (by kernel_rfl) (by kernel_rfl) (by kernel_rfl)
theorem okc246 : AfOk Tryz.prog false 246 F246 := afOk_of (m := false) Tryz.func246 (by kernel_rfl) (by kernel_rfl) (by kernel_rfl)
theorem okc256 : AfOk Tryz.prog false 256 F256 := afOk_of (m := true) Tryz.func256 (by kernel_rfl) (by kernel_rfl) (by kernel_rfl)
theorem okc273 : AfOk Tryz.prog false 273 F273 := afOk_of (m := false) Tryz.func273 (by kernel_rfl) (by kernel_rfl) (by kernel_rfl)
theorem okc286 : AfOk Tryz.prog false 286 F286 := afOk_of (m := false) Tryz.func286 (by kernel_rfl) (by kernel_rfl) (by kernel_rfl)
theorem okc336 : AfOk Tryz.prog false 336 F336 := afOk_of (m := false) Tryz.func336 (by kernel_rfl) (by kernel_rfl) (by kernel_rfl)
theorem okc358 : AfOk Tryz.prog false 358 F358 := afOk_of (m := false) Tryz.func358 (by kernel_rfl) (by kernel_rfl) (by kernel_rfl)
theorem okc83 : AfOk Tryz.prog false 83 F83 := afOk_of (m := false) Tryz.func83 (by kernel_rfl) (by kernel_rfl) (by kernel_rfl)
theorem okc85 : AfOk Tryz.prog false 85 F85 := afOk_of (m := false) Tryz.func85 (by kernel_rfl) (by kernel_rfl) (by kernel_rfl)
theorem okc86 : AfOk Tryz.prog false 86 F86 := afOk_of (m := false) Tryz.func86 (by kernel_rfl) (by kernel_rfl) (by kernel_rfl)
theorem okc87 : AfOk Tryz.prog false 87 F87 := afOk_of (m := false) Tryz.func87 (by kernel_rfl) (by kernel_rfl) (by kernel_rfl)
theorem okc88 : AfOk Tryz.prog false 88 F88 := afOk_of (m := false) Tryz.func88 (by kernel_rfl) (by kernel_rfl) (by kernel_rfl)
theorem okc90 : AfOk Tryz.prog false 90 F90 := afOk_of (m := false) Tryz.func90 (by kernel_rfl) (by kernel_rfl) (by kernel_rfl)
theorem okc91 : AfOk Tryz.prog false 91 F91 := afOk_of (m := true) Tryz.func91 (by kernel_rfl) (by kernel_rfl) (by kernel_rfl)
theorem okc92 : AfOk Tryz.prog false 92 F92 := afOk_of (m := false) Tryz.func92 (by kernel_rfl) (by kernel_rfl) (by kernel_rfl)
theorem okc93 : AfOk Tryz.prog false 93 F93 := afOk_of (m := false) Tryz.func93 (by kernel_rfl) (by kernel_rfl) (by kernel_rfl)
theorem okc94 : AfOk Tryz.prog false 94 F94 := afOk_of (m := false) Tryz.func94 (by kernel_rfl) (by kernel_rfl) (by kernel_rfl)
theorem okc95 : AfOk Tryz.prog false 95 F95 := afOk_of (m := false) Tryz.func95 (by kernel_rfl) (by kernel_rfl) (by kernel_rfl)
theorem okc96 : AfOk Tryz.prog false 96 F96 := afOk_of (m := false) Tryz.func96 (by kernel_rfl) (by kernel_rfl) (by kernel_rfl)
theorem okc102 : AfOk Tryz.prog false 102 F102 := afOk_of (m := false) Tryz.func102 (by kernel_rfl) (by kernel_rfl) (by kernel_rfl)
theorem okc103 : AfOk Tryz.prog false 103 F103 := afOk_of (m := false) Tryz.func103 (by kernel_rfl) (by kernel_rfl) (by kernel_rfl)
theorem okc104 : AfOk Tryz.prog false 104 F104 := afOk_of (m := false) Tryz.func104 (by kernel_rfl) (by kernel_rfl) (by kernel_rfl)
theorem okc105 : AfOk Tryz.prog false 105 F105 := afOk_of (m := false) Tryz.func105 (by kernel_rfl) (by kernel_rfl) (by kernel_rfl)
theorem okc109 : AfOk Tryz.prog false 109 F109 := afOk_of (m := true) Tryz.func109 (by kernel_rfl) (by kernel_rfl) (by kernel_rfl)
theorem okc110 : AfOk Tryz.prog false 110 F110 := afOk_of (m := true) Tryz.func110 (by kernel_rfl) (by kernel_rfl) (by kernel_rfl)
theorem okc112 : AfOk Tryz.prog false 112 F112 := afOk_of (m := false) Tryz.func112 (by kernel_rfl) (by kernel_rfl) (by kernel_rfl)
theorem okc113 : AfOk Tryz.prog false 113 F113 := afOk_of (m := false) Tryz.func113 (by kernel_rfl) (by kernel_rfl) (by kernel_rfl)
theorem okc115 : AfOk Tryz.prog false 115 F115 := afOk_of (m := false) Tryz.func115 (by kernel_rfl) (by kernel_rfl) (by kernel_rfl)
theorem okc116 : AfOk Tryz.prog false 116 F116 := afOk_of (m := false) Tryz.func116 (by kernel_rfl) (by kernel_rfl) (by kernel_rfl)
theorem okc117 : AfOk Tryz.prog false 117 F117 := afOk_of (m := false) Tryz.func117 (by kernel_rfl) (by kernel_rfl) (by kernel_rfl)
theorem okc118 : AfOk Tryz.prog false 118 F118 := afOk_of (m := false) Tryz.func118 (by kernel_rfl) (by kernel_rfl) (by kernel_rfl)
theorem okc119 : AfOk Tryz.prog false 119 F119 := afOk_of (m := false) Tryz.func119 (by kernel_rfl) (by kernel_rfl) (by kernel_rfl)
theorem okc120 : AfOk Tryz.prog false 120 F120 := afOk_of (m := false) Tryz.func120 (by kernel_rfl) (by kernel_rfl) (by kernel_rfl)
theorem okc121 : AfOk Tryz.prog false 121 F121 := afOk_of (m := false) Tryz.func121 (by kernel_rfl) (by kernel_rfl) (by kernel_rfl)
theorem okc122 : AfOk Tryz.prog false 122 F122 := afOk_of (m := false) Tryz.func122 (by kernel_rfl) (by kernel_rfl) (by kernel_rfl)
theorem okc123 : AfOk Tryz.prog false 123 F123 := afOk_of (m := false) Tryz.func123 (by kernel_rfl) (by kernel_rfl) (by kernel_rfl)
theorem okc129 : AfOk Tryz.prog false 129 F129 := afOk_of (m := false) Tryz.func129 (by kernel_rfl) (by kernel_rfl) (by kernel_rfl)
theorem okc133 : AfOk Tryz.prog false 133 F133 := afOk_of (m := true) Tryz.func133 (by kernel_rfl) (by kernel_rfl) (by kernel_rfl)
theorem okc136 : AfOk Tryz.prog false 136 F136 := afOk_of (m := true) Tryz.func136 (by kernel_rfl) (by kernel_rfl) (by kernel_rfl)
theorem okc137 : AfOk Tryz.prog false 137 F137 := afOk_of (m := true) Tryz.func137 (by kernel_rfl) (by kernel_rfl) (by kernel_rfl)
theorem okc143 : AfOk Tryz.prog false 143 F143 := afOk_of (m := false) Tryz.func143 (by kernel_rfl) (by kernel_rfl) (by kernel_rfl)
theorem okc144 : AfOk Tryz.prog false 144 F144 := afOk_of (m := false) Tryz.func144 (by kernel_rfl) (by kernel_rfl) (by kernel_rfl)
theorem okc146 : AfOk Tryz.prog false 146 F146 := afOk_of (m := false) Tryz.func146 (by kernel_rfl) (by kernel_rfl) (by kernel_rfl)
theorem okc148 : AfOk Tryz.prog false 148 F148 := afOk_of (m := false) Tryz.func148 (by kernel_rfl) (by kernel_rfl) (by kernel_rfl)
theorem okc149 : AfOk Tryz.prog false 149 F149 := afOk_of (m := false) Tryz.func149 (by kernel_rfl) (by kernel_rfl) (by kernel_rfl)
theorem okc151 : AfOk Tryz.prog false 151 F151 := afOk_of (m := false) Tryz.func151 (by kernel_rfl) (by kernel_rfl) (by kernel_rfl)
theorem okc155 : AfOk Tryz.prog false 155 F155 := afOk_of (m := false) Tryz.func155 (by kernel_rfl) (by kernel_rfl) (by kernel_rfl)
theorem okc174 : AfOk Tryz.prog false 174 F174 := afOk_of (m := false) Tryz.func174 (by kernel_rfl) (by kernel_rfl) (by kernel_rfl)
theorem okc175 : AfOk Tryz.prog false 175 F175 := afOk_of (m := false) Tryz.func175 (by kernel_rfl) (by kernel_rfl) (by kernel_rfl)
theorem okc176 : AfOk Tryz.prog false 176 F176 := afOk_of (m := false) Tryz.func176 (by kernel_rfl) (by kernel_rfl) (by kernel_rfl)
theorem okc177 : AfOk Tryz.prog false 177 F177 := afOk_of (m := false) Tryz.func177 (by kernel_rfl) (by kernel_rfl) (by kernel_rfl)
theorem okc180 : AfOk Tryz.prog false 180 F180 := afOk_of (m := false) Tryz.func180 (by kernel_rfl) (by kernel_rfl) (by kernel_rfl)
theorem okc181 : AfOk Tryz.prog false 181 F181 := afOk_of (m := false) Tryz.func181 (by kernel_rfl) (by kernel_rfl) (by kernel_rfl)
theorem okc182 : AfOk Tryz.prog false 182 F182 := afOk_of (m := false) Tryz.func182 (by kernel_rfl) (by kernel_rfl) (by kernel_rfl)
theorem okc184 : AfOk Tryz.prog false 184 F184 := afOk_of (m := false) Tryz.func184 (by kernel_rfl) (by kernel_rfl) (by kernel_rfl)
theorem okc191 : AfOk Tryz.prog false 191 F191 := afOk_of (m := false) Tryz.func191 (by kernel_rfl) (by kernel_rfl) (by kernel_rfl)
theorem okc194 : AfOk Tryz.prog false 194 F194 := afOk_of (m := false) Tryz.func194 (by kernel_rfl) (by kernel_rfl) (by kernel_rfl)
theorem okc3 : AfOk Tryz.prog false 3 F3 := afOk_of (m := false) Tryz.func3 (by kernel_rfl) (by kernel_rfl) (by kernel_rfl)
theorem okc4 : AfOk Tryz.prog false 4 F4 := afOk_of (m := false) Tryz.func4 (by kernel_rfl) (by kernel_rfl) (by kernel_rfl)
theorem okc5 : AfOk Tryz.prog false 5 F5 := afOk_of (m := false) Tryz.func5 (by kernel_rfl) (by kernel_rfl) (by kernel_rfl)
theorem okc6 : AfOk Tryz.prog false 6 F6 := afOk_of (m := false) Tryz.func6 (by kernel_rfl) (by kernel_rfl) (by kernel_rfl)
theorem okc7 : AfOk Tryz.prog false 7 F7 := afOk_of (m := false) Tryz.func7 (by kernel_rfl) (by kernel_rfl) (by kernel_rfl)
theorem okc8 : AfOk Tryz.prog false 8 F8 := afOk_of (m := false) Tryz.func8 (by kernel_rfl) (by kernel_rfl) (by kernel_rfl)
theorem okc9 : AfOk Tryz.prog false 9 F9 := afOk_of (m := false) Tryz.func9 (by kernel_rfl) (by kernel_rfl) (by kernel_rfl)
theorem okc10 : AfOk Tryz.prog false 10 F10 := afOk_of (m := false) Tryz.func10 (by kernel_rfl) (by kernel_rfl) (by kernel_rfl)
theorem okc11 : AfOk Tryz.prog false 11 F11 := afOk_of (m := false) Tryz.func11 (by kernel_rfl) (by kernel_rfl) (by kernel_rfl)
theorem okc12 : AfOk Tryz.prog false 12 F12 := afOk_of (m := false) Tryz.func12 (by kernel_rfl) (by kernel_rfl) (by kernel_rfl)
theorem okc13 : AfOk Tryz.prog false 13 F13 := afOk_of (m := false) Tryz.func13 (by kernel_rfl) (by kernel_rfl) (by kernel_rfl)
theorem okc14 : AfOk Tryz.prog false 14 F14 := afOk_of (m := true) Tryz.func14 (by kernel_rfl) (by kernel_rfl) (by kernel_rfl)
theorem okc15 : AfOk Tryz.prog false 15 F15 := afOk_of (m := false) Tryz.func15 (by kernel_rfl) (by kernel_rfl) (by kernel_rfl)
theorem okc16 : AfOk Tryz.prog false 16 F16 := afOk_of (m := true) Tryz.func16 (by kernel_rfl) (by kernel_rfl) (by kernel_rfl)
theorem okc17 : AfOk Tryz.prog false 17 F17 := afOk_of (m := false) Tryz.func17 (by kernel_rfl) (by kernel_rfl) (by kernel_rfl)
theorem okc18 : AfOk Tryz.prog false 18 F18 := afOk_of (m := true) Tryz.func18 (by kernel_rfl) (by kernel_rfl) (by kernel_rfl)
theorem okc20 : AfOk Tryz.prog false 20 F20 := afOk_of (m := false) Tryz.func20 (by kernel_rfl) (by kernel_rfl) (by kernel_rfl)
theorem okc27 : AfOk Tryz.prog false 27 F27 := afOk_of (m := false) Tryz.func27 (by kernel_rfl) (by kernel_rfl) (by kernel_rfl)
theorem okc28 : AfOk Tryz.prog false 28 F28 := afOk_of (m := false) Tryz.func28 (by kernel_rfl) (by kernel_rfl) (by kernel_rfl)
theorem okc31 : AfOk Tryz.prog false 31 F31 := afOk_of (m := false) Tryz.func31 (by kernel_rfl) (by kernel_rfl) (by kernel_rfl)
theorem okc33 : AfOk Tryz.prog false 33 F33 := afOk_of (m := false) Tryz.func33 (by kernel_rfl) (by kernel_rfl) (by kernel_rfl)
theorem okc34 : AfOk Tryz.prog false 34 F34 := afOk_of (m := true) Tryz.func34 (by kernel_rfl) (by kernel_rfl) (by kernel_rfl)
theorem okc35 : AfOk Tryz.prog false 35 F35 := afOk_of (m := false) Tryz.func35 (by kernel_rfl) (by kernel_rfl) (by kernel_rfl)
theorem okc36 : AfOk Tryz.prog false 36 F36 := afOk_of (m := false) Tryz.func36 (by kernel_rfl) (by kernel_rfl) (by kernel_rfl)
theorem okc37 : AfOk Tryz.prog false 37 F37 := afOk_of (m := false) Tryz.func37 (by kernel_rfl) (by kernel_rfl) (by kernel_rfl)
theorem okc38 : AfOk Tryz.prog false 38 F38 := afOk_of (m := false) Tryz.func38 (by kernel_rfl) (by kernel_rfl) (by kernel_rfl)
theorem okc39 : AfOk Tryz.prog false 39 F39 := afOk_of (m := false) Tryz.func39 (by kernel_rfl) (by kernel_rfl) (by kernel_rfl)
theorem okc40 : AfOk Tryz.prog false 40 F40 := afOk_of (m := false) Tryz.func40 (by kernel_rfl) (by kernel_rfl) (by kernel_rfl)
theorem okc41 : AfOk Tryz.prog false 41 F41 := afOk_of (m := false) Tryz.func41 (by kernel_rfl) (by kernel_rfl) (by kernel_rfl)
theorem okc46 : AfOk Tryz.prog false 46 F46 := afOk_of (m := false) Tryz.func46 (by kernel_rfl) (by kernel_rfl) (by kernel_rfl)
theorem okc48 : AfOk Tryz.prog false 48 F48 := afOk_of (m := false) Tryz.func48 (by kernel_rfl) (by kernel_rfl) (by kernel_rfl)
theorem okc49 : AfOk Tryz.prog false 49 F49 := afOk_of (m := false) Tryz.func49 (by kernel_rfl) (by kernel_rfl) (by kernel_rfl)
theorem okc50 : AfOk Tryz.prog false 50 F50 := afOk_of (m := false) Tryz.func50 (by kernel_rfl) (by kernel_rfl) (by kernel_rfl)
theorem okc51 : AfOk Tryz.prog false 51 F51 := afOk_of (m := false) Tryz.func51 (by kernel_rfl) (by kernel_rfl) (by kernel_rfl)
theorem okc54 : AfOk Tryz.prog false 54 F54 := afOk_of (m := false) Tryz.func54 (by kernel_rfl) (by kernel_rfl) (by kernel_rfl)
theorem okc55 : AfOk Tryz.prog false 55 F55 := afOk_of (m := false) Tryz.func55 (by kernel_rfl) (by kernel_rfl) (by kernel_rfl)
theorem okc58 : AfOk Tryz.prog false 58 F58 := afOk_of (m := false) Tryz.func58 (by kernel_rfl) (by kernel_rfl) (by kernel_rfl)
theorem okc59 : AfOk Tryz.prog false 59 F59 := afOk_of (m := false) Tryz.func59 (by kernel_rfl) (by kernel_rfl) (by kernel_rfl)
theorem okc60 : AfOk Tryz.prog false 60 F60 := afOk_of (m := false) Tryz.func60 (by kernel_rfl) (by kernel_rfl) (by kernel_rfl)
theorem okc61 : AfOk Tryz.prog false 61 F61 := afOk_of (m := false) Tryz.func61 (by kernel_rfl) (by kernel_rfl) (by kernel_rfl)
theorem okc62 : AfOk Tryz.prog false 62 F62 := afOk_of (m := false) Tryz.func62 (by kernel_rfl) (by kernel_rfl) (by kernel_rfl)
theorem okc63 : AfOk Tryz.prog false 63 F63 := afOk_of (m := false) Tryz.func63 (by kernel_rfl) (by kernel_rfl) (by kernel_rfl)
theorem okc64 : AfOk Tryz.prog false 64 F64 := afOk_of (m := false) Tryz.func64 (by kernel_rfl) (by kernel_rfl) (by kernel_rfl)
theorem okc65 : AfOk Tryz.prog false 65 F65 := afOk_of (m := false) Tryz.func65 (by kernel_rfl) (by kernel_rfl) (by kernel_rfl)
theorem okc68 : AfOk Tryz.prog false 68 F68 := afOk_of (m := false) Tryz.func68 (by kernel_rfl) (by kernel_rfl) (by kernel_rfl)
theorem okc69 : AfOk Tryz.prog false 69 F69 := afOk_of (m := false) Tryz.func69 (by kernel_rfl) (by kernel_rfl) (by kernel_rfl)
theorem okc70 : AfOk Tryz.prog false 70 F70 := afOk_of (m := false) Tryz.func70 (by kernel_rfl) (by kernel_rfl) (by kernel_rfl)
theorem okc75 : AfOk Tryz.prog false 75 F75 := afOk_of (m := false) Tryz.func75 (by kernel_rfl) (by kernel_rfl) (by kernel_rfl)
theorem okc79 : AfOk Tryz.prog false 79 F79 := afOk_of (m := false) Tryz.func79 (by kernel_rfl) (by kernel_rfl) (by kernel_rfl)
theorem okc80 : AfOk Tryz.prog false 80 F80 := afOk_of (m := false) Tryz.func80 (by kernel_rfl) (by kernel_rfl) (by kernel_rfl)
theorem fc_2Ok {f : FuncId} {af : AF} (h : fc_2 f = some af) : AfOk Tryz.prog false f af := by
  unfold fc_2 at h
  split at h
  · cases h; exact okc196
  · cases h; exact okc198
  · cases h; exact okc205
  · cases h; exact okc206
  · cases h; exact okc214
  · cases h; exact okc221
  · cases h; exact okc230
  · cases h; exact okc231
  · cases h; exact okc240
  · cases h; exact okc246
  · cases h; exact okc256
  · cases h; exact okc273
  · cases h; exact okc286
  · cases h; exact okc336
  · cases h; exact okc358
  · cases h
theorem fc_1Ok {f : FuncId} {af : AF} (h : fc_1 f = some af) : AfOk Tryz.prog false f af := by
  unfold fc_1 at h
  split at h
  · cases h; exact okc83
  · cases h; exact okc85
  · cases h; exact okc86
  · cases h; exact okc87
  · cases h; exact okc88
  · cases h; exact okc90
  · cases h; exact okc91
  · cases h; exact okc92
  · cases h; exact okc93
  · cases h; exact okc94
  · cases h; exact okc95
  · cases h; exact okc96
  · cases h; exact okc102
  · cases h; exact okc103
  · cases h; exact okc104
  · cases h; exact okc105
  · cases h; exact okc109
  · cases h; exact okc110
  · cases h; exact okc112
  · cases h; exact okc113
  · cases h; exact okc115
  · cases h; exact okc116
  · cases h; exact okc117
  · cases h; exact okc118
  · cases h; exact okc119
  · cases h; exact okc120
  · cases h; exact okc121
  · cases h; exact okc122
  · cases h; exact okc123
  · cases h; exact okc129
  · cases h; exact okc133
  · cases h; exact okc136
  · cases h; exact okc137
  · cases h; exact okc143
  · cases h; exact okc144
  · cases h; exact okc146
  · cases h; exact okc148
  · cases h; exact okc149
  · cases h; exact okc151
  · cases h; exact okc155
  · cases h; exact okc174
  · cases h; exact okc175
  · cases h; exact okc176
  · cases h; exact okc177
  · cases h; exact okc180
  · cases h; exact okc181
  · cases h; exact okc182
  · cases h; exact okc184
  · cases h; exact okc191
  · cases h; exact okc194
  · exact fc_2Ok h
theorem fcOk {f : FuncId} {af : AF} (h : fc f = some af) : AfOk Tryz.prog false f af := by
  unfold fc at h
  split at h
  · cases h; exact okc3
  · cases h; exact okc4
  · cases h; exact okc5
  · cases h; exact okc6
  · cases h; exact okc7
  · cases h; exact okc8
  · cases h; exact okc9
  · cases h; exact okc10
  · cases h; exact okc11
  · cases h; exact okc12
  · cases h; exact okc13
  · cases h; exact okc14
  · cases h; exact okc15
  · cases h; exact okc16
  · cases h; exact okc17
  · cases h; exact okc18
  · cases h; exact okc20
  · cases h; exact okc27
  · cases h; exact okc28
  · cases h; exact okc31
  · cases h; exact okc33
  · cases h; exact okc34
  · cases h; exact okc35
  · cases h; exact okc36
  · cases h; exact okc37
  · cases h; exact okc38
  · cases h; exact okc39
  · cases h; exact okc40
  · cases h; exact okc41
  · cases h; exact okc46
  · cases h; exact okc48
  · cases h; exact okc49
  · cases h; exact okc50
  · cases h; exact okc51
  · cases h; exact okc54
  · cases h; exact okc55
  · cases h; exact okc58
  · cases h; exact okc59
  · cases h; exact okc60
  · cases h; exact okc61
  · cases h; exact okc62
  · cases h; exact okc63
  · cases h; exact okc64
  · cases h; exact okc65
  · cases h; exact okc68
  · cases h; exact okc69
  · cases h; exact okc70
  · cases h; exact okc75
  · cases h; exact okc79
  · cases h; exact okc80
  · exact fc_1Ok h
theorem oks249 : AfOk Tryz.prog true 249 S249 := afOk_of (m := true) Tryz.func249 (by kernel_rfl) (by kernel_rfl) (by kernel_rfl)
theorem oks253 : AfOk Tryz.prog true 253 S253 := afOk_of (m := true) Tryz.func253 (by kernel_rfl) (by kernel_rfl) (by kernel_rfl)
theorem oks274 : AfOk Tryz.prog true 274 S274 := afOk_of (m := true) Tryz.func274 (by kernel_rfl) (by kernel_rfl) (by kernel_rfl)
theorem oks278 : AfOk Tryz.prog true 278 S278 := afOk_of (m := true) Tryz.func278 (by kernel_rfl) (by kernel_rfl) (by kernel_rfl)
theorem oks279 : AfOk Tryz.prog true 279 S279 := afOk_of (m := true) Tryz.func279 (by kernel_rfl) (by kernel_rfl) (by kernel_rfl)
theorem oks291 : AfOk Tryz.prog true 291 S291 := afOk_of (m := true) Tryz.func291 (by kernel_rfl) (by kernel_rfl) (by kernel_rfl)
theorem oks311 : AfOk Tryz.prog true 311 S311 := afOk_of (m := true) Tryz.func311 (by kernel_rfl) (by kernel_rfl) (by kernel_rfl)
theorem oks312 : AfOk Tryz.prog true 312 S312 := afOk_of (m := true) Tryz.func312 (by kernel_rfl) (by kernel_rfl) (by kernel_rfl)
theorem oks334 : AfOk Tryz.prog true 334 S334 := afOk_of (m := true) Tryz.func334 (by kernel_rfl) (by kernel_rfl) (by kernel_rfl)
theorem oks335 : AfOk Tryz.prog true 335 S335 := afOk_of (m := true) Tryz.func335 (by kernel_rfl) (by kernel_rfl) (by kernel_rfl)
theorem oks348 : AfOk Tryz.prog true 348 S348 := afOk_of (m := true) Tryz.func348 (by kernel_rfl) (by kernel_rfl) (by kernel_rfl)
theorem oks349 : AfOk Tryz.prog true 349 S349 := afOk_of (m := true) Tryz.func349 (by kernel_rfl) (by kernel_rfl) (by kernel_rfl)
theorem oks365 : AfOk Tryz.prog true 365 S365 := afOk_of (m := true) Tryz.func365 (by kernel_rfl) (by kernel_rfl) (by kernel_rfl)
theorem oks371 : AfOk Tryz.prog true 371 S371 := afOk_of (m := true) Tryz.func371 (by kernel_rfl) (by kernel_rfl) (by kernel_rfl)
theorem oks21 : AfOk Tryz.prog true 21 S21 := afOk_of (m := true) Tryz.func21 (by kernel_rfl) (by kernel_rfl) (by kernel_rfl)
theorem oks22 : AfOk Tryz.prog true 22 S22 := afOk_of (m := true) Tryz.func22 (by kernel_rfl) (by kernel_rfl) (by kernel_rfl)
theorem oks23 : AfOk Tryz.prog true 23 S23 := afOk_of (m := true) Tryz.func23 (by kernel_rfl) (by kernel_rfl) (by kernel_rfl)
theorem oks25 : AfOk Tryz.prog true 25 S25 := afOk_of (m := true) Tryz.func25 (by kernel_rfl) (by kernel_rfl) (by kernel_rfl)
theorem oks26 : AfOk Tryz.prog true 26 S26 := afOk_of (m := true) Tryz.func26 (by kernel_rfl) (by kernel_rfl) (by kernel_rfl)
theorem oks29 : AfOk Tryz.prog true 29 S29 := afOk_of (m := true) Tryz.func29 (by kernel_rfl) (by kernel_rfl) (by kernel_rfl)
theorem oks30 : AfOk Tryz.prog true 30 S30 := afOk_of (m := true) Tryz.func30 (by kernel_rfl) (by kernel_rfl) (by kernel_rfl)
theorem oks32 : AfOk Tryz.prog true 32 S32 := afOk_of (m := true) Tryz.func32 (by kernel_rfl) (by kernel_rfl) (by kernel_rfl)
theorem oks52 : AfOk Tryz.prog true 52 S52 := afOk_of (m := true) Tryz.func52 (by kernel_rfl) (by kernel_rfl) (by kernel_rfl)
theorem oks66 : AfOk Tryz.prog true 66 S66 := afOk_of (m := true) Tryz.func66 (by kernel_rfl) (by kernel_rfl) (by kernel_rfl)
theorem oks67 : AfOk Tryz.prog true 67 S67 := afOk_of (m := true) Tryz.func67 (by kernel_rfl) (by kernel_rfl) (by kernel_rfl)
theorem oks71 : AfOk Tryz.prog true 71 S71 := afOk_of (m := true) Tryz.func71 (by kernel_rfl) (by kernel_rfl) (by kernel_rfl)
theorem oks72 : AfOk Tryz.prog true 72 S72 := afOk_of (m := true) Tryz.func72 (by kernel_rfl) (by kernel_rfl) (by kernel_rfl)
theorem oks73 : AfOk Tryz.prog true 73 S73 := afOk_of (m := true) Tryz.func73 (by kernel_rfl) (by kernel_rfl) (by kernel_rfl)
theorem oks74 : AfOk Tryz.prog true 74 S74 := afOk_of (m := true) Tryz.func74 (by kernel_rfl) (by kernel_rfl) (by kernel_rfl)
theorem oks76 : AfOk Tryz.prog true 76 S76 := afOk_of (m := true) Tryz.func76 (by kernel_rfl) (by kernel_rfl) (by kernel_rfl)
theorem oks81 : AfOk Tryz.prog true 81 S81 := afOk_of (m := true) Tryz.func81 (by kernel_rfl) (by kernel_rfl) (by kernel_rfl)
theorem oks82 : AfOk Tryz.prog true 82 S82 := afOk_of (m := true) Tryz.func82 (by kernel_rfl) (by kernel_rfl) (by kernel_rfl)
theorem oks84 : AfOk Tryz.prog true 84 S84 := afOk_of (m := true) Tryz.func84 (by kernel_rfl) (by kernel_rfl) (by kernel_rfl)
theorem oks90 : AfOk Tryz.prog true 90 S90 := afOk_of (m := true) Tryz.func90 (by kernel_rfl) (by kernel_rfl) (by kernel_rfl)
theorem oks99 : AfOk Tryz.prog true 99 S99 := afOk_of (m := true) Tryz.func99 (by kernel_rfl) (by kernel_rfl) (by kernel_rfl)
theorem oks107 : AfOk Tryz.prog true 107 S107 := afOk_of (m := true) Tryz.func107 (by kernel_rfl) (by kernel_rfl) (by kernel_rfl)
theorem oks124 : AfOk Tryz.prog true 124 S124 := afOk_of (m := true) Tryz.func124 (by kernel_rfl) (by kernel_rfl) (by kernel_rfl)
theorem oks125 : AfOk Tryz.prog true 125 S125 := afOk_of (m := true) Tryz.func125 (by kernel_rfl) (by kernel_rfl) (by kernel_rfl)
theorem oks126 : AfOk Tryz.prog true 126 S126 := afOk_of (m := true) Tryz.func126 (by kernel_rfl) (by kernel_rfl) (by kernel_rfl)
theorem oks128 : AfOk Tryz.prog true 128 S128 := afOk_of (m := true) Tryz.func128 (by kernel_rfl) (by kernel_rfl) (by kernel_rfl)
theorem oks130 : AfOk Tryz.prog true 130 S130 := afOk_of (m := true) Tryz.func130 (by kernel_rfl) (by kernel_rfl) (by kernel_rfl)
theorem oks131 : AfOk Tryz.prog true 131 S131 := afOk_of (m := true) Tryz.func131 (by kernel_rfl) (by kernel_rfl) (by kernel_rfl)
theorem oks132 : AfOk Tryz.prog true 132 S132 := afOk_of (m := true) Tryz.func132 (by kernel_rfl) (by kernel_rfl) (by kernel_rfl)
theorem oks134 : AfOk Tryz.prog true 134 S134 := afOk_of (m := true) Tryz.func134 (by kernel_rfl) (by kernel_rfl) (by kernel_rfl)
theorem oks138 : AfOk Tryz.prog true 138 S138 := afOk_of (m := true) Tryz.func138 (by kernel_rfl) (by kernel_rfl) (by kernel_rfl)
theorem oks140 : AfOk Tryz.prog true 140 S140 := afOk_of (m := true) Tryz.func140 (by kernel_rfl) (by kernel_rfl) (by kernel_rfl)
theorem oks141 : AfOk Tryz.prog true 141 S141 := afOk_of (m := true) Tryz.func141 (by kernel_rfl) (by kernel_rfl) (by kernel_rfl)
theorem oks145 : AfOk Tryz.prog true 145 S145 := afOk_of (m := true) Tryz.func145 (by kernel_rfl) (by kernel_rfl) (by kernel_rfl)
theorem oks147 : AfOk Tryz.prog true 147 S147 := afOk_of (m := true) Tryz.func147 (by kernel_rfl) (by kernel_rfl) (by kernel_rfl)
theorem oks150 : AfOk Tryz.prog true 150 S150 := afOk_of (m := true) Tryz.func150 (by kernel_rfl) (by kernel_rfl) (by kernel_rfl)
theorem oks166 : AfOk Tryz.prog true 166 S166 := afOk_of (m := true) Tryz.func166 (by kernel_rfl) (by kernel_rfl) (by kernel_rfl)
theorem oks169 : AfOk Tryz.prog true 169 S169 := afOk_of (m := true) Tryz.func169 (by kernel_rfl) (by kernel_rfl) (by kernel_rfl)
theorem oks172 : AfOk Tryz.prog true 172 S172 := afOk_of (m := true) Tryz.func172 (by kernel_rfl) (by kernel_rfl) (by kernel_rfl)
theorem oks187 : AfOk Tryz.prog true 187 S187 := afOk_of (m := true) Tryz.func187 (by kernel_rfl) (by kernel_rfl) (by kernel_rfl)
theorem oks189 : AfOk Tryz.prog true 189 S189 := afOk_of (m := true) Tryz.func189 (by kernel_rfl) (by kernel_rfl) (by kernel_rfl)
theorem oks190 : AfOk Tryz.prog true 190 S190 := afOk_of (m := true) Tryz.func190 (by kernel_rfl) (by kernel_rfl) (by kernel_rfl)
theorem oks192 : AfOk Tryz.prog true 192 S192 := afOk_of (m := true) Tryz.func192 (by kernel_rfl) (by kernel_rfl) (by kernel_rfl)
theorem oks196 : AfOk Tryz.prog true 196 S196 := afOk_of (m := true) Tryz.func196 (by kernel_rfl) (by kernel_rfl) (by kernel_rfl)
theorem oks200 : AfOk Tryz.prog true 200 S200 := afOk_of (m := true) Tryz.func200 (by kernel_rfl) (by kernel_rfl) (by kernel_rfl)
theorem oks202 : AfOk Tryz.prog true 202 S202 := afOk_of (m := true) Tryz.func202 (by kernel_rfl) (by kernel_rfl) (by kernel_rfl)
theorem oks203 : AfOk Tryz.prog true 203 S203 := afOk_of (m := true) Tryz.func203 (by kernel_rfl) (by kernel_rfl) (by kernel_rfl)
theorem oks207 : AfOk Tryz.prog true 207 S207 := afOk_of (m := true) Tryz.func207 (by kernel_rfl) (by kernel_rfl) (by kernel_rfl)
theorem oks209 : AfOk Tryz.prog true 209 S209 := afOk_of (m := true) Tryz.func209 (by kernel_rfl) (by kernel_rfl) (by kernel_rfl)
theorem oks243 : AfOk Tryz.prog true 243 S243 := afOk_of (m := true) Tryz.func243 (by kernel_rfl) (by kernel_rfl) (by kernel_rfl)
theorem fs_1Ok {f : FuncId} {af : AF} (h : fs_1 f = some af) : AfOk Tryz.prog true f af := by
  unfold fs_1 at h
  split at h
  · cases h; exact oks249
  · cases h; exact oks253
  · cases h; exact oks274
  · cases h; exact oks278
  · cases h; exact oks279
  · cases h; exact oks291
  · cases h; exact oks311
  · cases h; exact oks312
  · cases h; exact oks334
  · cases h; exact oks335
  · cases h; exact oks348
  · cases h; exact oks349
  · cases h; exact oks365
  · cases h; exact oks371
  · cases h
theorem fsOk {f : FuncId} {af : AF} (h : fs f = some af) : AfOk Tryz.prog true f af := by
  unfold fs at h
  split at h
  · cases h; exact oks21
  · cases h; exact oks22
  · cases h; exact oks23
  · cases h; exact oks25
  · cases h; exact oks26
  · cases h; exact oks29
  · cases h; exact oks30
  · cases h; exact oks32
  · cases h; exact oks52
  · cases h; exact oks66
  · cases h; exact oks67
  · cases h; exact oks71
  · cases h; exact oks72
  · cases h; exact oks73
  · cases h; exact oks74
  · cases h; exact oks76
  · cases h; exact oks81
  · cases h; exact oks82
  · cases h; exact oks84
  · cases h; exact oks90
  · cases h; exact oks99
  · cases h; exact oks107
  · cases h; exact oks124
  · cases h; exact oks125
  · cases h; exact oks126
  · cases h; exact oks128
  · cases h; exact oks130
  · cases h; exact oks131
  · cases h; exact oks132
  · cases h; exact oks134
  · cases h; exact oks138
  · cases h; exact oks140
  · cases h; exact oks141
  · cases h; exact oks145
  · cases h; exact oks147
  · cases h; exact oks150
  · cases h; exact oks166
  · cases h; exact oks169
  · cases h; exact oks172
  · cases h; exact oks187
  · cases h; exact oks189
  · cases h; exact oks190
  · cases h; exact oks192
  · cases h; exact oks196
  · cases h; exact oks200
  · cases h; exact oks202
  · cases h; exact oks203
  · cases h; exact oks207
  · cases h; exact oks209
  · cases h; exact oks243
  · exact fs_1Ok h
theorem envOk : EnvOk Tryz.prog E := ⟨fun _ _ h => fcOk h, fun _ _ h => fsOk h, (fun f m h => by
  simp only [E] at h
  cases h), (fun f cs h => by
  simp only [E] at h
  split at h
  · cases h; exact mkLaw
  · cases h), (fun f args r h => by
  simp only [E] at h
  split at h
  · exact joinLaw args r h
  · cases h)⟩
end Go.Pv.T
