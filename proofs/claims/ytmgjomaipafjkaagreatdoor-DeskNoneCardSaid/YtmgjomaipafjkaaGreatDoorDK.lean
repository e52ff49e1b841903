/- Part of the proof. -/
import Derived.Test.YtmgjomaipafjkaaGreatDoorDJ
import Derived.Test.YtmgjomaipafjkaaGreatDoorRows
set_option maxRecDepth 100000
set_option maxHeartbeats 8000000
set_option linter.all false
namespace Go.Pv.T
open Go Go.Pv Go.Proofs
theorem afOk_of {P : Program} {m r : Bool} {f : FuncId} {fn : Func} {af : AF} (h1 : P.funcs[f]? = some fn) (h2 : compF P m r fn = some af) (h3 : (fn.name == "runtime.NumGoroutine") = false) (h4 : af.body.dstOk fn.ntmps = true) : AfOk P r f af := by
  unfold compF at h2
  cases hb : fn.body with
  | none => rw [hb] at h2; cases h2
  | some c =>
    rw [hb, Option.bind_some] at h2
    cases hc : comp P m r c with
    | none => rw [hc] at h2; cases h2
    | some b =>
      rw [hc, Option.bind_some] at h2
      cases hr : fn.results.toList.mapM (compRes P) with
      | none => rw [hr] at h2; cases h2
      | some res =>
        rw [hr] at h2
        cases h2
        exact ⟨m, fn, c, h1, hb, hc, hr, h3, h4⟩
theorem okc284 : AfOk Tryz.prog false 284 F284 := afOk_of (m := false) Tryz.func284 (by kernel_rfl) (by kernel_rfl) (by kernel_rfl)
theorem okc285 : AfOk Tryz.prog false 285 F285 := afOk_of (m := false) Tryz.func285 (by kernel_rfl) (by kernel_rfl) (by kernel_rfl)
theorem okc286 : AfOk Tryz.prog false 286 F286 := afOk_of (m := false) Tryz.func286 (by kernel_rfl) (by kernel_rfl) (by kernel_rfl)
theorem okc291 : AfOk Tryz.prog false 291 F291 := afOk_of (m := false) Tryz.func291 (by kernel_rfl) (by kernel_rfl) (by kernel_rfl)
theorem okc305 : AfOk Tryz.prog false 305 F305 := afOk_of (m := false) Tryz.func305 (by kernel_rfl) (by kernel_rfl) (by kernel_rfl)
theorem okc309 : AfOk Tryz.prog false 309 F309 := afOk_of (m := false) Tryz.func309 (by kernel_rfl) (by kernel_rfl) (by kernel_rfl)
theorem okc311 : AfOk Tryz.prog false 311 F311 := afOk_of (m := false) Tryz.func311 (by kernel_rfl) (by kernel_rfl) (by kernel_rfl)
theorem okc317 : AfOk Tryz.prog false 317 F317 := afOk_of (m := false) Tryz.func317 (by kernel_rfl) (by kernel_rfl) (by kernel_rfl)
theorem okc318 : AfOk Tryz.prog false 318 F318 := afOk_of (m := false) Tryz.func318 (by kernel_rfl) (by kernel_rfl) (by kernel_rfl)
theorem okc326 : AfOk Tryz.prog false 326 F326 := afOk_of (m := false) Tryz.func326 (by kernel_rfl) (by kernel_rfl) (by kernel_rfl)
theorem okc327 : AfOk Tryz.prog false 327 F327 := afOk_of (m := false) Tryz.func327 (by kernel_rfl) (by kernel_rfl) (by kernel_rfl)
theorem okc328 : AfOk Tryz.prog false 328 F328 := afOk_of (m := false) Tryz.func328 (by kernel_rfl) (by kernel_rfl) (by kernel_rfl)
theorem okc329 : AfOk Tryz.prog false 329 F329 := afOk_of (m := false) Tryz.func329 (by kernel_rfl) (by kernel_rfl) (by kernel_rfl)
theorem okc330 : AfOk Tryz.prog false 330 F330 := afOk_of (m := false) Tryz.func330 (by kernel_rfl) (by kernel_rfl) (by kernel_rfl)
theorem okc333 : AfOk Tryz.prog false 333 F333 := afOk_of (m := true) Tryz.func333 (by kernel_rfl) (by kernel_rfl) (by kernel_rfl)
theorem okc334 : AfOk Tryz.prog false 334 F334 := afOk_of (m := false) Tryz.func334 (by kernel_rfl) (by kernel_rfl) (by kernel_rfl)
theorem okc336 : AfOk Tryz.prog false 336 F336 := afOk_of (m := false) Tryz.func336 (by kernel_rfl) (by kernel_rfl) (by kernel_rfl)
theorem okc345 : AfOk Tryz.prog false 345 F345 := afOk_of (m := false) Tryz.func345 (by kernel_rfl) (by kernel_rfl) (by kernel_rfl)
theorem okc352 : AfOk Tryz.prog false 352 F352 := afOk_of (m := false) Tryz.func352 (by kernel_rfl) (by kernel_rfl) (by kernel_rfl)
theorem okc359 : AfOk Tryz.prog false 359 F359 := afOk_of (m := false) Tryz.func359 (by kernel_rfl) (by kernel_rfl) (by kernel_rfl)
theorem okc360 : AfOk Tryz.prog false 360 F360 := afOk_of (m := false) Tryz.func360 (by kernel_rfl) (by kernel_rfl) (by kernel_rfl)
theorem okc361 : AfOk Tryz.prog false 361 F361 := afOk_of (m := false) Tryz.func361 (by kernel_rfl) (by kernel_rfl) (by kernel_rfl)
theorem okc362 : AfOk Tryz.prog false 362 F362 := afOk_of (m := false) Tryz.func362 (by kernel_rfl) (by kernel_rfl) (by kernel_rfl)
theorem okc363 : AfOk Tryz.prog false 363 F363 := afOk_of (m := false) Tryz.func363 (by kernel_rfl) (by kernel_rfl) (by kernel_rfl)
theorem okc373 : AfOk Tryz.prog false 373 F373 := afOk_of (m := false) Tryz.func373 (by kernel_rfl) (by kernel_rfl) (by kernel_rfl)
theorem okc383 : AfOk Tryz.prog false 383 F383 := afOk_of (m := false) Tryz.func383 (by kernel_rfl) (by kernel_rfl) (by kernel_rfl)
theorem okc387 : AfOk Tryz.prog false 387 F387 := afOk_of (m := false) Tryz.func387 (by kernel_rfl) (by kernel_rfl) (by kernel_rfl)
theorem okc388 : AfOk Tryz.prog false 388 F388 := afOk_of (m := false) Tryz.func388 (by kernel_rfl) (by kernel_rfl) (by kernel_rfl)
theorem okc389 : AfOk Tryz.prog false 389 F389 := afOk_of (m := false) Tryz.func389 (by kernel_rfl) (by kernel_rfl) (by kernel_rfl)
theorem okc395 : AfOk Tryz.prog false 395 F395 := afOk_of (m := false) Tryz.func395 (by kernel_rfl) (by kernel_rfl) (by kernel_rfl)
theorem okc397 : AfOk Tryz.prog false 397 F397 := afOk_of (m := false) Tryz.func397 (by kernel_rfl) (by kernel_rfl) (by kernel_rfl)
theorem okc399 : AfOk Tryz.prog false 399 F399 := afOk_of (m := false) Tryz.func399 (by kernel_rfl) (by kernel_rfl) (by kernel_rfl)
theorem okc400 : AfOk Tryz.prog false 400 F400 := afOk_of (m := false) Tryz.func400 (by kernel_rfl) (by kernel_rfl) (by kernel_rfl)
theorem okc401 : AfOk Tryz.prog false 401 F401 := afOk_of (m := false) Tryz.func401 (by kernel_rfl) (by kernel_rfl) (by kernel_rfl)
theorem okc402 : AfOk Tryz.prog false 402 F402 := afOk_of (m := false) Tryz.func402 (by kernel_rfl) (by kernel_rfl) (by kernel_rfl)
theorem okc406 : AfOk Tryz.prog false 406 F406 := afOk_of (m := true) Tryz.func406 (by kernel_rfl) (by kernel_rfl) (by kernel_rfl)
theorem okc408 : AfOk Tryz.prog false 408 F408 := afOk_of (m := false) Tryz.func408 (by kernel_rfl) (by kernel_rfl) (by kernel_rfl)
theorem okc418 : AfOk Tryz.prog false 418 F418 := afOk_of (m := false) Tryz.func418 (by kernel_rfl) (by kernel_rfl) (by kernel_rfl)
theorem okc422 : AfOk Tryz.prog false 422 F422 := afOk_of (m := true) Tryz.func422 (by kernel_rfl) (by kernel_rfl) (by kernel_rfl)
theorem okc460 : AfOk Tryz.prog false 460 F460 := afOk_of (m := false) Tryz.func460 (by kernel_rfl) (by kernel_rfl) (by kernel_rfl)
theorem okc471 : AfOk Tryz.prog false 471 F471 := afOk_of (m := true) Tryz.func471 (by kernel_rfl) (by kernel_rfl) (by kernel_rfl)
theorem okc481 : AfOk Tryz.prog false 481 F481 := afOk_of (m := false) Tryz.func481 (by kernel_rfl) (by kernel_rfl) (by kernel_rfl)
theorem okc500 : AfOk Tryz.prog false 500 F500 := afOk_of (m := false) Tryz.func500 (by kernel_rfl) (by kernel_rfl) (by kernel_rfl)
theorem okc554 : AfOk Tryz.prog false 554 F554 := afOk_of (m := false) Tryz.func554 (by kernel_rfl) (by kernel_rfl) (by kernel_rfl)
theorem okc606 : AfOk Tryz.prog false 606 F606 := afOk_of (m := false) Tryz.func606 (by kernel_rfl) (by kernel_rfl) (by kernel_rfl)
theorem okc14 : AfOk Tryz.prog false 14 F14 := afOk_of (m := false) Tryz.func14 (by kernel_rfl) (by kernel_rfl) (by kernel_rfl)
theorem okc22 : AfOk Tryz.prog false 22 F22 := afOk_of (m := false) Tryz.func22 (by kernel_rfl) (by kernel_rfl) (by kernel_rfl)
theorem okc27 : AfOk Tryz.prog false 27 F27 := afOk_of (m := false) Tryz.func27 (by kernel_rfl) (by kernel_rfl) (by kernel_rfl)
theorem okc49 : AfOk Tryz.prog false 49 F49 := afOk_of (m := false) Tryz.func49 (by kernel_rfl) (by kernel_rfl) (by kernel_rfl)
theorem okc59 : AfOk Tryz.prog false 59 F59 := afOk_of (m := false) Tryz.func59 (by kernel_rfl) (by kernel_rfl) (by kernel_rfl)
theorem okc63 : AfOk Tryz.prog false 63 F63 := afOk_of (m := false) Tryz.func63 (by kernel_rfl) (by kernel_rfl) (by kernel_rfl)
theorem okc64 : AfOk Tryz.prog false 64 F64 := afOk_of (m := false) Tryz.func64 (by kernel_rfl) (by kernel_rfl) (by kernel_rfl)
theorem okc66 : AfOk Tryz.prog false 66 F66 := afOk_of (m := true) Tryz.func66 (by kernel_rfl) (by kernel_rfl) (by kernel_rfl)
theorem okc70 : AfOk Tryz.prog false 70 F70 := afOk_of (m := false) Tryz.func70 (by kernel_rfl) (by kernel_rfl) (by kernel_rfl)
theorem okc71 : AfOk Tryz.prog false 71 F71 := afOk_of (m := true) Tryz.func71 (by kernel_rfl) (by kernel_rfl) (by kernel_rfl)
theorem okc72 : AfOk Tryz.prog false 72 F72 := afOk_of (m := false) Tryz.func72 (by kernel_rfl) (by kernel_rfl) (by kernel_rfl)
theorem okc73 : AfOk Tryz.prog false 73 F73 := afOk_of (m := false) Tryz.func73 (by kernel_rfl) (by kernel_rfl) (by kernel_rfl)
theorem okc78 : AfOk Tryz.prog false 78 F78 := afOk_of (m := false) Tryz.func78 (by kernel_rfl) (by kernel_rfl) (by kernel_rfl)
theorem okc82 : AfOk Tryz.prog false 82 F82 := afOk_of (m := false) Tryz.func82 (by kernel_rfl) (by kernel_rfl) (by kernel_rfl)
theorem okc85 : AfOk Tryz.prog false 85 F85 := afOk_of (m := false) Tryz.func85 (by kernel_rfl) (by kernel_rfl) (by kernel_rfl)
theorem okc94 : AfOk Tryz.prog false 94 F94 := afOk_of (m := false) Tryz.func94 (by kernel_rfl) (by kernel_rfl) (by kernel_rfl)
theorem okc121 : AfOk Tryz.prog false 121 F121 := afOk_of (m := false) Tryz.func121 (by kernel_rfl) (by kernel_rfl) (by kernel_rfl)
theorem okc132 : AfOk Tryz.prog false 132 F132 := afOk_of (m := false) Tryz.func132 (by kernel_rfl) (by kernel_rfl) (by kernel_rfl)
theorem okc135 : AfOk Tryz.prog false 135 F135 := afOk_of (m := true) Tryz.func135 (by kernel_rfl) (by kernel_rfl) (by kernel_rfl)
theorem okc138 : AfOk Tryz.prog false 138 F138 := afOk_of (m := false) Tryz.func138 (by kernel_rfl) (by kernel_rfl) (by kernel_rfl)
theorem okc139 : AfOk Tryz.prog false 139 F139 := afOk_of (m := false) Tryz.func139 (by kernel_rfl) (by kernel_rfl) (by kernel_rfl)
theorem okc141 : AfOk Tryz.prog false 141 F141 := afOk_of (m := false) Tryz.func141 (by kernel_rfl) (by kernel_rfl) (by kernel_rfl)
theorem okc143 : AfOk Tryz.prog false 143 F143 := afOk_of (m := false) Tryz.func143 (by kernel_rfl) (by kernel_rfl) (by kernel_rfl)
theorem okc155 : AfOk Tryz.prog false 155 F155 := afOk_of (m := false) Tryz.func155 (by kernel_rfl) (by kernel_rfl) (by kernel_rfl)
theorem okc156 : AfOk Tryz.prog false 156 F156 := afOk_of (m := true) Tryz.func156 (by kernel_rfl) (by kernel_rfl) (by kernel_rfl)
theorem okc161 : AfOk Tryz.prog false 161 F161 := afOk_of (m := false) Tryz.func161 (by kernel_rfl) (by kernel_rfl) (by kernel_rfl)
theorem okc162 : AfOk Tryz.prog false 162 F162 := afOk_of (m := false) Tryz.func162 (by kernel_rfl) (by kernel_rfl) (by kernel_rfl)
theorem okc163 : AfOk Tryz.prog false 163 F163 := afOk_of (m := false) Tryz.func163 (by kernel_rfl) (by kernel_rfl) (by kernel_rfl)
theorem okc166 : AfOk Tryz.prog false 166 F166 := afOk_of (m := false) Tryz.func166 (by kernel_rfl) (by kernel_rfl) (by kernel_rfl)
theorem okc169 : AfOk Tryz.prog false 169 F169 := afOk_of (m := false) Tryz.func169 (by kernel_rfl) (by kernel_rfl) (by kernel_rfl)
theorem okc177 : AfOk Tryz.prog false 177 F177 := afOk_of (m := false) Tryz.func177 (by kernel_rfl) (by kernel_rfl) (by kernel_rfl)
theorem okc189 : AfOk Tryz.prog false 189 F189 := afOk_of (m := false) Tryz.func189 (by kernel_rfl) (by kernel_rfl) (by kernel_rfl)
theorem okc190 : AfOk Tryz.prog false 190 F190 := afOk_of (m := true) Tryz.func190 (by kernel_rfl) (by kernel_rfl) (by kernel_rfl)
theorem okc195 : AfOk Tryz.prog false 195 F195 := afOk_of (m := false) Tryz.func195 (by kernel_rfl) (by kernel_rfl) (by kernel_rfl)
theorem okc204 : AfOk Tryz.prog false 204 F204 := afOk_of (m := false) Tryz.func204 (by kernel_rfl) (by kernel_rfl) (by kernel_rfl)
theorem okc211 : AfOk Tryz.prog false 211 F211 := afOk_of (m := false) Tryz.func211 (by kernel_rfl) (by kernel_rfl) (by kernel_rfl)
theorem okc228 : AfOk Tryz.prog false 228 F228 := afOk_of (m := false) Tryz.func228 (by kernel_rfl) (by kernel_rfl) (by kernel_rfl)
theorem okc233 : AfOk Tryz.prog false 233 F233 := afOk_of (m := false) Tryz.func233 (by kernel_rfl) (by kernel_rfl) (by kernel_rfl)
theorem okc234 : AfOk Tryz.prog false 234 F234 := afOk_of (m := false) Tryz.func234 (by kernel_rfl) (by kernel_rfl) (by kernel_rfl)
theorem okc241 : AfOk Tryz.prog false 241 F241 := afOk_of (m := false) Tryz.func241 (by kernel_rfl) (by kernel_rfl) (by kernel_rfl)
theorem okc242 : AfOk Tryz.prog false 242 F242 := afOk_of (m := false) Tryz.func242 (by kernel_rfl) (by kernel_rfl) (by kernel_rfl)
theorem okc245 : AfOk Tryz.prog false 245 F245 := afOk_of (m := false) Tryz.func245 (by kernel_rfl) (by kernel_rfl) (by kernel_rfl)
theorem okc246 : AfOk Tryz.prog false 246 F246 := afOk_of (m := false) Tryz.func246 (by kernel_rfl) (by kernel_rfl) (by kernel_rfl)
theorem okc250 : AfOk Tryz.prog false 250 F250 := afOk_of (m := true) Tryz.func250 (by kernel_rfl) (by kernel_rfl) (by kernel_rfl)
theorem okc252 : AfOk Tryz.prog false 252 F252 := afOk_of (m := true) Tryz.func252 (by kernel_rfl) (by kernel_rfl) (by kernel_rfl)
theorem okc255 : AfOk Tryz.prog false 255 F255 := afOk_of (m := true) Tryz.func255 (by kernel_rfl) (by kernel_rfl) (by kernel_rfl)
theorem okc259 : AfOk Tryz.prog false 259 F259 := afOk_of (m := false) Tryz.func259 (by kernel_rfl) (by kernel_rfl) (by kernel_rfl)
theorem okc261 : AfOk Tryz.prog false 261 F261 := afOk_of (m := false) Tryz.func261 (by kernel_rfl) (by kernel_rfl) (by kernel_rfl)
theorem okc264 : AfOk Tryz.prog false 264 F264 := afOk_of (m := false) Tryz.func264 (by kernel_rfl) (by kernel_rfl) (by kernel_rfl)
theorem okc283 : AfOk Tryz.prog false 283 F283 := afOk_of (m := false) Tryz.func283 (by kernel_rfl) (by kernel_rfl) (by kernel_rfl)
theorem fc_1Ok {f : FuncId} {af : AF} (h : fc_1 f = some af) : AfOk Tryz.prog false f af := by
  unfold fc_1 at h
  split at h
  · cases h; exact okc284
  · cases h; exact okc285
  · cases h; exact okc286
  · cases h; exact okc291
  · cases h; exact okc305
  · cases h; exact okc309
  · cases h; exact okc311
  · cases h; exact okc317
  · cases h; exact okc318
  · cases h; exact okc326
  · cases h; exact okc327
  · cases h; exact okc328
  · cases h; exact okc329
  · cases h; exact okc330
  · cases h; exact okc333
  · cases h; exact okc334
  · cases h; exact okc336
  · cases h; exact okc345
  · cases h; exact okc352
  · cases h; exact okc359
  · cases h; exact okc360
  · cases h; exact okc361
  · cases h; exact okc362
  · cases h; exact okc363
  · cases h; exact okc373
  · cases h; exact okc383
  · cases h; exact okc387
  · cases h; exact okc388
  · cases h; exact okc389
  · cases h; exact okc395
  · cases h; exact okc397
  · cases h; exact okc399
  · cases h; exact okc400
  · cases h; exact okc401
  · cases h; exact okc402
  · cases h; exact okc406
  · cases h; exact okc408
  · cases h; exact okc418
  · cases h; exact okc422
  · cases h; exact okc460
  · cases h; exact okc471
  · cases h; exact okc481
  · cases h; exact okc500
  · cases h; exact okc554
  · cases h; exact okc606
  · cases h
theorem fcOk {f : FuncId} {af : AF} (h : fc f = some af) : AfOk Tryz.prog false f af := by
  unfold fc at h
  split at h
  · cases h; exact okc14
  · cases h; exact okc22
  · cases h; exact okc27
  · cases h; exact okc49
  · cases h; exact okc59
  · cases h; exact okc63
  · cases h; exact okc64
  · cases h; exact okc66
  · cases h; exact okc70
  · cases h; exact okc71
  · cases h; exact okc72
  · cases h; exact okc73
  · cases h; exact okc78
  · cases h; exact okc82
  · cases h; exact okc85
  · cases h; exact okc94
  · cases h; exact okc121
  · cases h; exact okc132
  · cases h; exact okc135
  · cases h; exact okc138
  · cases h; exact okc139
  · cases h; exact okc141
  · cases h; exact okc143
  · cases h; exact okc155
  · cases h; exact okc156
  · cases h; exact okc161
  · cases h; exact okc162
  · cases h; exact okc163
  · cases h; exact okc166
  · cases h; exact okc169
  · cases h; exact okc177
  · cases h; exact okc189
  · cases h; exact okc190
  · cases h; exact okc195
  · cases h; exact okc204
  · cases h; exact okc211
  · cases h; exact okc228
  · cases h; exact okc233
  · cases h; exact okc234
  · cases h; exact okc241
  · cases h; exact okc242
  · cases h; exact okc245
  · cases h; exact okc246
  · cases h; exact okc250
  · cases h; exact okc252
  · cases h; exact okc255
  · cases h; exact okc259
  · cases h; exact okc261
  · cases h; exact okc264
  · cases h; exact okc283
  · exact fc_1Ok h
theorem oks514 : AfOk Tryz.prog true 514 S514 := afOk_of (m := true) Tryz.func514 (by kernel_rfl) (by kernel_rfl) (by kernel_rfl)
theorem oks515 : AfOk Tryz.prog true 515 S515 := afOk_of (m := true) Tryz.func515 (by kernel_rfl) (by kernel_rfl) (by kernel_rfl)
theorem oks516 : AfOk Tryz.prog true 516 S516 := afOk_of (m := true) Tryz.func516 (by kernel_rfl) (by kernel_rfl) (by kernel_rfl)
theorem oks551 : AfOk Tryz.prog true 551 S551 := afOk_of (m := true) Tryz.func551 (by kernel_rfl) (by kernel_rfl) (by kernel_rfl)
theorem oks552 : AfOk Tryz.prog true 552 S552 := afOk_of (m := true) Tryz.func552 (by kernel_rfl) (by kernel_rfl) (by kernel_rfl)
theorem oks566 : AfOk Tryz.prog true 566 S566 := afOk_of (m := true) Tryz.func566 (by kernel_rfl) (by kernel_rfl) (by kernel_rfl)
theorem oks574 : AfOk Tryz.prog true 574 S574 := afOk_of (m := true) Tryz.func574 (by kernel_rfl) (by kernel_rfl) (by kernel_rfl)
theorem oks575 : AfOk Tryz.prog true 575 S575 := afOk_of (m := true) Tryz.func575 (by kernel_rfl) (by kernel_rfl) (by kernel_rfl)
theorem oks576 : AfOk Tryz.prog true 576 S576 := afOk_of (m := true) Tryz.func576 (by kernel_rfl) (by kernel_rfl) (by kernel_rfl)
theorem oks591 : AfOk Tryz.prog true 591 S591 := afOk_of (m := true) Tryz.func591 (by kernel_rfl) (by kernel_rfl) (by kernel_rfl)
theorem oks599 : AfOk Tryz.prog true 599 S599 := afOk_of (m := true) Tryz.func599 (by kernel_rfl) (by kernel_rfl) (by kernel_rfl)
theorem oks609 : AfOk Tryz.prog true 609 S609 := afOk_of (m := true) Tryz.func609 (by kernel_rfl) (by kernel_rfl) (by kernel_rfl)
theorem oks58 : AfOk Tryz.prog true 58 S58 := afOk_of (m := true) Tryz.func58 (by kernel_rfl) (by kernel_rfl) (by kernel_rfl)
theorem oks74 : AfOk Tryz.prog true 74 S74 := afOk_of (m := true) Tryz.func74 (by kernel_rfl) (by kernel_rfl) (by kernel_rfl)
theorem oks89 : AfOk Tryz.prog true 89 S89 := afOk_of (m := true) Tryz.func89 (by kernel_rfl) (by kernel_rfl) (by kernel_rfl)
theorem oks115 : AfOk Tryz.prog true 115 S115 := afOk_of (m := true) Tryz.func115 (by kernel_rfl) (by kernel_rfl) (by kernel_rfl)
theorem oks133 : AfOk Tryz.prog true 133 S133 := afOk_of (m := true) Tryz.func133 (by kernel_rfl) (by kernel_rfl) (by kernel_rfl)
theorem oks134 : AfOk Tryz.prog true 134 S134 := afOk_of (m := true) Tryz.func134 (by kernel_rfl) (by kernel_rfl) (by kernel_rfl)
theorem oks141 : AfOk Tryz.prog true 141 S141 := afOk_of (m := true) Tryz.func141 (by kernel_rfl) (by kernel_rfl) (by kernel_rfl)
theorem oks145 : AfOk Tryz.prog true 145 S145 := afOk_of (m := true) Tryz.func145 (by kernel_rfl) (by kernel_rfl) (by kernel_rfl)
theorem oks147 : AfOk Tryz.prog true 147 S147 := afOk_of (m := true) Tryz.func147 (by kernel_rfl) (by kernel_rfl) (by kernel_rfl)
theorem oks157 : AfOk Tryz.prog true 157 S157 := afOk_of (m := true) Tryz.func157 (by kernel_rfl) (by kernel_rfl) (by kernel_rfl)
theorem oks158 : AfOk Tryz.prog true 158 S158 := afOk_of (m := true) Tryz.func158 (by kernel_rfl) (by kernel_rfl) (by kernel_rfl)
theorem oks159 : AfOk Tryz.prog true 159 S159 := afOk_of (m := true) Tryz.func159 (by kernel_rfl) (by kernel_rfl) (by kernel_rfl)
theorem oks160 : AfOk Tryz.prog true 160 S160 := afOk_of (m := true) Tryz.func160 (by kernel_rfl) (by kernel_rfl) (by kernel_rfl)
theorem oks164 : AfOk Tryz.prog true 164 S164 := afOk_of (m := true) Tryz.func164 (by kernel_rfl) (by kernel_rfl) (by kernel_rfl)
theorem oks165 : AfOk Tryz.prog true 165 S165 := afOk_of (m := true) Tryz.func165 (by kernel_rfl) (by kernel_rfl) (by kernel_rfl)
theorem oks167 : AfOk Tryz.prog true 167 S167 := afOk_of (m := true) Tryz.func167 (by kernel_rfl) (by kernel_rfl) (by kernel_rfl)
theorem oks183 : AfOk Tryz.prog true 183 S183 := afOk_of (m := true) Tryz.func183 (by kernel_rfl) (by kernel_rfl) (by kernel_rfl)
theorem oks202 : AfOk Tryz.prog true 202 S202 := afOk_of (m := true) Tryz.func202 (by kernel_rfl) (by kernel_rfl) (by kernel_rfl)
theorem oks221 : AfOk Tryz.prog true 221 S221 := afOk_of (m := true) Tryz.func221 (by kernel_rfl) (by kernel_rfl) (by kernel_rfl)
theorem oks222 : AfOk Tryz.prog true 222 S222 := afOk_of (m := true) Tryz.func222 (by kernel_rfl) (by kernel_rfl) (by kernel_rfl)
theorem oks229 : AfOk Tryz.prog true 229 S229 := afOk_of (m := true) Tryz.func229 (by kernel_rfl) (by kernel_rfl) (by kernel_rfl)
theorem oks234 : AfOk Tryz.prog true 234 S234 := afOk_of (m := true) Tryz.func234 (by kernel_rfl) (by kernel_rfl) (by kernel_rfl)
theorem oks243 : AfOk Tryz.prog true 243 S243 := afOk_of (m := true) Tryz.func243 (by kernel_rfl) (by kernel_rfl) (by kernel_rfl)
theorem oks244 : AfOk Tryz.prog true 244 S244 := afOk_of (m := true) Tryz.func244 (by kernel_rfl) (by kernel_rfl) (by kernel_rfl)
theorem oks247 : AfOk Tryz.prog true 247 S247 := afOk_of (m := true) Tryz.func247 (by kernel_rfl) (by kernel_rfl) (by kernel_rfl)
theorem oks248 : AfOk Tryz.prog true 248 S248 := afOk_of (m := true) Tryz.func248 (by kernel_rfl) (by kernel_rfl) (by kernel_rfl)
theorem oks249 : AfOk Tryz.prog true 249 S249 := afOk_of (m := true) Tryz.func249 (by kernel_rfl) (by kernel_rfl) (by kernel_rfl)
theorem oks251 : AfOk Tryz.prog true 251 S251 := afOk_of (m := true) Tryz.func251 (by kernel_rfl) (by kernel_rfl) (by kernel_rfl)
theorem oks253 : AfOk Tryz.prog true 253 S253 := afOk_of (m := true) Tryz.func253 (by kernel_rfl) (by kernel_rfl) (by kernel_rfl)
theorem oks256 : AfOk Tryz.prog true 256 S256 := afOk_of (m := true) Tryz.func256 (by kernel_rfl) (by kernel_rfl) (by kernel_rfl)
theorem oks257 : AfOk Tryz.prog true 257 S257 := afOk_of (m := true) Tryz.func257 (by kernel_rfl) (by kernel_rfl) (by kernel_rfl)
theorem oks260 : AfOk Tryz.prog true 260 S260 := afOk_of (m := true) Tryz.func260 (by kernel_rfl) (by kernel_rfl) (by kernel_rfl)
theorem oks262 : AfOk Tryz.prog true 262 S262 := afOk_of (m := true) Tryz.func262 (by kernel_rfl) (by kernel_rfl) (by kernel_rfl)
theorem oks297 : AfOk Tryz.prog true 297 S297 := afOk_of (m := true) Tryz.func297 (by kernel_rfl) (by kernel_rfl) (by kernel_rfl)
theorem oks312 : AfOk Tryz.prog true 312 S312 := afOk_of (m := true) Tryz.func312 (by kernel_rfl) (by kernel_rfl) (by kernel_rfl)
theorem oks332 : AfOk Tryz.prog true 332 S332 := afOk_of (m := true) Tryz.func332 (by kernel_rfl) (by kernel_rfl) (by kernel_rfl)
theorem oks333 : AfOk Tryz.prog true 333 S333 := afOk_of (m := true) Tryz.func333 (by kernel_rfl) (by kernel_rfl) (by kernel_rfl)
theorem oks335 : AfOk Tryz.prog true 335 S335 := afOk_of (m := true) Tryz.func335 (by kernel_rfl) (by kernel_rfl) (by kernel_rfl)
theorem oks338 : AfOk Tryz.prog true 338 S338 := afOk_of (m := true) Tryz.func338 (by kernel_rfl) (by kernel_rfl) (by kernel_rfl)
theorem oks339 : AfOk Tryz.prog true 339 S339 := afOk_of (m := true) Tryz.func339 (by kernel_rfl) (by kernel_rfl) (by kernel_rfl)
theorem oks340 : AfOk Tryz.prog true 340 S340 := afOk_of (m := true) Tryz.func340 (by kernel_rfl) (by kernel_rfl) (by kernel_rfl)
theorem oks404 : AfOk Tryz.prog true 404 S404 := afOk_of (m := true) Tryz.func404 (by kernel_rfl) (by kernel_rfl) (by kernel_rfl)
theorem oks406 : AfOk Tryz.prog true 406 S406 := afOk_of (m := true) Tryz.func406 (by kernel_rfl) (by kernel_rfl) (by kernel_rfl)
theorem oks410 : AfOk Tryz.prog true 410 S410 := afOk_of (m := true) Tryz.func410 (by kernel_rfl) (by kernel_rfl) (by kernel_rfl)
theorem oks411 : AfOk Tryz.prog true 411 S411 := afOk_of (m := true) Tryz.func411 (by kernel_rfl) (by kernel_rfl) (by kernel_rfl)
theorem oks413 : AfOk Tryz.prog true 413 S413 := afOk_of (m := true) Tryz.func413 (by kernel_rfl) (by kernel_rfl) (by kernel_rfl)
theorem oks463 : AfOk Tryz.prog true 463 S463 := afOk_of (m := true) Tryz.func463 (by kernel_rfl) (by kernel_rfl) (by kernel_rfl)
theorem oks464 : AfOk Tryz.prog true 464 S464 := afOk_of (m := true) Tryz.func464 (by kernel_rfl) (by kernel_rfl) (by kernel_rfl)
theorem oks469 : AfOk Tryz.prog true 469 S469 := afOk_of (m := true) Tryz.func469 (by kernel_rfl) (by kernel_rfl) (by kernel_rfl)
theorem oks511 : AfOk Tryz.prog true 511 S511 := afOk_of (m := true) Tryz.func511 (by kernel_rfl) (by kernel_rfl) (by kernel_rfl)
theorem fs_1Ok {f : FuncId} {af : AF} (h : fs_1 f = some af) : AfOk Tryz.prog true f af := by
  unfold fs_1 at h
  split at h
  · cases h; exact oks514
  · cases h; exact oks515
  · cases h; exact oks516
  · cases h; exact oks551
  · cases h; exact oks552
  · cases h; exact oks566
  · cases h; exact oks574
  · cases h; exact oks575
  · cases h; exact oks576
  · cases h; exact oks591
  · cases h; exact oks599
  · cases h; exact oks609
  · cases h
theorem fsOk {f : FuncId} {af : AF} (h : fs f = some af) : AfOk Tryz.prog true f af := by
  unfold fs at h
  split at h
  · cases h; exact oks58
  · cases h; exact oks74
  · cases h; exact oks89
  · cases h; exact oks115
  · cases h; exact oks133
  · cases h; exact oks134
  · cases h; exact oks141
  · cases h; exact oks145
  · cases h; exact oks147
  · cases h; exact oks157
  · cases h; exact oks158
  · cases h; exact oks159
  · cases h; exact oks160
  · cases h; exact oks164
  · cases h; exact oks165
  · cases h; exact oks167
  · cases h; exact oks183
  · cases h; exact oks202
  · cases h; exact oks221
  · cases h; exact oks222
  · cases h; exact oks229
  · cases h; exact oks234
  · cases h; exact oks243
  · cases h; exact oks244
  · cases h; exact oks247
  · cases h; exact oks248
  · cases h; exact oks249
  · cases h; exact oks251
  · cases h; exact oks253
  · cases h; exact oks256
  · cases h; exact oks257
  · cases h; exact oks260
  · cases h; exact oks262
  · cases h; exact oks297
  · cases h; exact oks312
  · cases h; exact oks332
  · cases h; exact oks333
  · cases h; exact oks335
  · cases h; exact oks338
  · cases h; exact oks339
  · cases h; exact oks340
  · cases h; exact oks404
  · cases h; exact oks406
  · cases h; exact oks410
  · cases h; exact oks411
  · cases h; exact oks413
  · cases h; exact oks463
  · cases h; exact oks464
  · cases h; exact oks469
  · cases h; exact oks511
  · exact fs_1Ok h
theorem envOk : EnvOk Tryz.prog E := ⟨fun _ _ h => fcOk h, fun _ _ h => fsOk h, (fun f m h => by
  simp only [E] at h
  cases h), (fun f cs h => by
  simp only [E] at h
  split at h
  · cases h; exact mkLaw
  · cases h), (fun f args r h => by
  simp only [E] at h
  cases h)⟩
end Go.Pv.T
