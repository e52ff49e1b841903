/- The environment is what the program's code says. -/
import Derived.Test.YtphecmnehkdihaaGreatDoorLE
import Derived.Test.YtphecmnehkdihaaGreatDoorRows
import Derived.Test.YtphecmnehkdihaaGreatDoorTie
import Derived.ProofKit
import Derived.LaidMore
import Derived.OpenShut
import Derived.Stop.Joined
import Derived.SizedLaws
import Derived.Carry
import Derived.Handed
import Derived.ChangeSame
namespace Go.Pv.T
open Go Go.Pv Go.Proofs

theorem afOk_of {P:Program} {m r:Bool} {f:FuncId} {fn:Func} {af:AF} (h1:P.funcs[f]? = some fn) (h2:compF P m r fn=some af) (h3:(fn.name == "runtime.NumGoroutine")=false) (h4:af.body.dstOk fn.ntmps=true):AfOk P r f af:=by
  unfold compF at h2
  cases hb:fn.body with
  | none=>rw [hb] at h2;cases h2
  | some c =>
    rw [hb,Option.bind_some] at h2
    cases hc:comp P m r c with
    | none=>rw [hc] at h2;cases h2
    | some b =>
      rw [hc,Option.bind_some] at h2
      cases hr:fn.results.toList.mapM (compRes P) with
      | none=>rw [hr] at h2;cases h2
      | some res =>
        rw [hr] at h2
        cases h2
        exact ⟨m,fn,c,h1,hb,hc,hr,h3,h4⟩

theorem okc252:AfOk Tryz.prog false 252 F252:=afOk_of (m:=false) Tryz.func252 (by kernel_rfl) (by kernel_rfl) (by kernel_rfl)
theorem okc253:AfOk Tryz.prog false 253 F253:=afOk_of (m:=false) Tryz.func253 (by kernel_rfl) (by kernel_rfl) (by kernel_rfl)
theorem okc254:AfOk Tryz.prog false 254 F254:=afOk_of (m:=false) Tryz.func254 (by kernel_rfl) (by kernel_rfl) (by kernel_rfl)
theorem okc258:AfOk Tryz.prog false 258 F258:=afOk_of (m:=false) Tryz.func258 (by kernel_rfl) (by kernel_rfl) (by kernel_rfl)
theorem okc259:AfOk Tryz.prog false 259 F259:=afOk_of (m:=false) Tryz.func259 (by kernel_rfl) (by kernel_rfl) (by kernel_rfl)
theorem okc261:AfOk Tryz.prog false 261 F261:=afOk_of (m:=false) Tryz.func261 (by kernel_rfl) (by kernel_rfl) (by kernel_rfl)
theorem okc262:AfOk Tryz.prog false 262 F262:=afOk_of (m:=false) Tryz.func262 (by kernel_rfl) (by kernel_rfl) (by kernel_rfl)
theorem okc263:AfOk Tryz.prog false 263 F263:=afOk_of (m:=false) Tryz.func263 (by kernel_rfl) (by kernel_rfl) (by kernel_rfl)
theorem okc264:AfOk Tryz.prog false 264 F264:=afOk_of (m:=false) Tryz.func264 (by kernel_rfl) (by kernel_rfl) (by kernel_rfl)
theorem okc265:AfOk Tryz.prog false 265 F265:=afOk_of (m:=false) Tryz.func265 (by kernel_rfl) (by kernel_rfl) (by kernel_rfl)
theorem okc266:AfOk Tryz.prog false 266 F266:=afOk_of (m:=false) Tryz.func266 (by kernel_rfl) (by kernel_rfl) (by kernel_rfl)
theorem okc267:AfOk Tryz.prog false 267 F267:=afOk_of (m:=false) Tryz.func267 (by kernel_rfl) (by kernel_rfl) (by kernel_rfl)
theorem okc268:AfOk Tryz.prog false 268 F268:=afOk_of (m:=false) Tryz.func268 (by kernel_rfl) (by kernel_rfl) (by kernel_rfl)
theorem okc269:AfOk Tryz.prog false 269 F269:=afOk_of (m:=false) Tryz.func269 (by kernel_rfl) (by kernel_rfl) (by kernel_rfl)
theorem okc280:AfOk Tryz.prog false 280 F280:=afOk_of (m:=false) Tryz.func280 (by kernel_rfl) (by kernel_rfl) (by kernel_rfl)
theorem okc281:AfOk Tryz.prog false 281 F281:=afOk_of (m:=false) Tryz.func281 (by kernel_rfl) (by kernel_rfl) (by kernel_rfl)
theorem okc284:AfOk Tryz.prog false 284 F284:=afOk_of (m:=false) Tryz.func284 (by kernel_rfl) (by kernel_rfl) (by kernel_rfl)
theorem okc285:AfOk Tryz.prog false 285 F285:=afOk_of (m:=false) Tryz.func285 (by kernel_rfl) (by kernel_rfl) (by kernel_rfl)
theorem okc286:AfOk Tryz.prog false 286 F286:=afOk_of (m:=false) Tryz.func286 (by kernel_rfl) (by kernel_rfl) (by kernel_rfl)
theorem okc287:AfOk Tryz.prog false 287 F287:=afOk_of (m:=false) Tryz.func287 (by kernel_rfl) (by kernel_rfl) (by kernel_rfl)
theorem okc288:AfOk Tryz.prog false 288 F288:=afOk_of (m:=false) Tryz.func288 (by kernel_rfl) (by kernel_rfl) (by kernel_rfl)
theorem okc289:AfOk Tryz.prog false 289 F289:=afOk_of (m:=false) Tryz.func289 (by kernel_rfl) (by kernel_rfl) (by kernel_rfl)
theorem okc290:AfOk Tryz.prog false 290 F290:=afOk_of (m:=false) Tryz.func290 (by kernel_rfl) (by kernel_rfl) (by kernel_rfl)
theorem okc293:AfOk Tryz.prog false 293 F293:=afOk_of (m:=false) Tryz.func293 (by kernel_rfl) (by kernel_rfl) (by kernel_rfl)
theorem okc300:AfOk Tryz.prog false 300 F300:=afOk_of (m:=false) Tryz.func300 (by kernel_rfl) (by kernel_rfl) (by kernel_rfl)
theorem okc301:AfOk Tryz.prog false 301 F301:=afOk_of (m:=false) Tryz.func301 (by kernel_rfl) (by kernel_rfl) (by kernel_rfl)
theorem okc302:AfOk Tryz.prog false 302 F302:=afOk_of (m:=false) Tryz.func302 (by kernel_rfl) (by kernel_rfl) (by kernel_rfl)
theorem okc304:AfOk Tryz.prog false 304 F304:=afOk_of (m:=false) Tryz.func304 (by kernel_rfl) (by kernel_rfl) (by kernel_rfl)
theorem okc307:AfOk Tryz.prog false 307 F307:=afOk_of (m:=false) Tryz.func307 (by kernel_rfl) (by kernel_rfl) (by kernel_rfl)
theorem okc311:AfOk Tryz.prog false 311 F311:=afOk_of (m:=false) Tryz.func311 (by kernel_rfl) (by kernel_rfl) (by kernel_rfl)
theorem okc320:AfOk Tryz.prog false 320 F320:=afOk_of (m:=false) Tryz.func320 (by kernel_rfl) (by kernel_rfl) (by kernel_rfl)
theorem okc7:AfOk Tryz.prog false 7 F7:=afOk_of (m:=false) Tryz.func7 (by kernel_rfl) (by kernel_rfl) (by kernel_rfl)
theorem okc15:AfOk Tryz.prog false 15 F15:=afOk_of (m:=true) Tryz.func15 (by kernel_rfl) (by kernel_rfl) (by kernel_rfl)
theorem okc25:AfOk Tryz.prog false 25 F25:=afOk_of (m:=false) Tryz.func25 (by kernel_rfl) (by kernel_rfl) (by kernel_rfl)
theorem okc26:AfOk Tryz.prog false 26 F26:=afOk_of (m:=false) Tryz.func26 (by kernel_rfl) (by kernel_rfl) (by kernel_rfl)
theorem okc27:AfOk Tryz.prog false 27 F27:=afOk_of (m:=false) Tryz.func27 (by kernel_rfl) (by kernel_rfl) (by kernel_rfl)
theorem okc29:AfOk Tryz.prog false 29 F29:=afOk_of (m:=false) Tryz.func29 (by kernel_rfl) (by kernel_rfl) (by kernel_rfl)
theorem okc52:AfOk Tryz.prog false 52 F52:=afOk_of (m:=false) Tryz.func52 (by kernel_rfl) (by kernel_rfl) (by kernel_rfl)
theorem okc53:AfOk Tryz.prog false 53 F53:=afOk_of (m:=false) Tryz.func53 (by kernel_rfl) (by kernel_rfl) (by kernel_rfl)
theorem okc57:AfOk Tryz.prog false 57 F57:=afOk_of (m:=false) Tryz.func57 (by kernel_rfl) (by kernel_rfl) (by kernel_rfl)
theorem okc70:AfOk Tryz.prog false 70 F70:=afOk_of (m:=false) Tryz.func70 (by kernel_rfl) (by kernel_rfl) (by kernel_rfl)
theorem okc71:AfOk Tryz.prog false 71 F71:=afOk_of (m:=false) Tryz.func71 (by kernel_rfl) (by kernel_rfl) (by kernel_rfl)
theorem okc86:AfOk Tryz.prog false 86 F86:=afOk_of (m:=false) Tryz.func86 (by kernel_rfl) (by kernel_rfl) (by kernel_rfl)
theorem okc103:AfOk Tryz.prog false 103 F103:=afOk_of (m:=false) Tryz.func103 (by kernel_rfl) (by kernel_rfl) (by kernel_rfl)
theorem okc104:AfOk Tryz.prog false 104 F104:=afOk_of (m:=false) Tryz.func104 (by kernel_rfl) (by kernel_rfl) (by kernel_rfl)
theorem okc105:AfOk Tryz.prog false 105 F105:=afOk_of (m:=false) Tryz.func105 (by kernel_rfl) (by kernel_rfl) (by kernel_rfl)
theorem okc106:AfOk Tryz.prog false 106 F106:=afOk_of (m:=true) Tryz.func106 (by kernel_rfl) (by kernel_rfl) (by kernel_rfl)
theorem okc108:AfOk Tryz.prog false 108 F108:=afOk_of (m:=false) Tryz.func108 (by kernel_rfl) (by kernel_rfl) (by kernel_rfl)
theorem okc109:AfOk Tryz.prog false 109 F109:=afOk_of (m:=true) Tryz.func109 (by kernel_rfl) (by kernel_rfl) (by kernel_rfl)
theorem okc114:AfOk Tryz.prog false 114 F114:=afOk_of (m:=false) Tryz.func114 (by kernel_rfl) (by kernel_rfl) (by kernel_rfl)
theorem okc116:AfOk Tryz.prog false 116 F116:=afOk_of (m:=false) Tryz.func116 (by kernel_rfl) (by kernel_rfl) (by kernel_rfl)
theorem okc118:AfOk Tryz.prog false 118 F118:=afOk_of (m:=false) Tryz.func118 (by kernel_rfl) (by kernel_rfl) (by kernel_rfl)
theorem okc127:AfOk Tryz.prog false 127 F127:=afOk_of (m:=false) Tryz.func127 (by kernel_rfl) (by kernel_rfl) (by kernel_rfl)
theorem okc136:AfOk Tryz.prog false 136 F136:=afOk_of (m:=false) Tryz.func136 (by kernel_rfl) (by kernel_rfl) (by kernel_rfl)
theorem okc152:AfOk Tryz.prog false 152 F152:=afOk_of (m:=false) Tryz.func152 (by kernel_rfl) (by kernel_rfl) (by kernel_rfl)
theorem okc155:AfOk Tryz.prog false 155 F155:=afOk_of (m:=false) Tryz.func155 (by kernel_rfl) (by kernel_rfl) (by kernel_rfl)
theorem okc157:AfOk Tryz.prog false 157 F157:=afOk_of (m:=false) Tryz.func157 (by kernel_rfl) (by kernel_rfl) (by kernel_rfl)
theorem okc158:AfOk Tryz.prog false 158 F158:=afOk_of (m:=false) Tryz.func158 (by kernel_rfl) (by kernel_rfl) (by kernel_rfl)
theorem okc159:AfOk Tryz.prog false 159 F159:=afOk_of (m:=false) Tryz.func159 (by kernel_rfl) (by kernel_rfl) (by kernel_rfl)
theorem okc160:AfOk Tryz.prog false 160 F160:=afOk_of (m:=false) Tryz.func160 (by kernel_rfl) (by kernel_rfl) (by kernel_rfl)
theorem okc161:AfOk Tryz.prog false 161 F161:=afOk_of (m:=false) Tryz.func161 (by kernel_rfl) (by kernel_rfl) (by kernel_rfl)
theorem okc166:AfOk Tryz.prog false 166 F166:=afOk_of (m:=false) Tryz.func166 (by kernel_rfl) (by kernel_rfl) (by kernel_rfl)
theorem okc167:AfOk Tryz.prog false 167 F167:=afOk_of (m:=false) Tryz.func167 (by kernel_rfl) (by kernel_rfl) (by kernel_rfl)
theorem okc170:AfOk Tryz.prog false 170 F170:=afOk_of (m:=false) Tryz.func170 (by kernel_rfl) (by kernel_rfl) (by kernel_rfl)
theorem okc176:AfOk Tryz.prog false 176 F176:=afOk_of (m:=false) Tryz.func176 (by kernel_rfl) (by kernel_rfl) (by kernel_rfl)
theorem okc177:AfOk Tryz.prog false 177 F177:=afOk_of (m:=false) Tryz.func177 (by kernel_rfl) (by kernel_rfl) (by kernel_rfl)
theorem okc188:AfOk Tryz.prog false 188 F188:=afOk_of (m:=false) Tryz.func188 (by kernel_rfl) (by kernel_rfl) (by kernel_rfl)
theorem okc212:AfOk Tryz.prog false 212 F212:=afOk_of (m:=false) Tryz.func212 (by kernel_rfl) (by kernel_rfl) (by kernel_rfl)
theorem okc214:AfOk Tryz.prog false 214 F214:=afOk_of (m:=false) Tryz.func214 (by kernel_rfl) (by kernel_rfl) (by kernel_rfl)
theorem okc216:AfOk Tryz.prog false 216 F216:=afOk_of (m:=false) Tryz.func216 (by kernel_rfl) (by kernel_rfl) (by kernel_rfl)
theorem okc217:AfOk Tryz.prog false 217 F217:=afOk_of (m:=true) Tryz.func217 (by kernel_rfl) (by kernel_rfl) (by kernel_rfl)
theorem okc223:AfOk Tryz.prog false 223 F223:=afOk_of (m:=false) Tryz.func223 (by kernel_rfl) (by kernel_rfl) (by kernel_rfl)
theorem okc224:AfOk Tryz.prog false 224 F224:=afOk_of (m:=false) Tryz.func224 (by kernel_rfl) (by kernel_rfl) (by kernel_rfl)
theorem okc225:AfOk Tryz.prog false 225 F225:=afOk_of (m:=false) Tryz.func225 (by kernel_rfl) (by kernel_rfl) (by kernel_rfl)
theorem okc226:AfOk Tryz.prog false 226 F226:=afOk_of (m:=false) Tryz.func226 (by kernel_rfl) (by kernel_rfl) (by kernel_rfl)
theorem okc227:AfOk Tryz.prog false 227 F227:=afOk_of (m:=false) Tryz.func227 (by kernel_rfl) (by kernel_rfl) (by kernel_rfl)
theorem okc228:AfOk Tryz.prog false 228 F228:=afOk_of (m:=false) Tryz.func228 (by kernel_rfl) (by kernel_rfl) (by kernel_rfl)
theorem okc229:AfOk Tryz.prog false 229 F229:=afOk_of (m:=false) Tryz.func229 (by kernel_rfl) (by kernel_rfl) (by kernel_rfl)
theorem okc230:AfOk Tryz.prog false 230 F230:=afOk_of (m:=false) Tryz.func230 (by kernel_rfl) (by kernel_rfl) (by kernel_rfl)
theorem okc233:AfOk Tryz.prog false 233 F233:=afOk_of (m:=false) Tryz.func233 (by kernel_rfl) (by kernel_rfl) (by kernel_rfl)
theorem okc251:AfOk Tryz.prog false 251 F251:=afOk_of (m:=false) Tryz.func251 (by kernel_rfl) (by kernel_rfl) (by kernel_rfl)
set_option maxRecDepth 100000 in
theorem fc_1Ok {f:FuncId} {af:AF} (h:fc_1 f=some af):AfOk Tryz.prog false f af:=by
  unfold fc_1 at h
  split at h
  · cases h;exact okc252
  · cases h;exact okc253
  · cases h;exact okc254
  · cases h;exact okc258
  · cases h;exact okc259
  · cases h;exact okc261
  · cases h;exact okc262
  · cases h;exact okc263
  · cases h;exact okc264
  · cases h;exact okc265
  · cases h;exact okc266
  · cases h;exact okc267
  · cases h;exact okc268
  · cases h;exact okc269
  · cases h;exact okc280
  · cases h;exact okc281
  · cases h;exact okc284
  · cases h;exact okc285
  · cases h;exact okc286
  · cases h;exact okc287
  · cases h;exact okc288
  · cases h;exact okc289
  · cases h;exact okc290
  · cases h;exact okc293
  · cases h;exact okc300
  · cases h;exact okc301
  · cases h;exact okc302
  · cases h;exact okc304
  · cases h;exact okc307
  · cases h;exact okc311
  · cases h;exact okc320
  · cases h
set_option maxRecDepth 100000 in
theorem fcOk {f:FuncId} {af:AF} (h:fc f=some af):AfOk Tryz.prog false f af:=by
  unfold fc at h
  split at h
  · cases h;exact okc7
  · cases h;exact okc15
  · cases h;exact okc25
  · cases h;exact okc26
  · cases h;exact okc27
  · cases h;exact okc29
  · cases h;exact okc52
  · cases h;exact okc53
  · cases h;exact okc57
  · cases h;exact okc70
  · cases h;exact okc71
  · cases h;exact okc86
  · cases h;exact okc103
  · cases h;exact okc104
  · cases h;exact okc105
  · cases h;exact okc106
  · cases h;exact okc108
  · cases h;exact okc109
  · cases h;exact okc114
  · cases h;exact okc116
  · cases h;exact okc118
  · cases h;exact okc127
  · cases h;exact okc136
  · cases h;exact okc152
  · cases h;exact okc155
  · cases h;exact okc157
  · cases h;exact okc158
  · cases h;exact okc159
  · cases h;exact okc160
  · cases h;exact okc161
  · cases h;exact okc166
  · cases h;exact okc167
  · cases h;exact okc170
  · cases h;exact okc176
  · cases h;exact okc177
  · cases h;exact okc188
  · cases h;exact okc212
  · cases h;exact okc214
  · cases h;exact okc216
  · cases h;exact okc217
  · cases h;exact okc223
  · cases h;exact okc224
  · cases h;exact okc225
  · cases h;exact okc226
  · cases h;exact okc227
  · cases h;exact okc228
  · cases h;exact okc229
  · cases h;exact okc230
  · cases h;exact okc233
  · cases h;exact okc251
  · exact fc_1Ok h
theorem oks51:AfOk Tryz.prog true 51 S51:=afOk_of (m:=true) Tryz.func51 (by kernel_rfl) (by kernel_rfl) (by kernel_rfl)
theorem oks65:AfOk Tryz.prog true 65 S65:=afOk_of (m:=true) Tryz.func65 (by kernel_rfl) (by kernel_rfl) (by kernel_rfl)
theorem oks66:AfOk Tryz.prog true 66 S66:=afOk_of (m:=true) Tryz.func66 (by kernel_rfl) (by kernel_rfl) (by kernel_rfl)
theorem oks67:AfOk Tryz.prog true 67 S67:=afOk_of (m:=true) Tryz.func67 (by kernel_rfl) (by kernel_rfl) (by kernel_rfl)
theorem oks68:AfOk Tryz.prog true 68 S68:=afOk_of (m:=true) Tryz.func68 (by kernel_rfl) (by kernel_rfl) (by kernel_rfl)
theorem oks70:AfOk Tryz.prog true 70 S70:=afOk_of (m:=true) Tryz.func70 (by kernel_rfl) (by kernel_rfl) (by kernel_rfl)
theorem oks72:AfOk Tryz.prog true 72 S72:=afOk_of (m:=true) Tryz.func72 (by kernel_rfl) (by kernel_rfl) (by kernel_rfl)
theorem oks113:AfOk Tryz.prog true 113 S113:=afOk_of (m:=true) Tryz.func113 (by kernel_rfl) (by kernel_rfl) (by kernel_rfl)
theorem oks115:AfOk Tryz.prog true 115 S115:=afOk_of (m:=true) Tryz.func115 (by kernel_rfl) (by kernel_rfl) (by kernel_rfl)
theorem oks119:AfOk Tryz.prog true 119 S119:=afOk_of (m:=true) Tryz.func119 (by kernel_rfl) (by kernel_rfl) (by kernel_rfl)
theorem oks153:AfOk Tryz.prog true 153 S153:=afOk_of (m:=true) Tryz.func153 (by kernel_rfl) (by kernel_rfl) (by kernel_rfl)
theorem oks154:AfOk Tryz.prog true 154 S154:=afOk_of (m:=true) Tryz.func154 (by kernel_rfl) (by kernel_rfl) (by kernel_rfl)
theorem oks156:AfOk Tryz.prog true 156 S156:=afOk_of (m:=true) Tryz.func156 (by kernel_rfl) (by kernel_rfl) (by kernel_rfl)
theorem oks168:AfOk Tryz.prog true 168 S168:=afOk_of (m:=true) Tryz.func168 (by kernel_rfl) (by kernel_rfl) (by kernel_rfl)
theorem oks169:AfOk Tryz.prog true 169 S169:=afOk_of (m:=true) Tryz.func169 (by kernel_rfl) (by kernel_rfl) (by kernel_rfl)
theorem oks171:AfOk Tryz.prog true 171 S171:=afOk_of (m:=true) Tryz.func171 (by kernel_rfl) (by kernel_rfl) (by kernel_rfl)
theorem oks213:AfOk Tryz.prog true 213 S213:=afOk_of (m:=true) Tryz.func213 (by kernel_rfl) (by kernel_rfl) (by kernel_rfl)
theorem oks215:AfOk Tryz.prog true 215 S215:=afOk_of (m:=true) Tryz.func215 (by kernel_rfl) (by kernel_rfl) (by kernel_rfl)
theorem oks231:AfOk Tryz.prog true 231 S231:=afOk_of (m:=true) Tryz.func231 (by kernel_rfl) (by kernel_rfl) (by kernel_rfl)
theorem oks232:AfOk Tryz.prog true 232 S232:=afOk_of (m:=true) Tryz.func232 (by kernel_rfl) (by kernel_rfl) (by kernel_rfl)
theorem oks237:AfOk Tryz.prog true 237 S237:=afOk_of (m:=true) Tryz.func237 (by kernel_rfl) (by kernel_rfl) (by kernel_rfl)
theorem oks255:AfOk Tryz.prog true 255 S255:=afOk_of (m:=true) Tryz.func255 (by kernel_rfl) (by kernel_rfl) (by kernel_rfl)
theorem oks270:AfOk Tryz.prog true 270 S270:=afOk_of (m:=true) Tryz.func270 (by kernel_rfl) (by kernel_rfl) (by kernel_rfl)
theorem oks271:AfOk Tryz.prog true 271 S271:=afOk_of (m:=true) Tryz.func271 (by kernel_rfl) (by kernel_rfl) (by kernel_rfl)
theorem oks272:AfOk Tryz.prog true 272 S272:=afOk_of (m:=true) Tryz.func272 (by kernel_rfl) (by kernel_rfl) (by kernel_rfl)
theorem oks274:AfOk Tryz.prog true 274 S274:=afOk_of (m:=true) Tryz.func274 (by kernel_rfl) (by kernel_rfl) (by kernel_rfl)
theorem oks291:AfOk Tryz.prog true 291 S291:=afOk_of (m:=true) Tryz.func291 (by kernel_rfl) (by kernel_rfl) (by kernel_rfl)
theorem oks292:AfOk Tryz.prog true 292 S292:=afOk_of (m:=true) Tryz.func292 (by kernel_rfl) (by kernel_rfl) (by kernel_rfl)
theorem oks294:AfOk Tryz.prog true 294 S294:=afOk_of (m:=true) Tryz.func294 (by kernel_rfl) (by kernel_rfl) (by kernel_rfl)
theorem oks295:AfOk Tryz.prog true 295 S295:=afOk_of (m:=true) Tryz.func295 (by kernel_rfl) (by kernel_rfl) (by kernel_rfl)
theorem oks296:AfOk Tryz.prog true 296 S296:=afOk_of (m:=true) Tryz.func296 (by kernel_rfl) (by kernel_rfl) (by kernel_rfl)
theorem oks303:AfOk Tryz.prog true 303 S303:=afOk_of (m:=true) Tryz.func303 (by kernel_rfl) (by kernel_rfl) (by kernel_rfl)
theorem oks305:AfOk Tryz.prog true 305 S305:=afOk_of (m:=true) Tryz.func305 (by kernel_rfl) (by kernel_rfl) (by kernel_rfl)
theorem oks312:AfOk Tryz.prog true 312 S312:=afOk_of (m:=true) Tryz.func312 (by kernel_rfl) (by kernel_rfl) (by kernel_rfl)
set_option maxRecDepth 100000 in
theorem fsOk {f:FuncId} {af:AF} (h:fs f=some af):AfOk Tryz.prog true f af:=by
  unfold fs at h
  split at h
  · cases h;exact oks51
  · cases h;exact oks65
  · cases h;exact oks66
  · cases h;exact oks67
  · cases h;exact oks68
  · cases h;exact oks70
  · cases h;exact oks72
  · cases h;exact oks113
  · cases h;exact oks115
  · cases h;exact oks119
  · cases h;exact oks153
  · cases h;exact oks154
  · cases h;exact oks156
  · cases h;exact oks168
  · cases h;exact oks169
  · cases h;exact oks171
  · cases h;exact oks213
  · cases h;exact oks215
  · cases h;exact oks231
  · cases h;exact oks232
  · cases h;exact oks237
  · cases h;exact oks255
  · cases h;exact oks270
  · cases h;exact oks271
  · cases h;exact oks272
  · cases h;exact oks274
  · cases h;exact oks291
  · cases h;exact oks292
  · cases h;exact oks294
  · cases h;exact oks295
  · cases h;exact oks296
  · cases h;exact oks303
  · cases h;exact oks305
  · cases h;exact oks312
  · cases h
theorem envOk:EnvOk Tryz.prog E:=⟨fun _ _ h=>fcOk h,fun _ _ h=>fsOk h,fun f h=>by
  have e:f=69:=by simpa [E,srl] using h
  subst e;exact sortLaw⟩
end Go.Pv.T

/- The row's side, the same for every law of the seat. -/
namespace Go.Pv.T
open Go Go.Pv Go.Proofs Go.ChangeShapes Go.WideShapes Go.ChangeAt Go.RowKit Go.Proofs.YtphecmnehkdihaaGreatDoor

theorem own:ownKnob Tryz.prog.godebug=none:=by kernel_rfl
theorem laidOut:laidOutB Tryz.prog=true:=by kernel_rfl
theorem mixed:Tryz.prog.follows .mixedOrders=true:=by kernel_rfl

def laidL:List (String × DataW Unit):=[("unicode/utf8.acceptRanges",Rows.laid_unicode_utf8_acceptRanges),("deemster/event.words",Rows.laid_deemster_event_words),("unicode/utf8.first",Rows.laid_unicode_utf8_first)]

def litVal:V→Value
  | .int k n=>.int k n
  | .str s=>.string ⟨s.toArray⟩
  | _=>.nilFunc
def putCells (h:Array Obj) (g:Nat) (cs:Array Value):Array Obj:=h.modify g fun
    | .cells _ t frozen=>.cells cs t frozen
    | o=>o
def acceptCells:Array Value:=#[.int .u8 128,.int .u8 191,.int .u8 160,.int .u8 191,.int .u8 128,.int .u8 159,.int .u8 144,.int .u8 191,.int .u8 128,.int .u8 143,.int .u8 0,.int .u8 0,.int .u8 0,.int .u8 0,.int .u8 0,.int .u8 0,.int .u8 0,.int .u8 0,.int .u8 0,.int .u8 0,.int .u8 0,.int .u8 0,.int .u8 0,.int .u8 0,.int .u8 0,.int .u8 0,.int .u8 0,.int .u8 0,.int .u8 0,.int .u8 0,.int .u8 0,.int .u8 0]
noncomputable def laidWorld (os:Os):World :=
  let w0:=World.holding Tryz.prog os ⟨#[],#[],[]⟩
  { w0 with heap:=putCells (putCells (putCells w0.heap 1 (words.map litVal).toArray) 2 (utf8first.map litVal).toArray) 3 acceptCells }
set_option maxRecDepth 100000 in
theorem door_met (os:Os) (args:Array Value):laidMetH Tryz.prog laidL ((laidWorld os).forCall (fun _ _=>0) ⟨#[],args,[]⟩).memory:=by
  rw [MakeChecks.laidMetH_plain _ _ _ (by kernel_rfl)]
  exact laidMet_of_run' 8 (by kernel_rfl) (by kernel_rfl)

theorem gWords:Tryz.prog.globalNamed "deemster/event.words" = some 1:=by kernel_rfl
theorem gFirst:Tryz.prog.globalNamed "unicode/utf8.first" = some 2:=by kernel_rfl
theorem tWords:(Tryz.prog.globals[1]?).map (·.type)=some 300:=by kernel_rfl
theorem tFirst:(Tryz.prog.globals[2]?).map (·.type)=some 319:=by kernel_rfl

def cellsI (W:World):IMap:=fun b o=>W.cell? ⟨b,o,none⟩
theorem cellsI_ok (W:World):ImmOk (cellsI W) W:=fun _ _ _ h=>h

def litV:DataW Unit→V
  | .lit (.int k n)=>.int k n
  | .lit (.string s)=>.str s
  | _=>.undef

theorem arr_rep {W:World} {t e:TypeId} {n fuel:Nat} {cs:List Value} {ds:List (DataW Unit)} {p:List MemPlace} (ht:Tryz.prog.underlying t=some (.array n e)) (hc:Tryz.prog.cellsOf e=1)
    (he:Tryz.prog.underlying e=some .string∨∃ k,Tryz.prog.underlying e=some (.int k)) (h:DataW.trod (fun _=>()) Tryz.prog W 0 (fun _=>true) false fuel t cs=some (.agg ds,p)) (I:IMap) :
    ∀ (j:Nat) (d:DataW Unit),ds[j]? = some d→∃ x,cs[j]? = some x∧RepP I x (litV d):=by
  obtain ⟨xs,m,rfl,hx,hlen,hn,hel⟩:=DataW.trod_array ht h
  intro j d hd
  simp only [Prod.mk.injEq,DataW.agg.injEq] at hx
  rw [hx.1,List.getElem?_map] at hd
  cases hy:xs[j]? with
  | none=>simp [hy] at hd
  | some y =>
    rw [hy] at hd
    simp only [Option.map_some,Option.some.injEq] at hd
    have hj:j<n:=by rw [← hn];exact (List.getElem?_eq_some_iff.1 hy).1
    have:=hel j hj
    rw [hc,Nat.mul_one,hy] at this
    have one:∀ c,(cs.drop j).take 1=[c]→cs[j]? = some c:=by
      intro c hcc
      have:=congrArg List.head? hcc
      simpa [List.head?_take,List.head?_drop] using this
    rcases he with he | ⟨k,he⟩
    · obtain ⟨s,e1,e2,_⟩:=DataW.trod_string he this
      refine ⟨_,one _ e1,?_⟩
      rw [← hd,e2]
      exact RepP.str s
    · obtain ⟨s,e1,e2,_⟩:=DataW.trod_int he this
      refine ⟨_,one _ e1,?_⟩
      rw [← hd,e2]
      exact RepP.int k s

theorem gl_rep {W:World} {nm:String} {g:Nat} {cs:Array Value} {ds:List (DataW Unit)} (hg:Tryz.prog.globalNamed nm=some g) (hv:W.var? Tryz.prog nm=some cs) (hp:(ds.map litV).all V.pureLeaf=true)
    (h:∀ (j:Nat) (d:DataW Unit),ds[j]? = some d→∃ x,cs.toList[j]? = some x∧RepP (cellsI W) x (litV d)):RepP (cellsI W) (.pointer (some ⟨g,0,none⟩)) (.eptr (ds.map litV) 0):=by
  have hc:=World.var?_cell hg hv
  refine RepP.eptr g 0 0 (ds.map litV) (fun j=>(cs[j]?).getD .nilFunc) (fun j hj=>?_) (fun j v hj=>?_) (fun j v hj=>?_)
  · rw [List.length_map] at hj
    obtain ⟨x,hx,_⟩:=h j ds[j] (List.getElem?_eq_getElem hj)
    have hx':cs[j]? = some x:=by simpa using hx
    show W.cell? ⟨g,0+j,none⟩=_
    rw [Nat.zero_add,hc j,hx']
    rfl
  · exact List.all_eq_true.1 hp v (List.mem_of_getElem? hj)
  · rw [List.getElem?_map] at hj
    cases hd:ds[j]? with
    | none=>rw [hd] at hj;cases hj
    | some d =>
      rw [hd] at hj
      cases hj
      obtain ⟨x,hx,hr⟩:=h j d hd
      have hx':cs[j]? = some x:=by simpa using hx
      rw [hx']
      exact hr

def aggOf:DataW Unit→List (DataW Unit)
  | .agg l=>l
  | _=>[]
theorem words_eq:(aggOf Rows.laid_deemster_event_words).map litV=words:=by kernel_rfl
theorem first_eq:(aggOf Rows.laid_unicode_utf8_first).map litV=utf8first:=by kernel_rfl
theorem first_agg:Rows.laid_unicode_utf8_first = .agg (aggOf Rows.laid_unicode_utf8_first):=by kernel_rfl
theorem words_pure:((aggOf Rows.laid_deemster_event_words).map litV).all V.pureLeaf=true:=by kernel_rfl
theorem first_pure:((aggOf Rows.laid_unicode_utf8_first).map litV).all V.pureLeaf=true:=by kernel_rfl

theorem all_below {H:Type} {enc:TypeId × Value→H} {W W':World} (hb:Below W.heap.size W W'):∀ {ts:List TypeId} {vs:List Value} {ds:List (DataW H)} {ps:List MemPlace},
    (∀ t∈ts,Tryz.prog.readableRec t=true∧t<Tryz.prog.types.size)→(∀ x∈ps,x.block<W.heap.size) →
    DataW.TrodAll enc Tryz.prog W 0 (fun _=>true) true ts vs ds ps→DataW.TrodAll enc Tryz.prog W' 0 (fun b=>decide (b<W.heap.size)) true ts vs ds ps
  | [],[],[],_,_,_,h=>h
  | t::ts,v::vs,d::ds,_,ht,hlt,⟨p,q,h1,h2,e⟩=>by
    subst e
    exact ⟨p,q,Below.trod laidOut (ht t (List.mem_cons_self ..)).1 (ht t (List.mem_cons_self ..)).2 h1 hb (fun x hx=>hlt x (List.mem_append_left _ hx)),
      all_below hb (fun t' h'=>ht t' (List.mem_cons_of_mem _ h')) (fun x hx=>hlt x (List.mem_append_right _ hx)) h2,rfl⟩
  | [],_::_,_,_,_,_,h=>h.elim
  | [],[],_::_,_,_,_,h=>h.elim
  | _::_,[],_,_,_,_,h=>h.elim
  | _::_,_::_,[],_,_,_,h=>h.elim

theorem post_true {H:Type} {enc:TypeId × Value→H} {fn:Func} {s:ChangeSpec} {W W':World} {args:Array Value} {ds gs:List (DataW H)} {before:List MemPlace} (hW:DataW.Whole enc Tryz.prog fn.params.toList s.vars false W args.toList ds gs before)
    (hv:s.vars=[]) (hr:fn.resultTypes = #[4]) (hs:(s.fn H ds).results=[.lit (.bool true)]) (ha:(s.fn H ds).args=ds) (hvs:(s.fn H ds).vars=[])
    (ht:∀ t∈fn.params.toList,Tryz.prog.readableRec t=true∧t<Tryz.prog.types.size) (hg:W.grownBy W' none):s.post enc Tryz.prog fn false true false false W args (.bool true) W':=by
  have hb:Below W.heap.size W W':=(Below.refl _ W).grown hg (Nat.le_refl _) (fun _ h=>by cases h)
  have hW':=hW
  obtain ⟨p,q,hA,hV,rfl,_,_⟩:=hW
  rw [hv] at hV
  obtain ⟨rfl,rfl⟩:=trodVars_none hV
  have hlt:∀ x∈p,x.block<W.heap.size:=fun x hx=>by simpa using hW'.lt x (List.mem_append_left _ hx)
  refine ⟨ds,[],_,[],p,[],hW',?_,?_,?_,hb.frame _,fun h=>by cases h⟩
  · rw [List.append_nil,hs,hr]
    exact trodAll_mk1 (shut_bool Tryz.underlying4 _)
  · rw [List.append_nil,ha]
    exact all_below hb ht hlt hA
  · rw [List.append_nil,hvs,hv]
    rfl
end Go.Pv.T

/- Data that come in, of whatever plain type, as the interpreter has them. -/
namespace Go.Pv.T
open Go Go.Pv Go.Proofs Go.ChangeShapes Go.WideShapes Go.ChangeAt Go.RowKit
inductive Ty where
 | bool
 | int (k:IntKind)
 | str
 | unit
 | pair (a b:Ty)
 | slice (t:Ty)
def Ty.cells:Ty→Nat
 | .unit=>0
 | .pair a b=>a.cells+b.cells
 | _=>1
inductive Sh:Ty→List V→Prop where
 | bool (b:Bool):Sh .bool [.bool b]
 | int (k:IntKind) (n:Int):Sh (.int k) [.int k n]
 | str (s:List UInt8):Sh .str [.str s]
 | unit:Sh .unit []
 | pair {a b:Ty} {va vb:List V} (ha:Sh a va) (hb:Sh b vb):Sh (.pair a b) (va++vb)
 | nil {t:Ty}:Sh (.slice t) [.sl none true 0 []]
 | slice {t:Ty} (es:List (List V)) (hn:es.length≤maxLen) (h:∀ e∈es,Sh t e):Sh (.slice t) [.sl none false es.length es.flatten]
def fieldsTy (P:Program) (g:TypeId→Option Ty):List Field→Nat→Option Ty
 | [],_=>some .unit
 | f::r,off=>if f.offset=off then (g f.type).bind fun a=>if P.cellsOf f.type=a.cells then (fieldsTy P g r (off+a.cells)).map (.pair a) else none else none
def tyOf (P:Program):Nat→TypeId→Option Ty
 | 0,_=>none
 | n+1,t=>match P.underlying t with
  | some .bool=>some .bool
  | some (.int k)=>some (.int k)
  | some .string=>some .str
  | some (.slice e)=>(tyOf P n e).bind fun ty=>if P.cellsOf e=ty.cells then some (.slice ty) else none
  | some (.struct fs)=>(fieldsTy P (tyOf P n) fs.toList 0).bind fun ty=>if P.cellsOf t=ty.cells then some ty else none
  | _=>none
theorem Sh.len {t:Ty} {vs:List V} (h:Sh t vs):vs.length=t.cells:=by
 induction h with
 | pair _ _ iha ihb=>simp [Ty.cells,iha,ihb]
 | _=>rfl
theorem Sh.pure {t:Ty} {vs:List V} (h:Sh t vs):∀ v∈vs,v.pureLeaf=true:=by
 induction h with
 | pair _ _ iha ihb=>intro v hv;rcases List.mem_append.1 hv with h | h;exact iha v h;exact ihb v h
 | unit=>intro v hv;cases hv
 | _=>intro v hv;rw [List.mem_singleton] at hv;subst hv;rfl
def Reps (I:IMap) (cs:List Value) (vs:List V):Prop:=cs.length=vs.length∧∀ (j:Nat) (x:Value) (v:V),cs[j]? = some x→vs[j]? = some v→RepP I x v
theorem Reps.one {I:IMap} {x:Value} {v:V} (h:RepP I x v):Reps I [x] [v] :=
 ⟨rfl,fun j y u hj hu=>by
  match j,hj,hu with
  | 0,hj,hu=>cases hj;cases hu;exact h
  | j+1,hj,_=>simp at hj⟩
theorem flat_get {α:Type} {sz:Nat} (hs:0<sz):∀ (es:List (List α)),(∀ e∈es,e.length=sz)→∀ j,es.flatten[j]? = (es[j / sz]?).bind fun e=>e[j % sz]?
 | [],_,j=>by simp
 | e::es,h,j=>by
  have he:=h e (List.mem_cons_self ..)
  rw [List.flatten_cons,List.getElem?_append,he]
  split
  ·rename_i hlt
   rw [Nat.div_eq_of_lt hlt,Nat.mod_eq_of_lt hlt]
   rfl
  ·rename_i hge
   have hj:j=(j - sz)+sz:=by omega
   rw [flat_get hs es (fun e he=>h e (List.mem_cons_of_mem _ he)) (j - sz)]
   conv=>rhs;rw [hj,Nat.add_div_right _ hs,Nat.add_mod_right]
   rfl
theorem flat_len {α:Type} {sz:Nat}:∀ (es:List (List α)),(∀ e∈es,e.length=sz)→es.flatten.length=es.length * sz
 | [],_=>by simp
 | e::es,h=>by
  rw [List.flatten_cons,List.length_append,h e (List.mem_cons_self ..),flat_len es (fun e he=>h e (List.mem_cons_of_mem _ he)),List.length_cons,Nat.succ_mul]
  omega
section
variable {H:Type} {enc:TypeId × Value→H} {W:World} {P:Program}
theorem pick_list {α:Type} {p:Nat→α→Prop}:∀ (n:Nat),(∀ i,i<n→∃ a,p i a)→∃ l:List α,l.length=n∧∀ i a,l[i]? = some a→p i a
 | 0,_=>⟨[],rfl,fun i a h=>by simp at h⟩
 | n+1,h=>by
  obtain ⟨l,h1,h2⟩:=pick_list n (fun i hi=>h i (by omega))
  obtain ⟨a,ha⟩:=h n (by omega)
  refine ⟨l++[a],by simp [h1],fun i b hb=>?_⟩
  rw [List.getElem?_append] at hb
  split at hb
  ·exact h2 i b hb
  ·rename_i hge
   have:i=n:=by
    have:=(List.getElem?_eq_some_iff.1 hb).1
    simp at this
    omega
   subst this
   simp [h1] at hb
   subst hb
   exact ha
theorem fields_rep {g:TypeId→Option Ty} {n:Nat} {cs:List Value} (ih:∀ t ty,g t=some ty→∀ cs x,DataW.trod enc P W 0 (fun _=>true) true n t cs=some x→∃ vs,Sh ty vs∧Reps (cellsI W) cs vs) :
 ∀ (fs:List Field) (off:Nat) (ty:Ty),fieldsTy P g fs off=some ty→(∀ f∈fs,∃ x,DataW.trod enc P W 0 (fun _=>true) true n f.type ((cs.drop f.offset).take (P.cellsOf f.type))=some x)→cs.length=off+ty.cells →
  ∃ vs,Sh ty vs∧Reps (cellsI W) (cs.drop off) vs
 | [],off,ty,h,_,hl=>by
  simp only [fieldsTy,Option.some.injEq] at h
  subst h
  simp only [Ty.cells,Nat.add_zero] at hl
  exact ⟨[],.unit,by simp [hl],fun j x v _ hv=>by simp at hv⟩
 | f::r,off,ty,h,hx,hl=>by
  simp only [fieldsTy] at h
  split at h
  ·rename_i hoff
   cases hg:g f.type with
   | none=>rw [hg] at h;cases h
   | some a =>
    rw [hg,Option.bind_some] at h
    split at h
    ·rename_i hc
     cases hr:fieldsTy P g r (off+a.cells) with
     | none=>rw [hr] at h;cases h
     | some b =>
      rw [hr] at h
      cases h
      simp only [Ty.cells] at hl
      obtain ⟨x,hx0⟩:=hx f (List.mem_cons_self ..)
      obtain ⟨va,ha,hra⟩:=ih f.type a hg _ _ hx0
      obtain ⟨vb,hb,hrb⟩:=fields_rep ih r (off+a.cells) b hr (fun f' hf=>hx f' (List.mem_cons_of_mem _ hf)) (by omega)
      refine ⟨va++vb,.pair ha hb,?_,fun j y u hj hu=>?_⟩
      ·have:=ha.len;have:=hb.len
       simp only [List.length_drop,List.length_append]
       omega
      ·rw [hoff,hc] at hra
       rw [List.getElem?_append] at hu
       rw [ha.len] at hu
       rw [List.getElem?_drop] at hj
       split at hu
       ·rename_i hlt
        exact hra.2 j y u (by rw [List.getElem?_take,if_pos hlt,List.getElem?_drop];exact hj) hu
       ·rename_i hge
        exact hrb.2 (j - a.cells) y u (by rw [List.getElem?_drop,show off+a.cells+(j - a.cells)=off+j from by omega];exact hj) hu
    ·cases h
  ·cases h
theorem rep_of:∀ (n:Nat) (t:TypeId) (ty:Ty),tyOf P n t=some ty→∀ (fuel:Nat) (cs:List Value) (x:DataW H × List MemPlace),DataW.trod enc P W 0 (fun _=>true) true fuel t cs=some x→∃ vs,Sh ty vs∧Reps (cellsI W) cs vs
 | 0,_,_,h,_,_,_,_=>by cases h
 | n+1,t,ty,h,fuel,cs,x,hx=>by
  simp only [tyOf] at h
  split at h
  ·rename_i ht
   cases h
   obtain ⟨b,rfl,_⟩:=DataW.trod_bool ht hx
   exact ⟨_,.bool b,Reps.one (.bool b)⟩
  ·rename_i k ht
   cases h
   obtain ⟨b,rfl,_⟩:=DataW.trod_int ht hx
   exact ⟨_,.int k b,Reps.one (.int k b)⟩
  ·rename_i ht
   cases h
   obtain ⟨s,rfl,_⟩:=DataW.trod_string ht hx
   exact ⟨_,.str s.data.toList,Reps.one (.str s)⟩
  ·rename_i e ht
   cases he:tyOf P n e with
   | none=>rw [he] at h;cases h
   | some te =>
    rw [he,Option.bind_some] at h
    split at h
    ·rename_i hc
     cases h
     rcases DataW.trod_slice ht hx with ⟨rfl,_⟩ | ⟨a,len,cap,elems,rest,m,_,rfl,_,_,hl,hm,hlen,hel,_,_⟩
     ·exact ⟨_,.nil,Reps.one .slnil⟩
     ·have each:∀ i,i<len→∃ vs,Sh te vs∧∃ c,W.cells? 0 (a.add (i * te.cells)) te.cells=some c∧Reps (cellsI W) c vs:=by
       intro i hi
       have h1:=hel i hi
       rw [List.getElem?_eq_getElem (by omega),hc] at h1
       obtain ⟨c,hc1,hc2⟩:=Option.bind_eq_some_iff.1 h1
       obtain ⟨vs,h3,h4⟩:=rep_of n e te he m c _ hc2
       exact ⟨vs,h3,c,hc1,h4⟩
      obtain ⟨es,h1,h2⟩:=pick_list len each
      have hsh:∀ e∈es,Sh te e:=fun e he=>by
       obtain ⟨i,hi⟩:=List.getElem?_of_mem he
       exact (h2 i e hi).1
      have hsz:∀ e∈es,e.length=te.cells:=fun e he=>(hsh e he).len
      have key:∀ (j:Nat) (v:V),es.flatten[j]? = some v→0<te.cells∧j / te.cells<len∧∃ y,W.cell? ((a.add (j / te.cells * te.cells)).add (j % te.cells))=some y∧RepP (cellsI W) y v∧v.pureLeaf=true:=by
       intro j v hj
       have h0:0<te.cells:=by
        rcases Nat.eq_zero_or_pos te.cells with h | h
        ·have:=flat_len es hsz
         rw [h,Nat.mul_zero] at this
         rw [List.length_eq_zero_iff.1 this] at hj
         simp at hj
        ·exact h
       rw [flat_get h0 es hsz] at hj
       cases hee:es[j / te.cells]? with
       | none=>rw [hee] at hj;cases hj
       | some e =>
        rw [hee,Option.bind_some] at hj
        have hlt:j / te.cells<len:=by rw [← h1];exact (List.getElem?_eq_some_iff.1 hee).1
        obtain ⟨hse,c,hcc,hrr⟩:=h2 _ e hee
        have hme:=Nat.mod_lt j h0
        have hcell:=(World.cells?_some hcc).2.2 _ hme
        have hclen:c.length=te.cells:=by rw [hrr.1,hse.len]
        rw [List.getElem?_eq_getElem (by omega)] at hcell
        exact ⟨h0,hlt,_,hcell,hrr.2 _ _ v (List.getElem?_eq_getElem (by omega)) hj,hse.pure v (List.mem_of_getElem? hj)⟩
      have spot:es.flatten≠[]→a.spot=none:=by
       intro hne
       obtain ⟨v,hv⟩:∃ v,es.flatten[0]? = some v:=by
        cases hf:es.flatten with
        | nil=>exact absurd hf hne
        | cons v l=>exact ⟨v,rfl⟩
       obtain ⟨h0,_,y,hy,_⟩:=key 0 v hv
       rw [Nat.zero_div,Nat.zero_mod,Nat.zero_mul] at hy
       simpa [Addr.add] using World.cell?_spot hy
      have cellAt:∀ (j:Nat) (v:V),es.flatten[j]? = some v→∃ y,W.cell? ⟨a.block,a.off+j,none⟩=some y∧RepP (cellsI W) y v:=by
       intro j v hj
       obtain ⟨h0,_,y,hy,hr,_⟩:=key j v hj
       have hs:=spot (fun h=>by rw [h] at hj;simp at hj)
       obtain ⟨b,off,sp⟩:=a
       simp only at hs
       subst hs
       rw [add_plain,add_plain] at hy
       refine ⟨y,?_,hr⟩
       rw [← hy,Nat.add_assoc,Nat.div_add_mod']
      rw [← h1] at hl
      refine ⟨_,.slice es (Nat.le_trans hl hm) hsh,Reps.one ?_⟩
      rw [h1] at hl ⊢
      refine RepP.sl a len cap es.flatten (fun j=>(W.cell? ⟨a.block,a.off+j,none⟩).getD .nilFunc) spot hl hm (fun j hj=>?_) (fun j v hj=>?_) (fun j v hj=>?_)
      ·obtain ⟨y,hy,_⟩:=cellAt j _ (List.getElem?_eq_getElem hj)
       show W.cell? _=some ((W.cell? _).getD _)
       rw [hy]
       rfl
      ·exact (key j v hj).2.2.choose_spec.2.2
      ·obtain ⟨y,hy,hr⟩:=cellAt j v hj
       show RepP _ ((W.cell? _).getD _) v
       rw [hy]
       exact hr
    ·cases h
  ·rename_i fs ht
   cases hf:fieldsTy P (tyOf P n) fs.toList 0 with
   | none=>rw [hf] at h;cases h
   | some b =>
    rw [hf,Option.bind_some] at h
    split at h
    ·rename_i hc
     cases h
     obtain ⟨xs,m,rfl,_,hl,hn,hel⟩:=DataW.trod_struct ht hx
     have:=fields_rep (n:=m) (cs:=cs) (fun t ty h cs x hx=>rep_of n t ty h m cs x hx) fs.toList 0 ty hf (fun f hfm=>by
      obtain ⟨i,hi⟩:=List.getElem?_of_mem hfm
      have hi':fs[i]? = some f:=by simpa using hi
      have h1:=hel i f hi'
      have hlt:i<xs.length:=by rw [hn];exact (Array.getElem?_eq_some_iff.1 hi').1
      rw [List.getElem?_eq_getElem hlt] at h1
      exact ⟨_,h1⟩) (by rw [Nat.zero_add,hl,hc])
     simpa using this
    ·cases h
  ·cases h
end
end Go.Pv.T

/- The laid variables read as the interpreter has them; a call that answers true. -/
namespace Go.Pv.T
open Go Go.Pv Go.Proofs Go.ChangeShapes Go.WideShapes Go.ChangeAt Go.RowKit Go.Proofs.YtphecmnehkdihaaGreatDoor

theorem arr2_rep {W:World} {t e:TypeId} {n fuel:Nat} {cs:List Value} {ds:List (DataW Unit)} {p:List MemPlace} {f0 f1:Field} {k0 k1:IntKind} (ht:Tryz.prog.underlying t=some (.array n e)) (hc:Tryz.prog.cellsOf e=2)
    (he:Tryz.prog.underlying e=some (.struct #[f0,f1])) (o0:f0.offset=0) (o1:f1.offset=1) (c0:Tryz.prog.cellsOf f0.type=1) (c1:Tryz.prog.cellsOf f1.type=1)
    (u0:Tryz.prog.underlying f0.type=some (.int k0)) (u1:Tryz.prog.underlying f1.type=some (.int k1)) (h:DataW.trod (fun _=>()) Tryz.prog W 0 (fun _=>true) false fuel t cs=some (.agg ds,p)) (I:IMap) :
    ∀ (j:Nat) (d:DataW Unit),(ds.map aggOf).flatten[j]? = some d→∃ x,cs[j]? = some x∧RepP I x (litV d):=by
  obtain ⟨xs,m,rfl,hx,hlen,hn,hel⟩:=DataW.trod_array ht h
  simp only [Prod.mk.injEq,DataW.agg.injEq] at hx
  have one:∀ (l:List Value) (j:Nat) c,(l.drop j).take 1=[c]→l[j]? = some c:=by
    intro l j c hcc
    have:=congrArg List.head? hcc
    simpa [List.head?_take,List.head?_drop] using this
  have each:∀ (j:Nat) (y:DataW Unit × List MemPlace),xs[j]? = some y→∃ d0 d1 x0 x1,y.1 = .agg [d0,d1]∧cs[j * 2]? = some x0∧RepP I x0 (litV d0)∧cs[j * 2+1]? = some x1∧RepP I x1 (litV d1):=by
    intro j y hy
    have hj:j<n:=by rw [← hn];exact (List.getElem?_eq_some_iff.1 hy).1
    have h2:=hel j hj
    rw [hc,hy] at h2
    obtain ⟨y0,y1,m',e1,hl2,g0,g1⟩:=trod_struct2 he h2
    rw [o0,c0] at g0
    rw [o1,c1] at g1
    obtain ⟨z0,a0,b0,_⟩:=DataW.trod_int u0 g0
    obtain ⟨z1,a1,b1,_⟩:=DataW.trod_int u1 g1
    have q0:=one _ _ _ a0
    have q1:=one _ _ _ a1
    rw [List.getElem?_take,if_pos (by omega),List.getElem?_drop] at q0 q1
    refine ⟨y0.1,y1.1,_,_,by rw [e1],by simpa using q0,?_,q1,?_⟩
    · rw [b0];exact RepP.int k0 z0
    · rw [b1];exact RepP.int k1 z1
  have hds:ds=xs.map (·.1):=hx.1
  have len2:∀ e∈ds.map aggOf,e.length=2:=by
    intro e he
    rw [hds,List.map_map] at he
    obtain ⟨y,hy,rfl⟩:=List.mem_map.1 he
    obtain ⟨j,hj⟩:=List.getElem?_of_mem hy
    obtain ⟨d0,d1,x0,x1,e,_⟩:=each j y hj
    simp only [Function.comp,e,aggOf,List.length_cons,List.length_nil]
  intro k d hd
  rw [flat_get (by decide) _ len2] at hd
  rw [hds,List.map_map,List.getElem?_map] at hd
  cases hy:xs[k / 2]? with
  | none=>rw [hy] at hd;cases hd
  | some y =>
    rw [hy] at hd
    obtain ⟨d0,d1,x0,x1,e,g0,r0,g1,r1⟩:=each _ y hy
    simp only [Option.map_some,Option.bind_some,Function.comp,e,aggOf] at hd
    rcases Nat.mod_two_eq_zero_or_one k with hk | hk
    · rw [hk] at hd
      cases hd
      rw [show k / 2 * 2=k from by omega] at g0
      exact ⟨x0,g0,r0⟩
    · rw [hk] at hd
      cases hd
      rw [show k / 2 * 2+1=k from by omega] at g1
      exact ⟨x1,g1,r1⟩

def accD:List (DataW Unit):=((aggOf Rows.laid_unicode_utf8_acceptRanges).map aggOf).flatten
theorem gAcc:Tryz.prog.globalNamed "unicode/utf8.acceptRanges" = some 3:=by kernel_rfl
theorem acc_eq:accD.map litV=accR:=by kernel_rfl
theorem acc_agg:Rows.laid_unicode_utf8_acceptRanges = .agg (aggOf Rows.laid_unicode_utf8_acceptRanges):=by kernel_rfl
theorem acc_pure:(accD.map litV).all V.pureLeaf=true:=by kernel_rfl
theorem tAcc:(Tryz.prog.globals[3]?).map (·.type)=some 322:=by kernel_rfl

theorem glOk {W:World} (h:laidMetH Tryz.prog laidL W):GlOk E (cellsI W):=by
  rw [MakeChecks.laidMetH_plain _ _ _ (by kernel_rfl)] at h
  obtain ⟨ps,⟨g2,t2,cs2,f2,p2,q2,hg2,ht2,hv2,hd2,⟨g0,t0,cs0,f0,p0,q0,hg0,ht0,hv0,hd0,⟨g1,t1,cs1,f1,p1,q1,hg1,ht1,hv1,hd1,_,_⟩,_⟩,_⟩,_,_⟩:=h
  obtain rfl:=Option.some.inj (gWords.symm.trans hg0)
  obtain rfl:=Option.some.inj (gFirst.symm.trans hg1)
  obtain rfl:=Option.some.inj (tWords.symm.trans ht0)
  obtain rfl:=Option.some.inj (tFirst.symm.trans ht1)
  obtain rfl:=Option.some.inj (gAcc.symm.trans hg2)
  obtain rfl:=Option.some.inj (tAcc.symm.trans ht2)
  intro g cs hcs
  simp only [E] at hcs
  split at hcs
  · cases hcs
    rw [← words_eq]
    exact gl_rep gWords hv0 words_pure (arr_rep Tryz.underlying300 (by kernel_rfl) (Or.inl (by kernel_rfl)) hd0 _)
  · cases hcs
    rw [← first_eq]
    rw [first_agg] at hd1
    exact gl_rep gFirst hv1 first_pure (arr_rep Tryz.underlying319 (by kernel_rfl) (Or.inr ⟨.u8,by kernel_rfl⟩) hd1 _)
  · cases hcs
    rw [← acc_eq]
    rw [acc_agg] at hd2
    exact gl_rep gAcc hv2 acc_pure (arr2_rep (k0:=.u8) (k1:=.u8) Tryz.underlying322 (by kernel_rfl) Tryz.underlying321 rfl rfl (by kernel_rfl) (by kernel_rfl) (by kernel_rfl) (by kernel_rfl) hd2 _)
  · cases hcs


theorem calls_true {f:FuncId} {W:World} {args:Array Value} {vs:List V} (hL:laidMetH Tryz.prog laidL W) (hlen:args.size=vs.length) (hr:∀ (j:Nat) (x:Value) (v:V),args[j]? = some x→vs[j]? = some v→RepP (cellsI W) x v)
    (he:Ev E f vs (.bool true)):Calls Tryz.prog f args W fun e w'=>e = .returned (.bool true)∧W.grownBy w' none:=by
  refine (Ev.sound mixed envOk he W (cellsI W) args (cellsI_ok W) (glOk hL) hlen hr).mono fun e W' ⟨x,τ,I',h1,h2,_,_,_,h3,_⟩=>⟨?_,h2⟩
  rw [h1]
  have h4:RepP I' x (.bool true):=h3
  cases h4
  rfl
end Go.Pv.T

/- Histories and other arguments that come in. -/
namespace Go.Pv.T
open Go Go.Pv Go.Proofs Go.ChangeShapes Go.WideShapes Go.ChangeAt Go.RowKit Go.Proofs.YtphecmnehkdihaaGreatDoor
abbrev valTy:Ty:=.pair (.int .i64) (.pair (.int .i64) .unit)
abbrev opTy:Ty:=.pair .bool (.pair (.int .i64) (.pair valTy .unit))
abbrev txnTy:Ty:=.pair (.int .i64) (.pair (.int .i64) (.pair (.slice opTy) .unit))
abbrev histTy:Ty:=.pair (.slice .str) (.pair (.slice .str) (.pair (.slice txnTy) .unit))
theorem sh_slice {α:Type} {t:Ty} {f:α→List V} (hf:∀ e,Sh t e→∃ a,e=f a) {vs:List V} (h:Sh (.slice t) vs):∃ nl l,vs=[slOf nl f l]:=by
 cases h with
 | nil=>exact ⟨true,[],rfl⟩
 | slice es hn h =>
  have all:∀ es:List (List V),(∀ e∈es,Sh t e)→∃ l:List α,es=l.map f:=by
   intro es
   induction es with
   | nil=>intro _;exact ⟨[],rfl⟩
   | cons e es ih =>
    intro h
    obtain ⟨a,rfl⟩:=hf e (h e (List.mem_cons_self ..))
    obtain ⟨l,rfl⟩:=ih (fun e he=>h e (List.mem_cons_of_mem _ he))
    exact ⟨a::l,rfl⟩
  obtain ⟨l,rfl⟩:=all es h
  exact ⟨false,l,by simp [slOf,List.flatMap]⟩
theorem sh_val {vs:List V} (h:Sh valTy vs):∃ v:Val',vs=valC v:=by
 cases h with
 | pair ha hb=>cases ha with
  | int _ k=>cases hb with
   | pair hc hd=>cases hc with
    | int _ n=>cases hd;exact ⟨⟨k,n⟩,rfl⟩
theorem sh_op {vs:List V} (h:Sh opTy vs):∃ o:Op',vs=opC o:=by
 cases h with
 | pair ha hb=>cases ha with
  | bool w=>cases hb with
   | pair hc hd=>cases hc with
    | int _ k=>cases hd with
     | pair he hf =>
      obtain ⟨v,rfl⟩:=sh_val he
      cases hf
      exact ⟨⟨w,k,v⟩,rfl⟩
theorem sh_txn {vs:List V} (h:Sh txnTy vs):∃ t:Txn',vs=txnC t:=by
 cases h with
 | pair ha hb=>cases ha with
  | int _ s=>cases hb with
   | pair hc hd=>cases hc with
    | int _ f=>cases hd with
     | pair he hf =>
      obtain ⟨nl,l,rfl⟩:=sh_slice (f:=opC) (fun e=>sh_op) he
      cases hf
      exact ⟨⟨s,f,nl,l⟩,rfl⟩
theorem sh_str {vs:List V} (h:Sh .str vs):∃ s:List UInt8,vs=strC s:=by
 cases h with
 | str s=>exact ⟨s,rfl⟩
theorem sh_hist {vs:List V} (h:Sh histTy vs):∃ g:Hist',vs=histC g:=by
 cases h with
 | pair ha hb=>cases hb with
  | pair hc hd=>cases hd with
   | pair he hf =>
    obtain ⟨n0,l0,rfl⟩:=sh_slice (f:=strC) (fun e=>sh_str) ha
    obtain ⟨n1,l1,rfl⟩:=sh_slice (f:=strC) (fun e=>sh_str) hc
    obtain ⟨n2,l2,rfl⟩:=sh_slice (f:=txnC) (fun e=>sh_txn) he
    cases hf
    exact ⟨⟨n0,l0,n1,l1,n2,l2⟩,rfl⟩
theorem leaf_of_pure {v:V} (h:v.pureLeaf=true):v.leaf=true:=by cases v <;> first | rfl | cases h
section
variable {H:Type} {enc:TypeId × Value→H} {W:World} {v:Value} {d:DataW H} {p:List MemPlace} {base:Nat}
set_option maxRecDepth 100000 in
theorem struct_arg {t:TypeId} {fs:Array Field} {n:Nat} {ty:Ty} (ht:Tryz.prog.underlying t=some (.struct fs)) (hty:tyOf Tryz.prog n t=some ty) (hval:Value.okWide Tryz.prog W .any base t v)
 (h:DataW.Trod enc Tryz.prog W 0 (fun _=>true) true t v d p):∃ vs,Sh ty vs∧RepP (cellsI W) v (.agg vs):=by
 obtain ⟨cs,rfl,_⟩:=okWide_struct ht hval
 obtain ⟨fuel,hf⟩:=h
 obtain ⟨vs,hs,hr⟩:=rep_of n t ty hty fuel _ _ hf
 refine ⟨vs,hs,RepP.agg cs vs (by simpa [Value.cells] using hr.1) (fun j v hj=>leaf_of_pure (hs.pure v (List.mem_of_getElem? hj))) (fun j x v hx hv=>hr.2 j x v (by simpa [Value.cells] using hx) hv)⟩
set_option maxRecDepth 100000 in
theorem cell_arg {t:TypeId} {n:Nat} {ty:Ty} (hc:v.cells.toList=[v]) (hty:tyOf Tryz.prog n t=some ty)
 (h:DataW.Trod enc Tryz.prog W 0 (fun _=>true) true t v d p):∃ vs,Sh ty vs∧Reps (cellsI W) [v] vs:=by
 obtain ⟨fuel,hf⟩:=h
 rw [hc] at hf
 exact rep_of n t ty hty fuel _ _ hf
theorem read_ok (ts:List TypeId) (h:(ts.all fun t=>Tryz.prog.readableRec t && decide (t<Tryz.prog.types.size))=true) (t:TypeId) (ht:t∈ts):Tryz.prog.readableRec t=true∧t<Tryz.prog.types.size:=by
 have:=List.all_eq_true.1 h t ht
 simpa using this
set_option maxRecDepth 100000 in
theorem hist_arg (hval:Value.okWide Tryz.prog W .any base 25 v) (h:DataW.Trod enc Tryz.prog W 0 (fun _=>true) true 25 v d p):∃ g:Hist',RepP (cellsI W) v (.agg (histC g)):=by
 obtain ⟨vs,hs,hr⟩:=struct_arg (n:=8) (ty:=histTy) Tryz.underlying25 (by kernel_rfl) hval h
 obtain ⟨g,rfl⟩:=sh_hist hs
 exact ⟨g,hr⟩
set_option maxRecDepth 100000 in
theorem ints_arg (hval:Value.okWide Tryz.prog W .any base 26 v) (h:DataW.Trod enc Tryz.prog W 0 (fun _=>true) true 26 v d p):∃ (nl:Bool) (l:List Int),RepP (cellsI W) v (slOf nl intC l):=by
 obtain ⟨a0,len,cap,rfl⟩:=okWide_slice Tryz.underlying26 hval
 obtain ⟨vs,hs,hr⟩:=cell_arg (n:=4) (ty:=.slice (.int .i64)) rfl (by kernel_rfl) h
 obtain ⟨nl,l,rfl⟩:=sh_slice (f:=intC) (fun e he=>by cases he with | int _ k=>exact ⟨k,rfl⟩) hs
 exact ⟨nl,l,hr.2 0 _ _ rfl rfl⟩
end
end Go.Pv.T
