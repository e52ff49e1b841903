/- The environment is what the program's code says. -/
import Derived.Test.YtphecmnehkdihaaGreatDoorOF
import Derived.Test.YtphecmnehkdihaaGreatDoorRows
import Derived.Test.YtphecmnehkdihaaGreatDoorTie
import Derived.ProofKit
import Derived.LaidMore
import Derived.OpenShut
import Derived.Stop.Joined
import Derived.SizedLaws
import Derived.Carry
import Derived.Handed
import Derived.ChangeSame
set_option maxRecDepth 100000
namespace Go.Pv.T
open Go Go.Pv Go.Proofs
abbrev Jzz:=jY Tryz.prog false
theorem j3 {P:Program} {r:Bool} {f:FuncId} {fn:Func} {af:AF} (h1:P.funcs[f]? = some fn) (m:Bool:=false) (h2:j3z P m r fn=some af:=by kernel_rfl) (h3:(fn.name == "runtime.NumGoroutine")=false:=by kernel_rfl) (h4:af.body.dstOk fn.ntmps=true:=by kernel_rfl):jY P r f af:=by
  unfold j3z at h2
  cases hb:fn.body with
  | none=>rw[hb]at h2;cases h2
  | some c=>
    rw[hb,Option.bind_some]at h2
    cases hc:comp P m r c with
    | none=>rw[hc]at h2;cases h2
    | some b=>
      rw[hc,Option.bind_some]at h2
      cases hr:fn.results.toList.mapM (YY P) with
      | none=>rw[hr]at h2;cases h2
      | some res=>
        rw[hr]at h2
        cases h2
        exact⟨m,fn,c,h1,hb,hc,hr,h3,h4⟩
theorem j7d:Jzz 304 F304:=j3 Tryz.func304
theorem j7c:Jzz 307 F307:=j3 Tryz.func307
theorem j7b:Jzz 320 F320:=j3 Tryz.func320
theorem j8r:Jzz 172 F172:=j3 Tryz.func172
theorem j8q:Jzz 173 F173:=j3 Tryz.func173
theorem j8p:Jzz 174 F174:=j3 Tryz.func174
theorem j8o:Jzz 175 F175:=j3 Tryz.func175
theorem j8n:Jzz 176 F176:=j3 Tryz.func176
theorem j8m:Jzz 177 F177:=j3 Tryz.func177
theorem j8l:Jzz 188 F188:=j3 Tryz.func188
theorem j8k:Jzz 189 F189:=j3 Tryz.func189
theorem j8j:Jzz 190 F190:=j3 Tryz.func190
theorem j8i:Jzz 212 F212:=j3 Tryz.func212
theorem j8h:Jzz 214 F214:=j3 Tryz.func214
theorem j8g:Jzz 216 F216:=j3 Tryz.func216
theorem j8f:Jzz 217 F217:=j3 (m:=true) Tryz.func217
theorem j8e:Jzz 223 F223:=j3 Tryz.func223
theorem j8d:Jzz 224 F224:=j3 Tryz.func224
theorem j8c:Jzz 225 F225:=j3 Tryz.func225
theorem j8b:Jzz 226 F226:=j3 Tryz.func226
theorem j8a:Jzz 227 F227:=j3 Tryz.func227
theorem j79:Jzz 228 F228:=j3 Tryz.func228
theorem j78:Jzz 229 F229:=j3 Tryz.func229
theorem j77:Jzz 230 F230:=j3 Tryz.func230
theorem j76:Jzz 233 F233:=j3 Tryz.func233
theorem j75:Jzz 234 F234:=j3 Tryz.func234
theorem j74:Jzz 235 F235:=j3 Tryz.func235
theorem j73:Jzz 236 F236:=j3 Tryz.func236
theorem j72:Jzz 251 F251:=j3 Tryz.func251
theorem j71:Jzz 252 F252:=j3 Tryz.func252
theorem j70:Jzz 253 F253:=j3 Tryz.func253
theorem j7z:Jzz 254 F254:=j3 Tryz.func254
theorem j7y:Jzz 258 F258:=j3 Tryz.func258
theorem j7x:Jzz 259 F259:=j3 Tryz.func259
theorem j7w:Jzz 261 F261:=j3 Tryz.func261
theorem j7v:Jzz 262 F262:=j3 Tryz.func262
theorem j7u:Jzz 263 F263:=j3 Tryz.func263
theorem j7t:Jzz 264 F264:=j3 Tryz.func264
theorem j7s:Jzz 265 F265:=j3 Tryz.func265
theorem j7r:Jzz 266 F266:=j3 Tryz.func266
theorem j7q:Jzz 267 F267:=j3 Tryz.func267
theorem j7p:Jzz 268 F268:=j3 Tryz.func268
theorem j7o:Jzz 269 F269:=j3 Tryz.func269
theorem j7n:Jzz 273 F273:=j3 Tryz.func273
theorem j7m:Jzz 280 F280:=j3 Tryz.func280
theorem j7l:Jzz 281 F281:=j3 Tryz.func281
theorem j7k:Jzz 284 F284:=j3 Tryz.func284
theorem j7j:Jzz 285 F285:=j3 Tryz.func285
theorem j7i:Jzz 286 F286:=j3 Tryz.func286
theorem j7h:Jzz 288 F288:=j3 Tryz.func288
theorem j7g:Jzz 289 F289:=j3 Tryz.func289
theorem j7f:Jzz 293 F293:=j3 Tryz.func293
theorem j7e:Jzz 300 F300:=j3 Tryz.func300
theorem okc9:Jzz 9 F9:=j3 Tryz.func9
theorem okc15:Jzz 15 F15:=j3 (m:=true) Tryz.func15
theorem okc21:Jzz 21 F21:=j3 Tryz.func21
theorem okc22:Jzz 22 F22:=j3 Tryz.func22
theorem okc25:Jzz 25 F25:=j3 Tryz.func25
theorem okc31:Jzz 31 F31:=j3 Tryz.func31
theorem okc32:Jzz 32 F32:=j3 Tryz.func32
theorem okc34:Jzz 34 F34:=j3 (m:=true) Tryz.func34
theorem okc35:Jzz 35 F35:=j3 (m:=true) Tryz.func35
theorem okc36:Jzz 36 F36:=j3 Tryz.func36
theorem okc37:Jzz 37 F37:=j3 (m:=true) Tryz.func37
theorem okc39:Jzz 39 F39:=j3 Tryz.func39
theorem okc52:Jzz 52 F52:=j3 Tryz.func52
theorem okc53:Jzz 53 F53:=j3 Tryz.func53
theorem okc57:Jzz 57 F57:=j3 Tryz.func57
theorem okc58:Jzz 58 F58:=j3 (m:=true) Tryz.func58
theorem okc59:Jzz 59 F59:=j3 Tryz.func59
theorem okc60:Jzz 60 F60:=j3 Tryz.func60
theorem okc61:Jzz 61 F61:=j3 Tryz.func61
theorem okc62:Jzz 62 F62:=j3 Tryz.func62
theorem okc71:Jzz 71 F71:=j3 Tryz.func71
theorem okc74:Jzz 74 F74:=j3 Tryz.func74
theorem okc80:Jzz 80 F80:=j3 Tryz.func80
theorem okc84:Jzz 84 F84:=j3 Tryz.func84
theorem okc86:Jzz 86 F86:=j3 Tryz.func86
theorem j9g:Jzz 103 F103:=j3 Tryz.func103
theorem j9f:Jzz 104 F104:=j3 Tryz.func104
theorem j9e:Jzz 105 F105:=j3 Tryz.func105
theorem j9d:Jzz 106 F106:=j3 (m:=true) Tryz.func106
theorem j9c:Jzz 108 F108:=j3 Tryz.func108
theorem j9b:Jzz 109 F109:=j3 (m:=true) Tryz.func109
theorem j9a:Jzz 110 F110:=j3 Tryz.func110
theorem j89:Jzz 112 F112:=j3 Tryz.func112
theorem j88:Jzz 116 F116:=j3 Tryz.func116
theorem j87:Jzz 118 F118:=j3 Tryz.func118
theorem j86:Jzz 120 F120:=j3 Tryz.func120
theorem j85:Jzz 121 F121:=j3 Tryz.func121
theorem j84:Jzz 127 F127:=j3 Tryz.func127
theorem j83:Jzz 135 F135:=j3 Tryz.func135
theorem j82:Jzz 136 F136:=j3 Tryz.func136
theorem j81:Jzz 152 F152:=j3 Tryz.func152
theorem j80:Jzz 155 F155:=j3 Tryz.func155
theorem j8z:Jzz 157 F157:=j3 Tryz.func157
theorem j8y:Jzz 158 F158:=j3 Tryz.func158
theorem j8x:Jzz 159 F159:=j3 Tryz.func159
theorem j8w:Jzz 160 F160:=j3 Tryz.func160
theorem j8v:Jzz 161 F161:=j3 Tryz.func161
theorem j8u:Jzz 166 F166:=j3 Tryz.func166
theorem j8t:Jzz 167 F167:=j3 Tryz.func167
theorem j8s:Jzz 170 F170:=j3 Tryz.func170
theorem fc_2Ok {f:FuncId}{af:AF}(h:fc_2 f=some af):Jzz f af:=by
  unfold fc_2 at h
  split at h
  · cases h;exact j7d
  · cases h;exact j7c
  · cases h;exact j7b
  · cases h
theorem fc_1Ok {f:FuncId}{af:AF}(h:fc_1 f=some af):Jzz f af:=by
  unfold fc_1 at h
  split at h
  · cases h;exact j8r
  · cases h;exact j8q
  · cases h;exact j8p
  · cases h;exact j8o
  · cases h;exact j8n
  · cases h;exact j8m
  · cases h;exact j8l
  · cases h;exact j8k
  · cases h;exact j8j
  · cases h;exact j8i
  · cases h;exact j8h
  · cases h;exact j8g
  · cases h;exact j8f
  · cases h;exact j8e
  · cases h;exact j8d
  · cases h;exact j8c
  · cases h;exact j8b
  · cases h;exact j8a
  · cases h;exact j79
  · cases h;exact j78
  · cases h;exact j77
  · cases h;exact j76
  · cases h;exact j75
  · cases h;exact j74
  · cases h;exact j73
  · cases h;exact j72
  · cases h;exact j71
  · cases h;exact j70
  · cases h;exact j7z
  · cases h;exact j7y
  · cases h;exact j7x
  · cases h;exact j7w
  · cases h;exact j7v
  · cases h;exact j7u
  · cases h;exact j7t
  · cases h;exact j7s
  · cases h;exact j7r
  · cases h;exact j7q
  · cases h;exact j7p
  · cases h;exact j7o
  · cases h;exact j7n
  · cases h;exact j7m
  · cases h;exact j7l
  · cases h;exact j7k
  · cases h;exact j7j
  · cases h;exact j7i
  · cases h;exact j7h
  · cases h;exact j7g
  · cases h;exact j7f
  · cases h;exact j7e
  · exact fc_2Ok h
theorem fcOk {f:FuncId}{af:AF}(h:fc f=some af):Jzz f af:=by
  unfold fc at h
  split at h
  · cases h;exact okc9
  · cases h;exact okc15
  · cases h;exact okc21
  · cases h;exact okc22
  · cases h;exact okc25
  · cases h;exact okc31
  · cases h;exact okc32
  · cases h;exact okc34
  · cases h;exact okc35
  · cases h;exact okc36
  · cases h;exact okc37
  · cases h;exact okc39
  · cases h;exact okc52
  · cases h;exact okc53
  · cases h;exact okc57
  · cases h;exact okc58
  · cases h;exact okc59
  · cases h;exact okc60
  · cases h;exact okc61
  · cases h;exact okc62
  · cases h;exact okc71
  · cases h;exact okc74
  · cases h;exact okc80
  · cases h;exact okc84
  · cases h;exact okc86
  · cases h;exact j9g
  · cases h;exact j9f
  · cases h;exact j9e
  · cases h;exact j9d
  · cases h;exact j9c
  · cases h;exact j9b
  · cases h;exact j9a
  · cases h;exact j89
  · cases h;exact j88
  · cases h;exact j87
  · cases h;exact j86
  · cases h;exact j85
  · cases h;exact j84
  · cases h;exact j83
  · cases h;exact j82
  · cases h;exact j81
  · cases h;exact j80
  · cases h;exact j8z
  · cases h;exact j8y
  · cases h;exact j8x
  · cases h;exact j8w
  · cases h;exact j8v
  · cases h;exact j8u
  · cases h;exact j8t
  · cases h;exact j8s
  · exact fc_1Ok h
theorem oks25:jY Tryz.prog true 25 S25:=j3 (m:=true) Tryz.func25
theorem oks51:jY Tryz.prog true 51 S51:=j3 (m:=true) Tryz.func51
theorem oks76:jY Tryz.prog true 76 S76:=j3 (m:=true) Tryz.func76
theorem oks77:jY Tryz.prog true 77 S77:=j3 (m:=true) Tryz.func77
theorem oks78:jY Tryz.prog true 78 S78:=j3 (m:=true) Tryz.func78
theorem oks79:jY Tryz.prog true 79 S79:=j3 (m:=true) Tryz.func79
theorem oks81:jY Tryz.prog true 81 S81:=j3 (m:=true) Tryz.func81
theorem oks82:jY Tryz.prog true 82 S82:=j3 (m:=true) Tryz.func82
theorem oks83:jY Tryz.prog true 83 S83:=j3 (m:=true) Tryz.func83
theorem j7a:jY Tryz.prog true 111 S111:=j3 (m:=true) Tryz.func111
theorem j69:jY Tryz.prog true 123 S123:=j3 (m:=true) Tryz.func123
theorem j68:jY Tryz.prog true 124 S124:=j3 (m:=true) Tryz.func124
theorem j67:jY Tryz.prog true 125 S125:=j3 (m:=true) Tryz.func125
theorem j66:jY Tryz.prog true 126 S126:=j3 (m:=true) Tryz.func126
theorem j65:jY Tryz.prog true 128 S128:=j3 (m:=true) Tryz.func128
theorem j64:jY Tryz.prog true 129 S129:=j3 (m:=true) Tryz.func129
theorem j63:jY Tryz.prog true 130 S130:=j3 (m:=true) Tryz.func130
theorem j62:jY Tryz.prog true 131 S131:=j3 (m:=true) Tryz.func131
theorem j61:jY Tryz.prog true 132 S132:=j3 (m:=true) Tryz.func132
theorem j60:jY Tryz.prog true 133 S133:=j3 (m:=true) Tryz.func133
theorem j6z:jY Tryz.prog true 134 S134:=j3 (m:=true) Tryz.func134
theorem j6y:jY Tryz.prog true 147 S147:=j3 (m:=true) Tryz.func147
theorem j6x:jY Tryz.prog true 153 S153:=j3 (m:=true) Tryz.func153
theorem j6w:jY Tryz.prog true 154 S154:=j3 (m:=true) Tryz.func154
theorem j6v:jY Tryz.prog true 156 S156:=j3 (m:=true) Tryz.func156
theorem j6u:jY Tryz.prog true 168 S168:=j3 (m:=true) Tryz.func168
theorem j6t:jY Tryz.prog true 169 S169:=j3 (m:=true) Tryz.func169
theorem j6s:jY Tryz.prog true 171 S171:=j3 (m:=true) Tryz.func171
theorem j6r:jY Tryz.prog true 191 S191:=j3 (m:=true) Tryz.func191
theorem j6q:jY Tryz.prog true 213 S213:=j3 (m:=true) Tryz.func213
theorem j6p:jY Tryz.prog true 215 S215:=j3 (m:=true) Tryz.func215
theorem j6o:jY Tryz.prog true 231 S231:=j3 (m:=true) Tryz.func231
theorem j6n:jY Tryz.prog true 232 S232:=j3 (m:=true) Tryz.func232
theorem j6m:jY Tryz.prog true 237 S237:=j3 (m:=true) Tryz.func237
theorem j6l:jY Tryz.prog true 255 S255:=j3 (m:=true) Tryz.func255
theorem j6k:jY Tryz.prog true 270 S270:=j3 (m:=true) Tryz.func270
theorem j6j:jY Tryz.prog true 271 S271:=j3 (m:=true) Tryz.func271
theorem j6i:jY Tryz.prog true 272 S272:=j3 (m:=true) Tryz.func272
theorem j6h:jY Tryz.prog true 274 S274:=j3 (m:=true) Tryz.func274
theorem j6g:jY Tryz.prog true 291 S291:=j3 (m:=true) Tryz.func291
theorem j6f:jY Tryz.prog true 292 S292:=j3 (m:=true) Tryz.func292
theorem j6e:jY Tryz.prog true 294 S294:=j3 (m:=true) Tryz.func294
theorem j6d:jY Tryz.prog true 295 S295:=j3 (m:=true) Tryz.func295
theorem j6c:jY Tryz.prog true 296 S296:=j3 (m:=true) Tryz.func296
theorem j6b:jY Tryz.prog true 303 S303:=j3 (m:=true) Tryz.func303
theorem j6a:jY Tryz.prog true 305 S305:=j3 (m:=true) Tryz.func305
theorem j59:jY Tryz.prog true 312 S312:=j3 (m:=true) Tryz.func312
theorem fsOk {f:FuncId}{af:AF}(h:fs f=some af):jY Tryz.prog true f af:=by
  unfold fs at h
  split at h
  · cases h;exact oks25
  · cases h;exact oks51
  · cases h;exact oks76
  · cases h;exact oks77
  · cases h;exact oks78
  · cases h;exact oks79
  · cases h;exact oks81
  · cases h;exact oks82
  · cases h;exact oks83
  · cases h;exact j7a
  · cases h;exact j69
  · cases h;exact j68
  · cases h;exact j67
  · cases h;exact j66
  · cases h;exact j65
  · cases h;exact j64
  · cases h;exact j63
  · cases h;exact j62
  · cases h;exact j61
  · cases h;exact j60
  · cases h;exact j6z
  · cases h;exact j6y
  · cases h;exact j6x
  · cases h;exact j6w
  · cases h;exact j6v
  · cases h;exact j6u
  · cases h;exact j6t
  · cases h;exact j6s
  · cases h;exact j6r
  · cases h;exact j6q
  · cases h;exact j6p
  · cases h;exact j6o
  · cases h;exact j6n
  · cases h;exact j6m
  · cases h;exact j6l
  · cases h;exact j6k
  · cases h;exact j6j
  · cases h;exact j6i
  · cases h;exact j6h
  · cases h;exact j6g
  · cases h;exact j6f
  · cases h;exact j6e
  · cases h;exact j6d
  · cases h;exact j6c
  · cases h;exact j6b
  · cases h;exact j6a
  · cases h;exact j59
  · cases h
theorem envOk:EnvOk Tryz.prog E:=⟨fun _ _ h=>fcOk h,fun _ _ h=>fsOk h,fun f h=>by
  have e:f=69:=by simpa[E,srl] using h
  subst e;exact jrk,fun f cs h=>by
  simp only[E]at h
  split at h
  · cases h;exact mkLaw
  · cases h⟩
end Go.Pv.T
namespace Go.Pv.T
open Go Go.Pv Go.Proofs Go.ChangeShapes Go.WideShapes Go.ChangeAt Go.RowKit Go.Proofs.YtphecmnehkdihaaGreatDoor
theorem own:ownKnob Tryz.prog.godebug=none:=by kernel_rfl
theorem jts:laidOutB Tryz.prog=true:=by kernel_rfl
theorem mixed:Tryz.prog.follows .mixedOrders=true:=by kernel_rfl
def jpv:List (String × DataW Unit):=[("math/bits.deBruijn64tab",Rows.laid_math_bits_deBruijn64tab),("unicode/utf8.acceptRanges",Rows.laid_unicode_utf8_acceptRanges),("deemster/event.words",Rows.laid_deemster_event_words),("unicode/utf8.first",Rows.laid_unicode_utf8_first)]
def jtn:V→Value
  | .int k n=>.int k n
  | .str s=>.string ⟨s.toArray⟩
  | _=>.nilFunc
def putCells (h:Array Obj) (g:Nat) (cs:Array Value):Array Obj:=h.modify g fun
    | .cells _ t frozen=>.cells cs t frozen
    | o=>o
def jmj:Array Value:=#[.int .u8 128,.int .u8 191,.int .u8 160,.int .u8 191,.int .u8 128,.int .u8 159,.int .u8 144,.int .u8 191,.int .u8 128,.int .u8 143,.int .u8 0,.int .u8 0,.int .u8 0,.int .u8 0,.int .u8 0,.int .u8 0,.int .u8 0,.int .u8 0,.int .u8 0,.int .u8 0,.int .u8 0,.int .u8 0,.int .u8 0,.int .u8 0,.int .u8 0,.int .u8 0,.int .u8 0,.int .u8 0,.int .u8 0,.int .u8 0,.int .u8 0,.int .u8 0]
noncomputable def laidWorld (os:Os):World :=
  let w0:=World.holding Tryz.prog os ⟨#[],#[],[]⟩
  { w0 with heap:=putCells (putCells (putCells (putCells w0.heap 0 (bruij.map jtn).toArray) 1 (words.map jtn).toArray) 2 (utf8first.map jtn).toArray) 3 jmj }
theorem jy0 (os:Os) (args:Array Value):laidMetH Tryz.prog jpv ((laidWorld os).forCall (fun _ _=>0) ⟨#[],args,[]⟩).memory:=by
  rw[MakeChecks.laidMetH_plain _ _ _ (by kernel_rfl)]
  exact laidMet_of_run' 8 (by kernel_rfl) (by kernel_rfl)
theorem gWords:Tryz.prog.globalNamed "deemster/event.words" = some 1:=by kernel_rfl
theorem gFirst:Tryz.prog.globalNamed "unicode/utf8.first" = some 2:=by kernel_rfl
theorem gBruij:Tryz.prog.globalNamed "math/bits.deBruijn64tab" = some 0:=by kernel_rfl
theorem tBruij:(Tryz.prog.globals[0]?).map (·.type)=some 281:=by kernel_rfl
theorem tWords:(Tryz.prog.globals[1]?).map (·.type)=some 300:=by kernel_rfl
theorem tFirst:(Tryz.prog.globals[2]?).map (·.type)=some 319:=by kernel_rfl
def Y4 (W:World):IMap:=fun b o=>W.cell? ⟨b,o,none⟩
theorem ju0 (W:World):jkk (Y4 W) W:=fun _ _ _ h=>h
def jkn:DataW Unit→V
  | .lit (.int k n)=>.int k n
  | .lit (.string s)=>.str s
  | _=>.undef
theorem jmc     {W:World} {t e:TypeId} {n fuel:Nat} {cs:List Value} {ds:List (DataW Unit)} {p:List MemPlace} (ht:Tryz.prog.underlying t=some (.array n e)) (hc:Tryz.prog.cellsOf e=1)
    (he:Tryz.prog.underlying e=some .string∨∃k,Tryz.prog.underlying e=some (.int k)) (h:DataW.trod (fun _=>()) Tryz.prog W 0 (fun _=>true) false fuel t cs=some (.agg ds,p)) (I:IMap) :
    ∀ (j:Nat) (d:DataW Unit),ds[j]? = some d→∃x,cs[j]? = some x∧RepP I x (jkn d):=by
  obtain⟨xs,m,rfl,hx,hlen,hn,hel⟩:=DataW.trod_array ht h
  intro j d hd
  simp only[Prod.mk.injEq,DataW.agg.injEq]at hx
  rw[hx.1,List.getElem?_map]at hd
  cases hy:xs[j]? with
  | none=>simp[hy]at hd
  | some y=>
    rw[hy]at hd
    simp only[Option.map_some,Option.some.injEq]at hd
    have hj:j<n:=by rw[← hn];exact(List.getElem?_eq_some_iff.1 hy).1
    have:=hel j hj
    rw[hc,Nat.mul_one,hy]at this
    have one:∀c,(cs.drop j).take 1=[c]→cs[j]? = some c:=by
      intro c hcc
      have:=congrArg List.head? hcc
      simpa[List.head?_take,List.head?_drop] using this
    rcases he with he|⟨k,he⟩
    · obtain⟨s,e1,e2,_⟩:=DataW.trod_string he this
      refine⟨_,one _ e1,?_⟩
      rw[← hd,e2]
      exact RepP.str s
    · obtain⟨s,e1,e2,_⟩:=DataW.trod_int he this
      refine⟨_,one _ e1,?_⟩
      rw[← hd,e2]
      exact RepP.int k s
theorem jn4    {W:World} {nm:String} {g:Nat} {cs:Array Value} {ds:List (DataW Unit)} (hg:Tryz.prog.globalNamed nm=some g) (hv:W.var? Tryz.prog nm=some cs) (hp:(ds.map jkn ).all V.pureLeaf=true)
    (h:∀ (j:Nat) (d:DataW Unit),ds[j]? = some d→∃x,cs.toList[j]? = some x∧RepP (Y4 W) x (jkn d)):RepP (Y4 W) (.pointer (some ⟨g,0,none⟩)) (.eptr (ds.map jkn) 0):=by
  have hc:=World.var?_cell hg hv
  refine RepP.eptr g 0 0 (ds.map jkn) (fun j=>(cs[j]?).getD .nilFunc) (fun j hj=>?_) (fun j v hj=>?_) (fun j v hj=>?_)
  · rw[List.length_map]at hj
    obtain⟨x,hx,_⟩:=h j ds[j] (List.getElem?_eq_getElem hj)
    have hx':cs[j]? = some x:=by simpa using hx
    show W.cell? ⟨g,0+j,none⟩=_
    rw[Nat.zero_add,hc j,hx']
    rfl
  · exact List.all_eq_true.1 hp v (List.mem_of_getElem? hj)
  · rw[List.getElem?_map]at hj
    cases hd:ds[j]? with
    | none=>rw[hd]at hj;cases hj
    | some d=>
      rw[hd]at hj
      cases hj
      obtain⟨x,hx,hr⟩:=h j d hd
      have hx':cs[j]? = some x:=by simpa using hx
      rw[hx']
      exact hr
def aggOf:DataW Unit→List (DataW Unit)
  | .agg l=>l
  | _=>[]
theorem jvz:(aggOf Rows.laid_deemster_event_words).map jkn=words:=by kernel_rfl
theorem jy5:(aggOf Rows.laid_math_bits_deBruijn64tab).map jkn=bruij:=by kernel_rfl
theorem ju4:Rows.laid_math_bits_deBruijn64tab=.agg (aggOf Rows.laid_math_bits_deBruijn64tab):=by kernel_rfl
theorem jqn:((aggOf Rows.laid_math_bits_deBruijn64tab).map jkn).all V.pureLeaf=true:=by kernel_rfl
theorem jyo:(aggOf Rows.laid_unicode_utf8_first).map jkn=utf8first:=by kernel_rfl
theorem juo:Rows.laid_unicode_utf8_first=.agg (aggOf Rows.laid_unicode_utf8_first):=by kernel_rfl
theorem jow:((aggOf Rows.laid_deemster_event_words).map jkn).all V.pureLeaf=true:=by kernel_rfl
theorem jqc:((aggOf Rows.laid_unicode_utf8_first).map jkn).all V.pureLeaf=true:=by kernel_rfl
theorem jke       {H:Type} {enc:TypeId × Value→H} {W W':World} (hb:Below W.heap.size W W'):∀ {ts:List TypeId} {vs:List Value} {ds:List (DataW H)} {ps:List MemPlace},
    (∀t∈ts,Tryz.prog.readableRec t=true∧t<Tryz.prog.types.size)→(∀x∈ps,x.block<W.heap.size) →
    DataW.TrodAll enc Tryz.prog W 0 (fun _=>true) true ts vs ds ps→DataW.TrodAll enc Tryz.prog W' 0 (fun b=>decide (b<W.heap.size)) true ts vs ds ps
  | [],[],[],_,_,_,h=>h
  | t::ts,v::vs,d::ds,_,ht,hlt,⟨p,q,h1,h2,e⟩=>by
    subst e
    exact⟨p,q,Below.trod jts (ht t (List.mem_cons_self ..)).1 (ht t (List.mem_cons_self ..)).2 h1 hb (fun x hx=>hlt x (List.mem_append_left _ hx)),
      jke hb (fun t' h'=>ht t' (List.mem_cons_of_mem _ h')) (fun x hx=>hlt x (List.mem_append_right _ hx)) h2,rfl⟩
  | [],_::_,_,_,_,_,h=>h.elim
  | [],[],_::_,_,_,_,h=>h.elim
  | _::_,[],_,_,_,_,h=>h.elim
  | _::_,_::_,[],_,_,_,h=>h.elim
theorem jr8       {H:Type} {enc:TypeId × Value→H} {fn:Func} {s:ChangeSpec} {W W':World} {args:Array Value} {ds gs:List (DataW H)} {before:List MemPlace} (hW:DataW.Whole enc Tryz.prog fn.params.toList s.vars false W args.toList ds gs before)
    (hv:s.vars=[]) (hr:fn.resultTypes = #[4]) (hs:(s.fn H ds).results=[.lit (.bool true)]) (ha:(s.fn H ds).args=ds) (hvs:(s.fn H ds).vars=[])
    (ht:∀t∈fn.params.toList,Tryz.prog.readableRec t=true∧t<Tryz.prog.types.size) (hg:W.grownBy W' none):s.post enc Tryz.prog fn false true false false W args (.bool true) W':=by
  have hb:Below W.heap.size W W':=(Below.refl _ W).grown hg (Nat.le_refl _) (fun _ h=>by cases h)
  have hW':=hW
  obtain⟨p,q,hA,hV,rfl,_,_⟩:=hW
  rw[hv]at hV
  obtain⟨rfl,rfl⟩:=trodVars_none hV
  have hlt:∀x∈p,x.block<W.heap.size:=fun x hx=>by simpa using hW'.lt x (List.mem_append_left _ hx)
  refine⟨ds,[],_,[],p,[],hW',?_,?_,?_,hb.frame _,fun h=>by cases h⟩
  · rw[List.append_nil,hs,hr]
    exact trodAll_mk1 (shut_bool Tryz.underlying4 _)
  · rw[List.append_nil,ha]
    exact jke hb ht hlt hA
  · rw[List.append_nil,hvs,hv]
    rfl
end Go.Pv.T
namespace Go.Pv.T
open Go Go.Pv Go.Proofs Go.ChangeShapes Go.WideShapes Go.ChangeAt Go.RowKit
inductive Ty where
 | bool
 | int (k:IntKind)
 | str
 | unit
 | pair (a b:Ty)
 | slice (t:Ty)
def Ty.cells:Ty→Nat
 | .unit=>0
 | .pair a b=>a.cells+b.cells
 | _=>1
inductive Sh:Ty→List V→Prop where
 | bool (b:Bool):Sh .bool [.bool b]
 | int (k:IntKind) (n:Int):Sh (.int k) [.int k n]
 | str (s:List UInt8):Sh .str [.str s]
 | unit:Sh .unit []
 | pair {a b:Ty}{va vb:List V}(ha:Sh a va) (hb:Sh b vb):Sh (.pair a b) (va++vb)
 | nil {t:Ty}:Sh (.slice t) [.sl none true 0 []]
 | slice {t:Ty}(es:List (List V)) (hn:es.length≤maxLen) (h:∀e∈es,Sh t e):Sh (.slice t) [.sl none false es.length es.flatten]
def Wh (P:Program) (g:TypeId→Option Ty):List Field→Nat→Option Ty
 | [],_=>some .unit
 | f::r,off=>if f.offset=off then (g f.type).bind fun a=>if P.cellsOf f.type=a.cells then (Wh P g r (off+a.cells)).map (.pair a) else none else none
def jzg (P:Program):Nat→TypeId→Option Ty
 | 0,_=>none
 | n+1,t=>match P.underlying t with
  | some .bool=>some .bool
  | some (.int k)=>some (.int k)
  | some .string=>some .str
  | some (.slice e)=>(jzg P n e).bind fun ty=>if P.cellsOf e=ty.cells then some (.slice ty) else none
  | some (.struct fs)=>(Wh P (jzg P n) fs.toList 0).bind fun ty=>if P.cellsOf t=ty.cells then some ty else none
  | _=>none
theorem Sh.len {t:Ty}{vs:List V}(h:Sh t vs):vs.length=t.cells:=by
 induction h with
 | pair _ _ iha ihb=>simp[Ty.cells,iha,ihb]
 | _=>rfl
theorem Sh.pure {t:Ty}{vs:List V}(h:Sh t vs):∀v∈vs,v.pureLeaf=true:=by
 induction h with
 | pair _ _ iha ihb=>intro v hv;rcases List.mem_append.1 hv with h|h;exact iha v h;exact ihb v h
 | unit=>intro v hv;cases hv
 | _=>intro v hv;rw[List.mem_singleton]at hv;subst hv;rfl
def Reps (I:IMap) (cs:List Value) (vs:List V):Prop:=cs.length=vs.length∧∀ (j:Nat) (x:Value) (v:V),cs[j]? = some x→vs[j]? = some v→RepP I x v
theorem Reps.one {I:IMap}{x:Value}{v:V}(h:RepP I x v):Reps I [x] [v] :=
 ⟨rfl,fun j y u hj hu=>by
  match j,hj,hu with
  | 0,hj,hu=>cases hj;cases hu;exact h
  | j+1,hj,_=>simp at hj⟩
theorem jh0 {α:Type}{sz:Nat}(hs:0<sz):∀ (es:List (List α)),(∀e∈es,e.length=sz)→∀j,es.flatten[j]? = (es[j / sz]?).bind fun e=>e[j % sz]?
 | [],_,j=>by simp
 | e::es,h,j=>by
  have he:=h e (List.mem_cons_self ..)
  rw[List.flatten_cons,List.getElem?_append,he]
  split
  ·rename_i hlt
   rw[Nat.div_eq_of_lt hlt,Nat.mod_eq_of_lt hlt]
   rfl
  ·rename_i hge
   have hj:j=(j - sz)+sz:=by omega
   rw[jh0 hs es (fun e he=>h e (List.mem_cons_of_mem _ he)) (j - sz)]
   conv=>rhs;rw[hj,Nat.add_div_right _ hs,Nat.add_mod_right]
   rfl
theorem jn9 {α:Type}{sz:Nat}:∀ (es:List (List α)),(∀e∈es,e.length=sz)→es.flatten.length=es.length*sz
 | [],_=>by simp
 | e::es,h=>by
  rw[List.flatten_cons,List.length_append,h e (List.mem_cons_self ..),jn9 es (fun e he=>h e (List.mem_cons_of_mem _ he)),List.length_cons,Nat.succ_mul]
  omega
section
variable {H:Type}{enc:TypeId × Value→H}{W:World}{P:Program}
theorem ji3 {α:Type}{p:Nat→α→Prop}:∀ (n:Nat),(∀i,i<n→∃a,p i a)→∃l:List α,l.length=n∧∀i a,l[i]? = some a→p i a
 | 0,_=>⟨[],rfl,fun i a h=>by simp at h⟩
 | n+1,h=>by
  obtain⟨l,h1,h2⟩:=ji3 n (fun i hi=>h i zO)
  obtain⟨a,ha⟩:=h n zO
  refine⟨l++[a],by simp[h1],fun i b hb=>?_⟩
  rw[List.getElem?_append]at hb
  split at hb
  ·exact h2 i b hb
  ·rename_i hge
   have:i=n:=by
    have:=(List.getElem?_eq_some_iff.1 hb).1
    simp at this
    omega
   subst this
   simp[h1]at hb
   subst hb
   exact ha
theorem jgs {g:TypeId→Option Ty}{n:Nat}{cs:List Value}(ih:∀t ty,g t=some ty→∀cs x,DataW.trod enc P W 0 (fun _=>true) true n t cs=some x→∃vs,Sh ty vs∧Reps (Y4 W) cs vs) :
 ∀ (fs:List Field) (off:Nat) (ty:Ty),Wh P g fs off=some ty→(∀f∈fs,∃x,DataW.trod enc P W 0 (fun _=>true) true n f.type ((cs.drop f.offset).take (P.cellsOf f.type))=some x)→cs.length=off+ty.cells →
  ∃vs,Sh ty vs∧Reps (Y4 W) (cs.drop off) vs
 | [],off,ty,h,_,hl=>by
  simp only[Wh,Option.some.injEq]at h
  subst h
  simp only[Ty.cells,Nat.add_zero]at hl
  exact⟨[],.unit,by simp[hl],fun j x v _ hv=>by simp at hv⟩
 | f::r,off,ty,h,hx,hl=>by
  simp only[Wh]at h
  split at h
  ·rename_i hoff
   cases hg:g f.type with
   | none=>rw[hg]at h;cases h
   | some a=>
    rw[hg,Option.bind_some]at h
    split at h
    ·rename_i hc
     cases hr:Wh P g r (off+a.cells) with
     | none=>rw[hr]at h;cases h
     | some b=>
      rw[hr]at h
      cases h
      simp only[Ty.cells]at hl
      obtain⟨x,hx0⟩:=hx f (List.mem_cons_self ..)
      obtain⟨va,ha,hra⟩:=ih f.type a hg _ _ hx0
      obtain⟨vb,hb,hrb⟩:=jgs ih r (off+a.cells) b hr (fun f' hf=>hx f' (List.mem_cons_of_mem _ hf)) zO
      refine⟨va++vb,.pair ha hb,?_,fun j y u hj hu=>?_⟩
      ·have:=ha.len;have:=hb.len
       simp only[List.length_drop,List.length_append]
       omega
      ·rw[hoff,hc]at hra
       rw[List.getElem?_append]at hu
       rw[ha.len]at hu
       rw[List.getElem?_drop]at hj
       split at hu
       ·rename_i hlt
        exact hra.2 j y u (by rw[List.getElem?_take,if_pos hlt,List.getElem?_drop];exact hj) hu
       ·rename_i hge
        exact hrb.2 (j - a.cells) y u (by rw[List.getElem?_drop,show off+a.cells+(j - a.cells)=off+j from by omega];exact hj) hu
    ·cases h
  ·cases h
theorem jm7:∀ (n:Nat) (t:TypeId) (ty:Ty),jzg P n t=some ty→∀ (fuel:Nat) (cs:List Value) (x:DataW H × List MemPlace),DataW.trod enc P W 0 (fun _=>true) true fuel t cs=some x→∃vs,Sh ty vs∧Reps (Y4 W) cs vs
 | 0,_,_,h,_,_,_,_=>by cases h
 | n+1,t,ty,h,fuel,cs,x,hx=>by
  simp only[jzg]at h
  split at h
  ·rename_i ht
   cases h
   obtain⟨b,rfl,_⟩:=DataW.trod_bool ht hx
   exact⟨_,.bool b,Reps.one (.bool b)⟩
  ·rename_i k ht
   cases h
   obtain⟨b,rfl,_⟩:=DataW.trod_int ht hx
   exact⟨_,.int k b,Reps.one (.int k b)⟩
  ·rename_i ht
   cases h
   obtain⟨s,rfl,_⟩:=DataW.trod_string ht hx
   exact⟨_,.str s.data.toList,Reps.one (.str s)⟩
  ·rename_i e ht
   cases he:jzg P n e with
   | none=>rw[he]at h;cases h
   | some te=>
    rw[he,Option.bind_some]at h
    split at h
    ·rename_i hc
     cases h
     rcases DataW.trod_slice ht hx with⟨rfl,_⟩|⟨a,len,cap,elems,rest,m,_,rfl,_,_,hl,hm,hlen,hel,_,_⟩
     ·exact⟨_,.nil,Reps.one .slnil⟩
     ·have each:∀i,i<len→∃vs,Sh te vs∧∃c,W.cells? 0 (a.add (i*te.cells)) te.cells=some c∧Reps (Y4 W) c vs:=by
       intro i hi
       have h1:=hel i hi
       rw[List.getElem?_eq_getElem zO,hc]at h1
       obtain⟨c,hc1,hc2⟩:=Option.bind_eq_some_iff.1 h1
       obtain⟨vs,h3,h4⟩:=jm7 n e te he m c _ hc2
       exact⟨vs,h3,c,hc1,h4⟩
      obtain⟨es,h1,h2⟩:=ji3 len each
      have hsh:∀e∈es,Sh te e:=fun e he=>by
       obtain⟨i,hi⟩:=List.getElem?_of_mem he
       exact(h2 i e hi).1
      have hsz:∀e∈es,e.length=te.cells:=fun e he=>(hsh e he).len
      have key:∀ (j:Nat) (v:V),es.flatten[j]? = some v→0<te.cells∧j / te.cells<len∧∃y,W.cell? ((a.add (j / te.cells*te.cells)).add (j % te.cells))=some y∧RepP (Y4 W) y v∧v.pureLeaf=true:=by
       intro j v hj
       have h0:0<te.cells:=by
        rcases Nat.eq_zero_or_pos te.cells with h|h
        ·have:=jn9 es hsz
         rw[h,Nat.mul_zero]at this
         rw[List.length_eq_zero_iff.1 this]at hj
         simp at hj
        ·exact h
       rw[jh0 h0 es hsz]at hj
       cases hee:es[j / te.cells]? with
       | none=>rw[hee]at hj;cases hj
       | some e=>
        rw[hee,Option.bind_some]at hj
        have hlt:j / te.cells<len:=by rw[← h1];exact(List.getElem?_eq_some_iff.1 hee).1
        obtain⟨hse,c,hcc,hrr⟩:=h2 _ e hee
        have hme:=Nat.mod_lt j h0
        have hcell:=(World.cells?_some hcc).2.2 _ hme
        have hclen:c.length=te.cells:=by rw[hrr.1,hse.len]
        rw[List.getElem?_eq_getElem zO]at hcell
        exact⟨h0,hlt,_,hcell,hrr.2 _ _ v (List.getElem?_eq_getElem zO) hj,hse.pure v (List.mem_of_getElem? hj)⟩
      have spot:es.flatten≠[]→a.spot=none:=by
       intro hne
       obtain⟨v,hv⟩:∃v,es.flatten[0]? = some v:=by
        cases hf:es.flatten with
        | nil=>exact absurd hf hne
        | cons v l=>exact⟨v,rfl⟩
       obtain⟨h0,_,y,hy,_⟩:=key 0 v hv
       rw[Nat.zero_div,Nat.zero_mod,Nat.zero_mul]at hy
       simpa[Addr.add] using World.cell?_spot hy
      have cellAt:∀ (j:Nat) (v:V),es.flatten[j]? = some v→∃y,W.cell? ⟨a.block,a.off+j,none⟩=some y∧RepP (Y4 W) y v:=by
       intro j v hj
       obtain⟨h0,_,y,hy,hr,_⟩:=key j v hj
       have hs:=spot (fun h=>by rw[h]at hj;simp at hj)
       obtain⟨b,off,sp⟩:=a
       simp only at hs
       subst hs
       rw[add_plain,add_plain]at hy
       refine⟨y,?_,hr⟩
       rw[← hy,Nat.add_assoc,Nat.div_add_mod']
      rw[← h1]at hl
      refine⟨_,.slice es (Nat.le_trans hl hm) hsh,Reps.one ?_⟩
      rw[h1]at hl ⊢
      refine RepP.sl a len cap es.flatten (fun j=>(W.cell? ⟨a.block,a.off+j,none⟩).getD .nilFunc) spot hl hm (fun j hj=>?_) (fun j v hj=>?_) (fun j v hj=>?_)
      ·obtain⟨y,hy,_⟩:=cellAt j _ (List.getElem?_eq_getElem hj)
       show W.cell? _=some ((W.cell? _).getD _)
       rw[hy]
       rfl
      ·exact(key j v hj).2.2.choose_spec.2.2
      ·obtain⟨y,hy,hr⟩:=cellAt j v hj
       show RepP _ ((W.cell? _).getD _) v
       rw[hy]
       exact hr
    ·cases h
  ·rename_i fs ht
   cases hf:Wh P (jzg P n) fs.toList 0 with
   | none=>rw[hf]at h;cases h
   | some b=>
    rw[hf,Option.bind_some]at h
    split at h
    ·rename_i hc
     cases h
     obtain⟨xs,m,rfl,_,hl,hn,hel⟩:=DataW.trod_struct ht hx
     have:=jgs (n:=m) (cs:=cs) (fun t ty h cs x hx=>jm7 n t ty h m cs x hx) fs.toList 0 ty hf (fun f hfm=>by
      obtain⟨i,hi⟩:=List.getElem?_of_mem hfm
      have hi':fs[i]? = some f:=by simpa using hi
      have h1:=hel i f hi'
      have hlt:i<xs.length:=by rw[hn];exact(Array.getElem?_eq_some_iff.1 hi').1
      rw[List.getElem?_eq_getElem hlt]at h1
      exact⟨_,h1⟩) (by rw[Nat.zero_add,hl,hc])
     simpa using this
    ·cases h
  ·cases h
end
end Go.Pv.T
namespace Go.Pv.T
open Go Go.Pv Go.Proofs Go.ChangeShapes Go.WideShapes Go.ChangeAt Go.RowKit Go.Proofs.YtphecmnehkdihaaGreatDoor
theorem jy7      {W:World} {t e:TypeId} {n fuel:Nat} {cs:List Value} {ds:List (DataW Unit)} {p:List MemPlace} {f0 f1:Field} {k0 k1:IntKind} (ht:Tryz.prog.underlying t=some (.array n e)) (hc:Tryz.prog.cellsOf e=2)
    (he:Tryz.prog.underlying e=some (.struct #[f0,f1])) (o0:f0.offset=0) (o1:f1.offset=1) (c0:Tryz.prog.cellsOf f0.type=1) (c1:Tryz.prog.cellsOf f1.type=1)
    (u0:Tryz.prog.underlying f0.type=some (.int k0)) (u1:Tryz.prog.underlying f1.type=some (.int k1)) (h:DataW.trod (fun _=>()) Tryz.prog W 0 (fun _=>true) false fuel t cs=some (.agg ds,p)) (I:IMap) :
    ∀ (j:Nat) (d:DataW Unit),(ds.map aggOf).flatten[j]? = some d→∃x,cs[j]? = some x∧RepP I x (jkn d):=by
  obtain⟨xs,m,rfl,hx,hlen,hn,hel⟩:=DataW.trod_array ht h
  simp only[Prod.mk.injEq,DataW.agg.injEq]at hx
  have one:∀ (l:List Value) (j:Nat) c,(l.drop j).take 1=[c]→l[j]? = some c:=by
    intro l j c hcc
    have:=congrArg List.head? hcc
    simpa[List.head?_take,List.head?_drop] using this
  have each:∀ (j:Nat) (y:DataW Unit × List MemPlace),xs[j]? = some y→∃d0 d1 x0 x1,y.1=.agg [d0,d1]∧cs[j*2]? = some x0∧RepP I x0 (jkn d0)∧cs[j*2+1]? = some x1∧RepP I x1 (jkn d1):=by
    intro j y hy
    have hj:j<n:=by rw[← hn];exact(List.getElem?_eq_some_iff.1 hy).1
    have h2:=hel j hj
    rw[hc,hy]at h2
    obtain⟨y0,y1,m',e1,hl2,g0,g1⟩:=trod_struct2 he h2
    rw[o0,c0]at g0
    rw[o1,c1]at g1
    obtain⟨z0,a0,b0,_⟩:=DataW.trod_int u0 g0
    obtain⟨z1,a1,b1,_⟩:=DataW.trod_int u1 g1
    have q0:=one _ _ _ a0
    have q1:=one _ _ _ a1
    rw[List.getElem?_take,if_pos (by omega),List.getElem?_drop]at q0 q1
    refine⟨y0.1,y1.1,_,_,by rw[e1],by simpa using q0,?_,q1,?_⟩
    · rw[b0];exact RepP.int k0 z0
    · rw[b1];exact RepP.int k1 z1
  have hds:ds=xs.map (·.1):=hx.1
  have len2:∀e∈ds.map aggOf,e.length=2:=by
    intro e he
    rw[hds,List.map_map]at he
    obtain⟨y,hy,rfl⟩:=List.mem_map.1 he
    obtain⟨j,hj⟩:=List.getElem?_of_mem hy
    obtain⟨d0,d1,x0,x1,e,_⟩:=each j y hj
    simp only[Function.comp,e,aggOf,List.length_cons,List.length_nil]
  intro k d hd
  rw[jh0 (by decide) _ len2]at hd
  rw[hds,List.map_map,List.getElem?_map]at hd
  cases hy:xs[k / 2]? with
  | none=>rw[hy]at hd;cases hd
  | some y=>
    rw[hy]at hd
    obtain⟨d0,d1,x0,x1,e,g0,r0,g1,r1⟩:=each _ y hy
    simp only[Option.map_some,Option.bind_some,Function.comp,e,aggOf]at hd
    rcases Nat.mod_two_eq_zero_or_one k with hk|hk
    · rw[hk]at hd
      cases hd
      rw[show k / 2*2=k from by omega]at g0
      exact⟨x0,g0,r0⟩
    · rw[hk]at hd
      cases hd
      rw[show k / 2*2+1=k from by omega]at g1
      exact⟨x1,g1,r1⟩
def accD:List (DataW Unit):=((aggOf Rows.laid_unicode_utf8_acceptRanges).map aggOf).flatten
theorem gAcc:Tryz.prog.globalNamed "unicode/utf8.acceptRanges" = some 3:=by kernel_rfl
theorem acc_eq:accD.map jkn=accR:=by kernel_rfl
theorem j4i:Rows.laid_unicode_utf8_acceptRanges=.agg (aggOf Rows.laid_unicode_utf8_acceptRanges):=by kernel_rfl
theorem jza:(accD.map jkn).all V.pureLeaf=true:=by kernel_rfl
theorem tAcc:(Tryz.prog.globals[3]?).map (·.type)=some 322:=by kernel_rfl
theorem glOk {W:World}(h:laidMetH Tryz.prog jpv W):GlOk E (Y4 W):=by
  rw[MakeChecks.laidMetH_plain _ _ _ (by kernel_rfl)]at h
  obtain⟨ps,⟨g3,t3,cs3,f3,p3,q3,hg3,ht3,hv3,hd3,⟨g2,t2,cs2,f2,p2,q2,hg2,ht2,hv2,hd2,⟨g0,t0,cs0,f0,p0,q0,hg0,ht0,hv0,hd0,⟨g1,t1,cs1,f1,p1,q1,hg1,ht1,hv1,hd1,_,_⟩,_⟩,_⟩,_⟩,_,_⟩:=h
  obtain rfl:=Option.some.inj (gWords.symm.trans hg0)
  obtain rfl:=Option.some.inj (gFirst.symm.trans hg1)
  obtain rfl:=Option.some.inj (tWords.symm.trans ht0)
  obtain rfl:=Option.some.inj (tFirst.symm.trans ht1)
  obtain rfl:=Option.some.inj (gBruij.symm.trans hg3)
  obtain rfl:=Option.some.inj (tBruij.symm.trans ht3)
  obtain rfl:=Option.some.inj (gAcc.symm.trans hg2)
  obtain rfl:=Option.some.inj (tAcc.symm.trans ht2)
  intro g cs hcs
  simp only[E]at hcs
  split at hcs
  · cases hcs
    rw[← jy5]
    rw[ju4]at hd3
    exact jn4 gBruij hv3 jqn (jmc Tryz.underlying281 (by kernel_rfl) (Or.inr ⟨.u8,by kernel_rfl⟩) hd3 _)
  · cases hcs
    rw[← jvz]
    exact jn4 gWords hv0 jow (jmc Tryz.underlying300 (by kernel_rfl) (Or.inl (by kernel_rfl)) hd0 _)
  · cases hcs
    rw[← jyo]
    rw[juo]at hd1
    exact jn4 gFirst hv1 jqc (jmc Tryz.underlying319 (by kernel_rfl) (Or.inr ⟨.u8,by kernel_rfl⟩) hd1 _)
  · cases hcs
    rw[← acc_eq]
    rw[j4i]at hd2
    exact jn4 gAcc hv2 jza (jy7 (k0:=.u8) (k1:=.u8) Tryz.underlying322 (by kernel_rfl) Tryz.underlying321 rfl rfl (by kernel_rfl) (by kernel_rfl) (by kernel_rfl) (by kernel_rfl) hd2 _)
  · cases hcs
theorem jqm        {f:FuncId} {W:World} {args:Array Value} {vs:List V} (hL:laidMetH Tryz.prog jpv   W) (hlen:args.size=vs.length) (hr:∀ (j:Nat) (x:Value) (v:V),args[j]? = some x→vs[j]? = some v→RepP (Y4     W) x v)
    (he:Ev E f vs (.bool true)):Calls Tryz.prog f args W fun e w'=>e=.returned (.bool true)∧W.grownBy w' none:=by
  refine(Ev.sound mixed envOk he W (Y4 W) args (ju0 W) (glOk hL) hlen hr).mono fun e W' ⟨x,τ,I',h1,h2,_,_,_,h3,_⟩=>⟨?_,h2⟩
  rw[h1]
  have h4:RepP I' x (.bool true):=h3
  cases h4
  rfl
abbrev j5b:Ty:=.pair (.int .i64) (.pair (.int .i64) .unit)
abbrev opTy:Ty:=.pair .bool (.pair (.int .i64) (.pair j5b .unit))
abbrev j5e:Ty:=.pair (.int .i64) (.pair (.int .i64) (.pair (.slice opTy) .unit))
abbrev jz5:Ty:=.pair (.slice .str) (.pair (.slice .str) (.pair (.slice j5e) .unit))
theorem jar {α:Type}{t:Ty}{f:α→List V}(hf:∀e,Sh t e→∃a,e=f a) {vs:List V}(h:Sh (.slice t) vs):∃nl l,vs=[jN nl f l]:=by
 cases h with
 | nil=>exact⟨true,[],rfl⟩
 | slice es hn h=>
  have all:∀es:List (List V),(∀e∈es,Sh t e)→∃l:List α,es=l.map f:=by
   intro es
   induction es with
   | nil=>intro _;exact⟨[],rfl⟩
   | cons e es ih=>
    intro h
    obtain⟨a,rfl⟩:=hf e (h e (List.mem_cons_self ..))
    obtain⟨l,rfl⟩:=ih (fun e he=>h e (List.mem_cons_of_mem _ he))
    exact⟨a::l,rfl⟩
  obtain⟨l,rfl⟩:=all es h
  exact⟨false,l,by simp[jN,List.flatMap]⟩
theorem j5s {vs:List V}(h:Sh j5b vs):∃v:Val',vs=JH v:=by
 cases h with
 | pair ha hb=>cases ha with
  | int _ k=>cases hb with
   | pair hc hd=>cases hc with
    | int _ n=>cases hd;exact⟨⟨k,n⟩,rfl⟩
theorem sh_op {vs:List V}(h:Sh opTy vs):∃o:Op',vs=opC o:=by
 cases h with
 | pair ha hb=>cases ha with
  | bool w=>cases hb with
   | pair hc hd=>cases hc with
    | int _ k=>cases hd with
     | pair he hf=>
      obtain⟨v,rfl⟩:=j5s he
      cases hf
      exact⟨⟨w,k,v⟩,rfl⟩
theorem j5t {vs:List V}(h:Sh j5e vs):∃t:Txn',vs=jl t:=by
 cases h with
 | pair ha hb=>cases ha with
  | int _ s=>cases hb with
   | pair hc hd=>cases hc with
    | int _ f=>cases hd with
     | pair he hf=>
      obtain⟨nl,l,rfl⟩:=jar (f:=opC) (fun e=>sh_op) he
      cases hf
      exact⟨⟨s,f,nl,l⟩,rfl⟩
theorem jzm {vs:List V}(h:Sh .str vs):∃s:List UInt8,vs=JL s:=by
 cases h with
 | str s=>exact⟨s,rfl⟩
theorem j09 {vs:List V}(h:Sh jz5 vs):∃g:Hist',vs=j2 g:=by
 cases h with
 | pair ha hb=>cases hb with
  | pair hc hd=>cases hd with
   | pair he hf=>
    obtain⟨n0,l0,rfl⟩:=jar (f:=JL) (fun e=>jzm) ha
    obtain⟨n1,l1,rfl⟩:=jar (f:=JL) (fun e=>jzm) hc
    obtain⟨n2,l2,rfl⟩:=jar (f:=jl) (fun e=>j5t) he
    cases hf
    exact⟨⟨n0,l0,n1,l1,n2,l2⟩,rfl⟩
theorem jjq {v:V}(h:v.pureLeaf=true):v.leaf=true:=by cases v <;> first|rfl|cases h
section
variable {H:Type}{enc:TypeId × Value→H}{W:World}{v:Value}{d:DataW H}{p:List MemPlace}{base:Nat}
theorem joz {t:TypeId}{fs:Array Field}{n:Nat}{ty:Ty}(ht:Tryz.prog.underlying t=some (.struct fs)) (hty:jzg Tryz.prog n t=some ty) (hval:Value.okWide Tryz.prog W .any base t v)
 (h:DataW.Trod enc Tryz.prog W 0 (fun _=>true) true t v d p):∃vs,Sh ty vs∧RepP (Y4 W) v (.agg vs):=by
 obtain⟨cs,rfl,_⟩:=okWide_struct ht hval
 obtain⟨fuel,hf⟩:=h
 obtain⟨vs,hs,hr⟩:=jm7 n t ty hty fuel _ _ hf
 refine⟨vs,hs,RepP.agg cs vs (by simpa[Value.cells] using hr.1) (fun j v hj=>jjq (hs.pure v (List.mem_of_getElem? hj))) (fun j x v hx hv=>hr.2 j x v (by simpa[Value.cells] using hx) hv)⟩
theorem jy4 {t:TypeId}{n:Nat}{ty:Ty}(hc:v.cells.toList=[v]) (hty:jzg Tryz.prog n t=some ty)
 (h:DataW.Trod enc Tryz.prog W 0 (fun _=>true) true t v d p):∃vs,Sh ty vs∧Reps (Y4 W) [v] vs:=by
 obtain⟨fuel,hf⟩:=h
 rw[hc]at hf
 exact jm7 n t ty hty fuel _ _ hf
theorem j1p (ts:List TypeId) (h:(ts.all fun t=>Tryz.prog.readableRec t && decide (t<Tryz.prog.types.size))=true) (t:TypeId) (ht:t∈ts):Tryz.prog.readableRec t=true∧t<Tryz.prog.types.size:=by
 have:=List.all_eq_true.1 h t ht
 simpa using this
theorem jyi (hval:Value.okWide Tryz.prog W .any base 25 v) (h:DataW.Trod enc Tryz.prog W 0 (fun _=>true) true 25 v d p):∃g:Hist',RepP (Y4 W) v (.agg (j2 g)):=by
 obtain⟨vs,hs,hr⟩:=joz (n:=8) (ty:=jz5) Tryz.underlying25 (by kernel_rfl) hval h
 obtain⟨g,rfl⟩:=j09 hs
 exact⟨g,hr⟩
theorem jye (hval:Value.okWide Tryz.prog W .any base 26 v) (h:DataW.Trod enc Tryz.prog W 0 (fun _=>true) true 26 v d p):∃ (nl:Bool) (l:List Int),RepP (Y4 W) v (jN nl intC l):=by
 obtain⟨a0,len,cap,rfl⟩:=okWide_slice Tryz.underlying26 hval
 obtain⟨vs,hs,hr⟩:=jy4 (n:=4) (ty:=.slice (.int .i64)) rfl (by kernel_rfl) h
 obtain⟨nl,l,rfl⟩:=jar (f:=intC) (fun e he=>by cases he with|int _ k=>exact⟨k,rfl⟩) hs
 exact⟨nl,l,hr.2 0 _ _ rfl rfl⟩
theorem j3g (hval:Value.okWide Tryz.prog W .any base 3 v):∃n:Int,RepP (Y4 W) v (.int .i64 n):=by
 obtain⟨n,rfl⟩:=okWide_int Tryz.underlying3 hval
 exact⟨n,RepP.int .i64 n⟩
end
section
variable {H:Type}{enc:TypeId × Value→H}{W:World}{v:Value}{d:DataW H}{p:List MemPlace}{base:Nat}
end
end Go.Pv.T
