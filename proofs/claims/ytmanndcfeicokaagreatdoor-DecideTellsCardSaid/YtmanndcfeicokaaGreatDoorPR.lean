/- Part. -/
import Derived.Test.YtmanndcfeicokaaGreatDoorPQ
import Derived.Shelf.Sort.Plain
import Derived.Shelf.Slices.In.SortNone
import Derived.Test.YtmanndcfeicokaaGreatDoorRows
import Derived.Shelf.SlSortCmp.NoneTotal
import Derived.WalkKit
import Derived.Test.YtmanndcfeicokaaGreatDoorTie
import Derived.ProofKit
import Derived.LaidMore
import Derived.OpenShut
import Derived.Stop.Joined
import Derived.SizedLaws
import Derived.Carry
import Derived.Handed
import Derived.ChangeSame
set_option maxRecDepth 100000
set_option maxHeartbeats 8000000
set_option linter.all false
namespace Go.Pv.T
open Go Go.Pv Go.Proofs Go.Shelf
def renS:Ren where
 f:=λx=>match x with
  | 189=>167
  | 125=>174
  | 257=>219
  | 128=>231
  | 129=>232
  | 294=>264
  | 295=>265
  | 296=>266
  | 297=>267
  | 298=>268
  | 299=>269
  | 216=>270
  | 300=>271
  | 301=>272
  | 328=>294
  | 329=>275
  | 330=>276
  | 331=>295
  | 332=>296
  | 215=>297
  | 343=>315
  | n=>n
 t:=λx=>match x with
  | 28=>29
  | 3=>3
  | 46=>245
  | 0=>0
  | 51=>294
  | 53=>252
  | 4=>4
  | 183=>288
  | 182=>287
  | 131=>143
  | 5=>5
  | 9=>9
  | 218=>331
  | 222=>335
  | 228=>353
  | 229=>306
  | n=>n
 g:=λx=>x
def laysS:Lays.n189 Tryz.prog renS where
 mixed:=by kernel_rfl
 f125:=Tryz.func174.trans (zg some (by kernel_rfl))
 f128:=Tryz.func231.trans (zg some (by kernel_rfl))
 f129:=Tryz.func232.trans (zg some (by kernel_rfl))
 f189:=Tryz.func167.trans (zg some (by kernel_rfl))
 f215:=Tryz.func297.trans (zg some (by kernel_rfl))
 f216:=Tryz.func270.trans (zg some (by kernel_rfl))
 f257:=Tryz.func219.trans (zg some (by kernel_rfl))
 f294:=Tryz.func264.trans (zg some (by kernel_rfl))
 f295:=Tryz.func265.trans (zg some (by kernel_rfl))
 f296:=Tryz.func266.trans (zg some (by kernel_rfl))
 f297:=Tryz.func267.trans (zg some (by kernel_rfl))
 f298:=Tryz.func268.trans (zg some (by kernel_rfl))
 f299:=Tryz.func269.trans (zg some (by kernel_rfl))
 f300:=Tryz.func271.trans (zg some (by kernel_rfl))
 f301:=Tryz.func272.trans (zg some (by kernel_rfl))
 f328:=Tryz.func294.trans (zg some (by kernel_rfl))
 f329:=Tryz.func275.trans (zg some (by kernel_rfl))
 f330:=Tryz.func276.trans (zg some (by kernel_rfl))
 f331:=Tryz.func295.trans (zg some (by kernel_rfl))
 f332:=Tryz.func296.trans (zg some (by kernel_rfl))
 f343:=Tryz.func315.trans (zg some (by kernel_rfl))
 t0:=Tryz.underlying0
 a0:=Tryz.isAgg0
 z0:=Tryz.sizeOf0
 v0:=Tryz.zeroValue0
 t3:=Tryz.underlying3
 a3:=Tryz.isAgg3
 z3:=Tryz.sizeOf3
 v3:=Tryz.zeroValue3
 t4:=Tryz.underlying4
 a4:=Tryz.isAgg4
 z4:=Tryz.sizeOf4
 v4:=Tryz.zeroValue4
 t5:=Tryz.underlying5
 a5:=Tryz.isAgg5
 z5:=Tryz.sizeOf5
 v5:=Tryz.zeroValue5
 t9:=Tryz.underlying9
 a9:=Tryz.isAgg9
 z9:=Tryz.sizeOf9
 v9:=Tryz.zeroValue9
 t28:=Tryz.underlying29
 a28:=Tryz.isAgg29
 z28:=Tryz.sizeOf29
 v28:=Tryz.zeroValue29
 t46:=Tryz.underlying245
 a46:=Tryz.isAgg245
 z46:=Tryz.sizeOf245
 v46:=Tryz.zeroValue245
 t51:=Tryz.underlying294
 a51:=Tryz.isAgg294
 z51:=Tryz.sizeOf294
 v51:=Tryz.zeroValue294
 t53:=Tryz.underlying252
 a53:=Tryz.isAgg252
 z53:=Tryz.sizeOf252
 v53:=Tryz.zeroValue252
 t131:=Tryz.underlying143
 a131:=Tryz.isAgg143
 z131:=Tryz.sizeOf143
 v131:=Tryz.zeroValue143
 t182:=Tryz.underlying287
 a182:=Tryz.isAgg287
 z182:=Tryz.sizeOf287
 v182:=Tryz.zeroValue287
 t183:=Tryz.underlying288
 a183:=Tryz.isAgg288
 z183:=Tryz.sizeOf288
 v183:=Tryz.zeroValue288
 t218:=Tryz.underlying331
 a218:=Tryz.isAgg331
 z218:=Tryz.sizeOf331
 v218:=Tryz.zeroValue331
 t222:=Tryz.underlying335
 a222:=Tryz.isAgg335
 z222:=Tryz.sizeOf335
 v222:=Tryz.zeroValue335
 t228:=Tryz.underlying353
 a228:=Tryz.isAgg353
 z228:=Tryz.sizeOf353
 v228:=Tryz.zeroValue353
 t229:=Tryz.underlying306
 a229:=Tryz.isAgg306
 z229:=Tryz.sizeOf306
 v229:=Tryz.zeroValue306
def jww:jla Tryz.prog 167 none:=by
 refine⟨⟨Tryz.f167,_,Tryz.func167,rfl,by kernel_rfl⟩,λp cap w=>?_,λblk off cap n zs w hlen _ h1 h2 h3=>?_⟩
 ·exact Any.slices_Sort_int_none laysS p cap w
 ·obtain rfl:zs.length=n:=by simpa[jhp] using hlen
  have:=Any.slices_Sort_int laysS blk off cap zs w h1 h2 h3
  rwa [jom]at this
end Go.Pv.T
namespace Go.Pv.T
open Go Go.Pv Go.Proofs Go.Shelf Go.Sort Go.Lib
def renF:Ren where
 f:=λx=>match x with
  | 6=>119
  | 14=>173
  | 15=>174
  | 20=>223
  | 21=>224
  | 22=>225
  | 23=>226
  | 24=>227
  | 25=>228
  | 26=>229
  | 27=>230
  | 28=>231
  | 29=>232
  | 46=>274
  | 47=>275
  | 48=>276
  | 49=>277
  | 50=>278
  | 57=>299
  | n=>n
 t:=λx=>match x with
  | 0=>0
  | 3=>3
  | 4=>4
  | 5=>5
  | 9=>9
  | 22=>116
  | 25=>179
  | 39=>245
  | 45=>287
  | 46=>288
  | 50=>143
  | 53=>294
  | 55=>252
  | 66=>331
  | 70=>335
  | 76=>353
  | 77=>306
  | 24=>178
  | n=>n
 g:=λx=>x
def laysF:SlLaysF0.n6 Tryz.prog renF where
 mixed:=by kernel_rfl
 f6:=⟨Tryz.f119.name,by kernel_rfl,Tryz.func119.trans (zg some (by kernel_rfl))⟩
 f14:=⟨Tryz.f173.name,by kernel_rfl,Tryz.func173.trans (zg some (by kernel_rfl))⟩
 f15:=Tryz.func174.trans (zg some (by kernel_rfl))
 f20:=⟨Tryz.f223.name,by kernel_rfl,Tryz.func223.trans (zg some (by kernel_rfl))⟩
 f21:=⟨Tryz.f224.name,by kernel_rfl,Tryz.func224.trans (zg some (by kernel_rfl))⟩
 f22:=⟨Tryz.f225.name,by kernel_rfl,Tryz.func225.trans (zg some (by kernel_rfl))⟩
 f23:=⟨Tryz.f226.name,by kernel_rfl,Tryz.func226.trans (zg some (by kernel_rfl))⟩
 f24:=⟨Tryz.f227.name,by kernel_rfl,Tryz.func227.trans (zg some (by kernel_rfl))⟩
 f25:=⟨Tryz.f228.name,by kernel_rfl,Tryz.func228.trans (zg some (by kernel_rfl))⟩
 f26:=⟨Tryz.f229.name,by kernel_rfl,Tryz.func229.trans (zg some (by kernel_rfl))⟩
 f27:=⟨Tryz.f230.name,by kernel_rfl,Tryz.func230.trans (zg some (by kernel_rfl))⟩
 f28:=Tryz.func231.trans (zg some (by kernel_rfl))
 f29:=Tryz.func232.trans (zg some (by kernel_rfl))
 f46:=⟨Tryz.f274.name,by kernel_rfl,Tryz.func274.trans (zg some (by kernel_rfl))⟩
 f47:=Tryz.func275.trans (zg some (by kernel_rfl))
 f48:=Tryz.func276.trans (zg some (by kernel_rfl))
 f49:=⟨Tryz.f277.name,by kernel_rfl,Tryz.func277.trans (zg some (by kernel_rfl))⟩
 f50:=⟨Tryz.f278.name,by kernel_rfl,Tryz.func278.trans (zg some (by kernel_rfl))⟩
 f57:=⟨Tryz.f299.name,by kernel_rfl,Tryz.func299.trans (zg some (by kernel_rfl))⟩
 t0:=Tryz.underlying0
 a0:=Tryz.isAgg0
 z0:=Tryz.sizeOf0
 v0:=Tryz.zeroValue0
 t3:=Tryz.underlying3
 a3:=Tryz.isAgg3
 z3:=Tryz.sizeOf3
 v3:=Tryz.zeroValue3
 t4:=Tryz.underlying4
 a4:=Tryz.isAgg4
 z4:=Tryz.sizeOf4
 v4:=Tryz.zeroValue4
 t5:=Tryz.underlying5
 a5:=Tryz.isAgg5
 z5:=Tryz.sizeOf5
 v5:=Tryz.zeroValue5
 t9:=Tryz.underlying9
 a9:=Tryz.isAgg9
 z9:=Tryz.sizeOf9
 v9:=Tryz.zeroValue9
 t22:=Tryz.underlying116
 a22:=Tryz.isAgg116
 z22:=Tryz.sizeOf116
 v22:=Tryz.zeroValue116
 t25:=Tryz.underlying179
 a25:=Tryz.isAgg179
 z25:=Tryz.sizeOf179
 v25:=Tryz.zeroValue179
 t39:=Tryz.underlying245
 a39:=Tryz.isAgg245
 z39:=Tryz.sizeOf245
 v39:=Tryz.zeroValue245
 t45:=Tryz.underlying287
 a45:=Tryz.isAgg287
 z45:=Tryz.sizeOf287
 v45:=Tryz.zeroValue287
 t46:=Tryz.underlying288
 a46:=Tryz.isAgg288
 z46:=Tryz.sizeOf288
 v46:=Tryz.zeroValue288
 t50:=Tryz.underlying143
 a50:=Tryz.isAgg143
 z50:=Tryz.sizeOf143
 v50:=Tryz.zeroValue143
 t53:=Tryz.underlying294
 a53:=Tryz.isAgg294
 z53:=Tryz.sizeOf294
 v53:=Tryz.zeroValue294
 t55:=Tryz.underlying252
 a55:=Tryz.isAgg252
 z55:=Tryz.sizeOf252
 v55:=Tryz.zeroValue252
 t66:=Tryz.underlying331
 a66:=Tryz.isAgg331
 z66:=Tryz.sizeOf331
 v66:=Tryz.zeroValue331
 t70:=Tryz.underlying335
 a70:=Tryz.isAgg335
 z70:=Tryz.sizeOf335
 v70:=Tryz.zeroValue335
 t76:=Tryz.underlying353
 a76:=Tryz.isAgg353
 z76:=Tryz.sizeOf353
 v76:=Tryz.zeroValue353
 t77:=Tryz.underlying306
 a77:=Tryz.isAgg306
 z77:=Tryz.sizeOf306
 v77:=Tryz.zeroValue306
abbrev SP:Type:={ p:P2 // Yn p.1=true/\Yn p.2=true }
instance:Inhabited SP:=⟨⟨(0,0),zQ⟩⟩
def encP (x:SP):List Value:=[.int .i64 x.1.1,.int .i64 x.1.2]
def cfP (x y:SP):Int:=if x.1.1=y.1.1 then x.1.2 - y.1.2 else x.1.1 - y.1.1
def je5 {z:Int}(h:Yn z=true):-1000000000000<=z/\z<=1000000000000:=by simpa[Yn] using h
def cf_call (x y:SP) (W:World):Calls Tryz.prog 120 #[.agg #[.int .i64 x.1.1,.int .i64 x.1.2],.agg #[.int .i64 y.1.1,.int .i64 y.1.2]] W λe w'=>e=.returned (.int .i64 (cfP x y))/\∃q os',w'=grow (W.drewN q) os':=by
 obtain⟨⟨a,b⟩,h1,h2⟩:=x
 obtain⟨⟨c,d⟩,h3,h4⟩:=y
 have:=je5 h1
 have:=je5 h2
 have:=je5 h3
 have:=je5 h4
 have w1:IntKind.i64.wrap (a - c)=a - c:=jg zO zO
 have w2:IntKind.i64.wrap (b - d)=b - d:=jg zO zO
 unfold cfP
 simp only
 by_cases h:a=c
 ·rw[zb h]
  have hb:(a != c)=false:=by simpa using h
  go_enter Tryz.func120,Tryz.ntmps120
  go_wp2
  go_ret
  exact⟨rfl,0,_,by rw[alloc_eq_grow,alloc_eq_grow,grow_grow];rfl⟩
 ·rw[za h]
  have hb:(a != c)=true:=by simpa using h
  go_enter Tryz.func120,Tryz.ntmps120
  go_wp2
  go_ret
  exact⟨rfl,0,_,by rw[alloc_eq_grow,alloc_eq_grow,grow_grow];rfl⟩
def jr7 (x y:SP):ltOf cfP x y=true ↔ pLt x.1 y.1:=by
 unfold ltOf cfP pLt
 rw[ze]
 split <;> omega
def jcu (x y:SP):ltOf cfP x y=false ↔ ¬ pLt x.1 y.1:=by rw[<- jr7];simp
def swoP:SWO (ltOf cfP) where
 irrefl x:=(jcu x x).2 (Xj _)
 trans x y z h1 h2:=(jr7 x z).2 (YQ ((jr7 x y).1 h1) ((jr7 y z).1 h2))
 ntrans x y z h1 h2:=by
  rw[jcu]at *
  intro h
  rcases Qm x.1 y.1 with h3|h3|h3
  ·exact h1 h3
  ·rw[h3]at h
   exact h2 h
  ·exact h2 (YQ h3 h)
def totP (x y:SP) (h1:ltOf cfP x y=false) (h2:ltOf cfP y x=false):x=y:=by
 rw[jcu]at h1 h2
 rcases Qm x.1 y.1 with h|h|h
 ·exact zf h h1
 ·exact Subtype.ext h
 ·exact zf h h2
def jo2 {x y:P2}(h:Ql x y=true) (h':Ql y x=true):x=y:=by
 rw[pairLe_iff]at h h'
 rcases h with h|h
 ·rcases h' with h'|h'
  ·exact zf (YQ h h') (Xj _)
  ·exact h'.symm
 ·exact h
def jlt:∀ {l m:List P2},l.Perm m->l.Pairwise (λa b=>Ql a b=true)->m.Pairwise (λa b=>Ql a b=true)->l=m
 | [],m,h,_,_=>(List.nil_perm.1 h).symm
 | x::r,m,h,hs,hm=>by
  cases m with
  | nil=>exact zf h.length_eq zS
  | cons y q=>
   rw[ch]at hs hm
   have hx:x∈y::q:=h.mem_iff.1 zS
   have hy:y∈x::r:=h.mem_iff.2 zS
   have e:x=y:=by
    rcases bB.1 hx with h1|h1
    ·exact h1
    ·rcases bB.1 hy with h2|h2
     ·exact h2.symm
     ·exact jo2 (hs.1 y h2) (hm.1 x h1)
   subst e
   rw[jlt ((List.perm_cons x).1 h) hs.2 hm.2]
def jus (l:List SP):(l.mergeSort λx y=>!(ltOf cfP) y x).map (·.1)=ja2 (l.map (·.1)):=by
 refine jlt (((List.mergeSort_perm l _).map _).trans (XO _).symm) ?_ (jjw _)
 rw[fI]
 refine(ip (λa b c h1 h2=>?_) (λa b=>?_) l).imp fun {a b} h=>?_
 ·simp only[ci]at *
  exact swoP.ntrans c b a h2 h1
 ·simp only[bG,ci,jcu]
  rcases Qm a.1 b.1 with h|h|h
  ·exact .inl λh'=>Xj _ (YQ h h')
  ·rw[h];exact .inl (Xj _)
  ·exact .inr λh'=>Xj _ (YQ h h')
 ·simp only[ci,jcu]at h
  rw[pairLe_iff]
  rcases Qm a.1 b.1 with h1|h1|h1
  ·exact .inl h1
  ·exact .inr h1
  ·exact zf h1 h
def jjb:∀ {n:Nat}{zs:List Int},zs.length=n*2->Wh (pairsI zs)=zs/\(pairsI zs).length=n
 | 0,zs,h=>by
  have:zs=[]:=cB.1 zO
  subst this
  exact⟨rfl,rfl⟩
 | n+1,[],h=>by simp at h
 | n+1,[_],h=>by simp at h;omega
 | n+1,a::b::r,h=>by
  obtain⟨h1,h2⟩:=jjb (n:=n) (zs:=r) (by simp at h;omega)
  exact⟨by simp only[pairsI,Wh,h1],by simp only[pairsI,bj,h2]⟩
def jfu:∀ {zs:List Int},zs.all Yn=true->∀z∈pairsI zs,Yn z.1=true/\Yn z.2=true
 | [],_,z,hz=>by simp[pairsI]at hz
 | [_],_,z,hz=>by simp[pairsI]at hz
 | a::b::r,h,z,hz=>by
  simp only[bU,aj]at h
  rcases bB.1 hz with rfl|hz
  ·exact⟨h.1,h.2.1⟩
  ·exact jfu h.2.2 z hz
def j0c:∀L:List P2,(Wh L).length=L.length*2
 | []=>rfl
 | _::L=>by simp only[Wh,bj,j0c L];omega
def j6e:∀ (L:List SP) (t:Nat),t<L.length*2->(encP L[t / 2]!)[t % 2]! = .int .i64 (Wh (L.map (·.1)))[t]!
 | [],t,h=>by simp at h
 | x::L,0,_=>rfl
 | x::L,1,_=>rfl
 | x::L,t+2,h=>by
  have ih:=j6e L t (by simp at h;omega)
  have e1:(t+2) / 2=t / 2+1:=zO
  have e2:(t+2) % 2=t % 2:=zO
  rw[e1,e2]
  simpa[Wh] using ih
def jg1 (L:List SP):flatK encP 2 L.toArray=((Wh (L.map (·.1))).map (Value.int .i64)).toArray:=by
 apply gY
 ·simp[j0c]
 ·intro t h1 h2
  have ht:t<L.length*2:=by simpa using h1
  have:=j6e L t ht
  have h3:=get_flatK encP 2 L.toArray t (by simpa using ht)
  rw[getElem!_pos _ t h1]at h3
  rw[h3]
  have e:L.toArray[t / 2]! = L[t / 2]!:=zS
  rw[e,this,getElem!_pos _ t (by rw[j0c];simpa using ht)]
  simp
def jma (off:Nat) (L:List Int) (c:Array Value):putCells id off (L.map (Value.int .i64)).toArray c=putCells (Value.int .i64) off L.toArray c:=by
 unfold putCells
 congr 1
 funext k x
 simp only[db,bu]
 split
 ·rename_i h
  rw[getElem!_pos _ _ (by simp;omega),getElem!_pos _ _ (by simp;omega)]
  simp
 ·rfl
def jq5:jla Tryz.prog 119 (some 120):=by
 refine⟨⟨Tryz.f119,_,Tryz.func119,rfl,by kernel_rfl⟩,λp cap w=>?_,λblk off cap n zs w hlen hmay hH hblk hn=>?_⟩
 ·exact AnyF.slices_SortFunc_none laysF p cap _ w
 ·obtain⟨h1,h2⟩:=jjb (n:=n) (zs:=zs) hlen
  have hsm:=jfu hmay
  obtain⟨L,hL⟩:∃L:List SP,L.map (·.1)=pairsI zs:=⟨(pairsI zs).pmap (λp h=>⟨p,h⟩) hsm,by rw[List.map_pmap];simp⟩
  have hLl:L.length=n:=by rw[<- h2,<- hL,bu]
  have eg:∀args w,(callFunc 120 args).run Tryz.prog w=.ok (.enter 120 args) w:=enters_of Tryz.func120 (by kernel_rfl) rfl
  have hz:zs=Wh (L.map (·.1)):=by rw[hL,h1]
  have hHK:HoldsK encP 2 w blk off L.toArray:=by
   unfold HoldsK
   rw[jg1,<- hz]
   intro j hj
   have hj':j<zs.length:=by simpa using hj
   have:=hH j (by simpa using hj')
   rw[getElem!_pos _ _ (by simpa using hj')]at this ⊢
   simpa using this
  have key:=AnyQ.slices_SortFunc_total laysF 2 Tryz.isAgg178 Tryz.sizeOf178 encP (λ_=>rfl) (λx v hv=>by simp[encP]at hv;rcases hv with rfl|rfl <;> rfl) cfP swoP 120 #[] blk off cap L.toArray w eg
   (λ_ _ _ _ x y=>cf_call x y _) hHK hblk (by simpa[hLl] using hn) totP
  rw[show L.toArray.size=n by simpa using hLl]at key
  refine key.mono ?_
  rintro e w' ⟨rfl,m,os,rfl⟩
  refine⟨rfl,m,os,?_⟩
  unfold sortWorldK putRowK
  rw[jg1,jus,show L.toArray.toList.map (·.1)=pairsI zs from hL]
  unfold putRow
  congr 1
  congr 1
  funext c
  exact jma off _ c
end Go.Pv.T
namespace Go.Pv.T
open Go Go.Pv Go.Proofs
def j8p (p:Option Addr) (cap:Nat) (w:World):Calls Tryz.prog 151 #[.slice p 0 cap] w λe a=>e=.returned (.pointer (some ⟨w.heap.size,0,none⟩))/\∃t,a=w.alloc (.cells #[.int .u64 0,.int .u64 0,.int .u64 0,.int .u64 0,.int .u64 0,.int .u64 0,.int .u64 0,.int .u64 0] t):=by
 go_enter Tryz.func151,Tryz.ntmps151
 go_wp2
 refine wp_loop_rounds 1 ?_
 rw[rounds_succ]
 go_wp2
 go_ret
 exact⟨rfl,_,rfl⟩
def mkLaw:MkLaw Tryz.prog 151 setZ:=by
 refine⟨⟨_,_,Tryz.func151,rfl,by kernel_rfl⟩,λp b w=>(j8p p b w).mono ?_⟩
 rintro e d ⟨rfl,t,rfl⟩
 refine⟨rfl,_,t,rfl,rfl,λj x v c a=>?_⟩
 match j with
 | 0|1|2|3|4|5|6|7=>
  simp[setZ]at c a
  subst c a
  exact⟨rfl,λI=>.int _ _⟩
 | j+8=>simp[setZ]at a
end Go.Pv.T
namespace Go.Pv.T
open Go Go.Pv Go.Proofs Tryz
abbrev Jzz:=jK Tryz.prog false
def j0 {P:Program} {r:Bool} {f:FuncId} {fn:Func} {af:AF} (h1:P.funcs[f]? = some fn) (m:Bool:=false) (h2:compF P m r fn=some af:=by kernel_rfl) (h3:(fn.name == "runtime.NumGoroutine")=false:=by kernel_rfl) (h4:af.body.dstOk fn.ntmps=true:=by kernel_rfl):jK P r f af:=by
 unfold compF at h2
 cases hb:fn.body with
 |none=>rw[hb]at h2;cases h2
 |some c=>
  rw[hb,ah]at h2
  cases hc:comp P m r c with
  |none=>rw[hc]at h2;cases h2
  |some b=>
   rw[hc,ah]at h2
   cases hr:fn.results.toList.mapM (Yl P) with
   |none=>rw[hr]at h2;cases h2
   |some res=>
    rw[hr]at h2
    cases h2
    exact⟨m,fn,c,h1,hb,hc,hr,h3,h4⟩
def fc_2Ok {f:FuncId}{af:AF}(h:fc_2 f=some af):Jzz f af:=by
 unfold fc_2 at h
 split at h<;>try cases h
 ·exact j0 func182
 ·exact j0 func188
 ·exact j0 func189
 ·exact j0 func190
 ·exact j0 func191
 ·exact j0 func192
 ·exact j0 func194
 ·exact j0 func195
 ·exact j0 func196
 ·exact j0 func197
 ·exact j0 func198
 ·exact j0 func199
 ·exact j0 func200
 ·exact j0 func201
 ·exact j0 func202
 ·exact j0 func206
 ·exact j0 func207
 ·exact j0 func208
 ·exact j0 func211
 ·exact j0 func214
 ·exact j0 func218
 ·exact j0 func222
 ·exact j0 func232
 ·exact j0 func233
 ·exact j0 func234
 ·exact j0 func235
 ·exact j0 func236
 ·exact j0 func237
 ·exact j0 func243
 ·exact j0 func245
 ·exact j0 func246
 ·exact j0 func247
 ·exact j0 func248
 ·exact j0 func249
 ·exact j0 func250
 ·exact j0 func251
 ·exact j0 func253
 ·exact j0 func255
 ·exact j0 func279
 ·exact j0 func280
 ·exact j0 func281
 ·exact j0 func286
 ·exact j0 func287
 ·exact j0 func288
 ·exact j0 func290
 ·exact j0 func291
 ·exact j0 func301
 ·exact j0 func305
 ·exact j0 func314
 ·exact j0 func321
def fc_1Ok {f:FuncId}{af:AF}(h:fc_1 f=some af):Jzz f af:=by
 unfold fc_1 at h
 split at h<;>try cases h
 ·exact j0 func87
 ·exact j0 func90
 ·exact j0 func92
 ·exact j0 func93
 ·exact j0 func94
 ·exact j0 func95
 ·exact j0 func98 true
 ·exact j0 func101 true
 ·exact j0 func102 true
 ·exact j0 func104
 ·exact j0 func105 true
 ·exact j0 func106
 ·exact j0 func107
 ·exact j0 func108
 ·exact j0 func109
 ·exact j0 func110
 ·exact j0 func111
 ·exact j0 func112
 ·exact j0 func113 true
 ·exact j0 func114
 ·exact j0 func123
 ·exact j0 func124
 ·exact j0 func128
 ·exact j0 func129
 ·exact j0 func130
 ·exact j0 func131
 ·exact j0 func132
 ·exact j0 func133
 ·exact j0 func134
 ·exact j0 func135
 ·exact j0 func136
 ·exact j0 func137
 ·exact j0 func138
 ·exact j0 func141
 ·exact j0 func142
 ·exact j0 func144
 ·exact j0 func146
 ·exact j0 func147
 ·exact j0 func148
 ·exact j0 func158
 ·exact j0 func161
 ·exact j0 func162
 ·exact j0 func163
 ·exact j0 func165
 ·exact j0 func169
 ·exact j0 func174
 ·exact j0 func178
 ·exact j0 func179
 ·exact j0 func180
 ·exact j0 func181
 ·exact fc_2Ok h
def fcOk {f:FuncId}{af:AF}(h:fc f=some af):Jzz f af:=by
 unfold fc at h
 split at h<;>try cases h
 ·exact j0 func3
 ·exact j0 func9 true
 ·exact j0 func10
 ·exact j0 func11
 ·exact j0 func12 true
 ·exact j0 func13
 ·exact j0 func14
 ·exact j0 func16
 ·exact j0 func17
 ·exact j0 func18
 ·exact j0 func25
 ·exact j0 func28
 ·exact j0 func29
 ·exact j0 func30
 ·exact j0 func32
 ·exact j0 func33
 ·exact j0 func34
 ·exact j0 func37
 ·exact j0 func38
 ·exact j0 func41
 ·exact j0 func48 true
 ·exact j0 func49
 ·exact j0 func50
 ·exact j0 func51
 ·exact j0 func52 true
 ·exact j0 func53
 ·exact j0 func54
 ·exact j0 func55
 ·exact j0 func57 true
 ·exact j0 func59
 ·exact j0 func60 true
 ·exact j0 func61
 ·exact j0 func62 true
 ·exact j0 func63
 ·exact j0 func64
 ·exact j0 func65
 ·exact j0 func66
 ·exact j0 func67
 ·exact j0 func68
 ·exact j0 func69
 ·exact j0 func70
 ·exact j0 func71
 ·exact j0 func72
 ·exact j0 func73
 ·exact j0 func74 true
 ·exact j0 func75 true
 ·exact j0 func79
 ·exact j0 func81
 ·exact j0 func82
 ·exact j0 func85
 ·exact fc_1Ok h
def fs_1Ok {f:FuncId}{af:AF}(h:fs_1 f=some af):jK Tryz.prog true f af:=by
 unfold fs_1 at h
 split at h<;>try cases h
 ·exact j0 func177 true
 ·exact j0 func178 true
 ·exact j0 func179 true
 ·exact j0 func180 true
 ·exact j0 func181 true
 ·exact j0 func182 true
 ·exact j0 func203 true
 ·exact j0 func204 true
 ·exact j0 func205 true
 ·exact j0 func209 true
 ·exact j0 func210 true
 ·exact j0 func211 true
 ·exact j0 func212 true
 ·exact j0 func213 true
 ·exact j0 func215 true
 ·exact j0 func216 true
 ·exact j0 func217 true
 ·exact j0 func220 true
 ·exact j0 func221 true
 ·exact j0 func222 true
 ·exact j0 func233 true
 ·exact j0 func234 true
 ·exact j0 func235 true
 ·exact j0 func237 true
 ·exact j0 func252 true
 ·exact j0 func254 true
 ·exact j0 func255 true
 ·exact j0 func256 true
 ·exact j0 func257 true
 ·exact j0 func258 true
 ·exact j0 func259 true
 ·exact j0 func260 true
 ·exact j0 func261 true
 ·exact j0 func262 true
 ·exact j0 func263 true
 ·exact j0 func273 true
 ·exact j0 func289 true
 ·exact j0 func291 true
 ·exact j0 func292 true
 ·exact j0 func293 true
 ·exact j0 func298 true
 ·exact j0 func306 true
def fsOk {f:FuncId}{af:AF}(h:fs f=some af):jK Tryz.prog true f af:=by
 unfold fs at h
 split at h<;>try cases h
 ·exact j0 func27 true
 ·exact j0 func31 true
 ·exact j0 func38 true
 ·exact j0 func56 true
 ·exact j0 func58 true
 ·exact j0 func80 true
 ·exact j0 func83 true
 ·exact j0 func84 true
 ·exact j0 func86 true
 ·exact j0 func88 true
 ·exact j0 func89 true
 ·exact j0 func91 true
 ·exact j0 func96 true
 ·exact j0 func97 true
 ·exact j0 func99 true
 ·exact j0 func100 true
 ·exact j0 func103 true
 ·exact j0 func115 true
 ·exact j0 func116 true
 ·exact j0 func117 true
 ·exact j0 func118 true
 ·exact j0 func121 true
 ·exact j0 func122 true
 ·exact j0 func123 true
 ·exact j0 func124 true
 ·exact j0 func139 true
 ·exact j0 func140 true
 ·exact j0 func143 true
 ·exact j0 func145 true
 ·exact j0 func147 true
 ·exact j0 func148 true
 ·exact j0 func149 true
 ·exact j0 func150 true
 ·exact j0 func151 true
 ·exact j0 func152 true
 ·exact j0 func153 true
 ·exact j0 func154 true
 ·exact j0 func155 true
 ·exact j0 func156 true
 ·exact j0 func157 true
 ·exact j0 func159 true
 ·exact j0 func160 true
 ·exact j0 func164 true
 ·exact j0 func166 true
 ·exact j0 func168 true
 ·exact j0 func170 true
 ·exact j0 func171 true
 ·exact j0 func172 true
 ·exact j0 func175 true
 ·exact j0 func176 true
 ·exact fs_1Ok h
def envOk:EnvOk Tryz.prog E:=⟨λ_ _ h=>fcOk h,λ_ _ h=>fsOk h,(λf m h=>by
 simp only[E]at h
 split at h
 ·cases h;exact jww
 ·cases h;exact jq5
 ·cases h),(λf cs h=>by
 simp only[E]at h
 split at h
 ·cases h;exact mkLaw
 ·cases h)⟩
end Go.Pv.T
namespace Go.Pv.T
open Go Go.Pv Go.Proofs Go.ChangeShapes Go.WideShapes Go.ChangeAt Go.RowKit Go.Proofs.YtmanndcfeicokaaGreatDoor
def own:ownKnob Tryz.prog.godebug=none:=by kernel_rfl
def jy4:laidOutB Tryz.prog=true:=by kernel_rfl
def mixed:Tryz.prog.follows .mixedOrders=true:=by kernel_rfl
def juw:List (String × DataW Unit):=[("math/bits.deBruijn64tab",Rows.laid_math_bits_deBruijn64tab),("unicode/utf8.acceptRanges",Rows.laid_unicode_utf8_acceptRanges),("deemster/event.words",Rows.laid_deemster_event_words),("unicode/utf8.first",Rows.laid_unicode_utf8_first)]
def jy0:V->Value
 | .int k n=>.int k n
 | .str s=>.string ⟨s.toArray⟩
 | _=>.nilFunc
def putCells (h:Array Obj) (g:Nat) (cs:Array Value):Array Obj:=h.modify g fun
 | .cells _ t frozen=>.cells cs t frozen
 | o=>o
def jql:Array Value:=#[.int .u8 128,.int .u8 191,.int .u8 160,.int .u8 191,.int .u8 128,.int .u8 159,.int .u8 144,.int .u8 191,.int .u8 128,.int .u8 143,.int .u8 0,.int .u8 0,.int .u8 0,.int .u8 0,.int .u8 0,.int .u8 0,.int .u8 0,.int .u8 0,.int .u8 0,.int .u8 0,.int .u8 0,.int .u8 0,.int .u8 0,.int .u8 0,.int .u8 0,.int .u8 0,.int .u8 0,.int .u8 0,.int .u8 0,.int .u8 0,.int .u8 0,.int .u8 0]
noncomputable def laidWorld (os:Os):World :=
 let w0:=World.holding Tryz.prog os ⟨#[],#[],[]⟩
 { w0 with heap:=putCells (putCells (putCells (putCells w0.heap 4 (bruij.map jy0).toArray) 0 (words.map jy0).toArray) 2 (utf8first.map jy0).toArray) 3 jql }
def j47 (os:Os) (args:Array Value):laidMetH Tryz.prog juw ((laidWorld os).forCall (λ_ _=>0) ⟨#[],args,[]⟩).memory:=by
 rw[MakeChecks.laidMetH_plain _ _ _ (by kernel_rfl)]
 exact laidMet_of_run' 8 (by kernel_rfl) (by kernel_rfl)
def gWords:Tryz.prog.globalNamed "deemster/event.words" = some 0:=by kernel_rfl
def gFirst:Tryz.prog.globalNamed "unicode/utf8.first" = some 2:=by kernel_rfl
def gBruij:Tryz.prog.globalNamed "math/bits.deBruijn64tab" = some 4:=by kernel_rfl
def tBruij:(Tryz.prog.globals[4]?).map (·.type)=some 355:=by kernel_rfl
def tWords:(Tryz.prog.globals[0]?).map (·.type)=some 262:=by kernel_rfl
def tFirst:(Tryz.prog.globals[2]?).map (·.type)=some 311:=by kernel_rfl
def WJ (W:World):IMap:=λb o=>W.cell? ⟨b,o,none⟩
def j0s (W:World):jn9 (WJ W) W:=λ_ _ _ h=>h
def joe:DataW Unit->V
 | .lit (.int k n)=>.int k n
 | .lit (.string s)=>.str s
 | _=>.undef
def jqf {W:World}{t e:TypeId}{n fuel:Nat}{cs:List Value}{ds:List (DataW Unit)}{p:List MemPlace}(ht:Tryz.prog.underlying t=some (.array n e)) (hc:Tryz.prog.cellsOf e=1)
 (he:Tryz.prog.underlying e=some .string\/∃k,Tryz.prog.underlying e=some (.int k)) (h:DataW.trod (λ_=>()) Tryz.prog W 0 (λ_=>true) false fuel t cs=some (.agg ds,p)) (I:IMap) :
 ∀ (j:Nat) (d:DataW Unit),ds[j]? = some d->∃x,cs[j]? = some x/\RepP I x (joe d):=by
 obtain⟨xs,m,rfl,hx,hlen,hn,hel⟩:=DataW.trod_array ht h
 intro j d hd
 simp only[cm,DataW.agg.injEq]at hx
 rw[hx.1,aV]at hd
 cases hy:xs[j]? with
 | none=>simp[hy]at hd
 | some y=>
  rw[hy]at hd
  simp only[aU,ab]at hd
  have hj:j<n:=by rw[<- hn];exact(ak.1 hy).1
  have:=hel j hj
  rw[hc,bz,hy]at this
  have one:∀c,(cs.drop j).take 1=[c]->cs[j]? = some c:=by
   intro c hcc
   have:=zg List.head? hcc
   simpa[List.head?_take,List.head?_drop] using this
  rcases he with he|⟨k,he⟩
  ·obtain⟨s,e1,e2,_⟩:=DataW.trod_string he this
   refine⟨_,one _ e1,?_⟩
   rw[<- hd,e2]
   exact RepP.str s
  ·obtain⟨s,e1,e2,_⟩:=DataW.trod_int he this
   refine⟨_,one _ e1,?_⟩
   rw[<- hd,e2]
   exact RepP.int k s
def jsm {W:World}{nm:String}{g:Nat}{cs:Array Value}{ds:List (DataW Unit)}(hg:Tryz.prog.globalNamed nm=some g) (hv:W.var? Tryz.prog nm=some cs) (hp:(ds.map joe).all V.pureLeaf=true)
 (h:∀ (j:Nat) (d:DataW Unit),ds[j]? = some d->∃x,cs.toList[j]? = some x/\RepP (WJ W) x (joe d)):RepP (WJ W) (.pointer (some ⟨g,0,none⟩)) (.eptr (ds.map joe) 0):=by
 have hc:=World.var?_cell hg hv
 refine RepP.eptr g 0 0 (ds.map joe) (λj=>(cs[j]?).getD .nilFunc) (λj hj=>?_) (λj v hj=>?_) (λj v hj=>?_)
 ·rw[bu]at hj
  obtain⟨x,hx,_⟩:=h j ds[j] (aa hj)
  have hx':cs[j]? = some x:=by simpa using hx
  show W.cell? ⟨g,0+j,none⟩=_
  rw[bJ,hc j,hx']
  rfl
 ·exact aw.1 hp v (aJ hj)
 ·rw[aV]at hj
  cases hd:ds[j]? with
  | none=>rw[hd]at hj;cases hj
  | some d=>
   rw[hd]at hj
   cases hj
   obtain⟨x,hx,hr⟩:=h j d hd
   have hx':cs[j]? = some x:=by simpa using hx
   rw[hx']
   exact hr
def aggOf:DataW Unit->List (DataW Unit)
 | .agg l=>l
 | _=>[]
def j1r:(aggOf Rows.laid_deemster_event_words).map joe=words:=by kernel_rfl
def j5f:(aggOf Rows.laid_math_bits_deBruijn64tab).map joe=bruij:=by kernel_rfl
def j0y:Rows.laid_math_bits_deBruijn64tab=.agg (aggOf Rows.laid_math_bits_deBruijn64tab):=by kernel_rfl
def jvq:((aggOf Rows.laid_math_bits_deBruijn64tab).map joe).all V.pureLeaf=true:=by kernel_rfl
def j4s:(aggOf Rows.laid_unicode_utf8_first).map joe=utf8first:=by kernel_rfl
def jz8:Rows.laid_unicode_utf8_first=.agg (aggOf Rows.laid_unicode_utf8_first):=by kernel_rfl
def jtn:((aggOf Rows.laid_deemster_event_words).map joe).all V.pureLeaf=true:=by kernel_rfl
def jvf:((aggOf Rows.laid_unicode_utf8_first).map joe).all V.pureLeaf=true:=by kernel_rfl
def jn1 {H:Type}{enc:TypeId × Value->H}{W W':World}(hb:Below W.heap.size W W'):∀ {ts:List TypeId}{vs:List Value}{ds:List (DataW H)}{ps:List MemPlace},
 (∀t∈ts,Tryz.prog.readableRec t=true/\t<Tryz.prog.types.size)->(∀x∈ps,x.block<W.heap.size) ->
 DataW.TrodAll enc Tryz.prog W 0 (λ_=>true) true ts vs ds ps->DataW.TrodAll enc Tryz.prog W' 0 (λb=>decide (b<W.heap.size)) true ts vs ds ps
 | [],[],[],_,_,_,h=>h
 | t::ts,v::vs,d::ds,_,ht,hlt,⟨p,q,h1,h2,e⟩=>by
  subst e
  exact⟨p,q,Below.trod jy4 (ht t (aO ..)).1 (ht t (aO ..)).2 h1 hb (λx hx=>hlt x (cH _ hx)),
   jn1 hb (λt' h'=>ht t' (aX _ h')) (λx hx=>hlt x (co _ hx)) h2,rfl⟩
 | [],_::_,_,_,_,_,h=>h.elim
 | [],[],_::_,_,_,_,h=>h.elim
 | _::_,[],_,_,_,_,h=>h.elim
 | _::_,_::_,[],_,_,_,h=>h.elim
def jxm {H:Type}{enc:TypeId × Value->H}{fn:Func}{s:ChangeSpec}{W W':World}{args:Array Value}{ds gs:List (DataW H)}{before:List MemPlace}(hW:DataW.Whole enc Tryz.prog fn.params.toList s.vars false W args.toList ds gs before)
 (hv:s.vars=[]) (hr:fn.resultTypes = #[4]) (hs:(s.fn H ds).results=[.lit (.bool true)]) (ha:(s.fn H ds).args=ds) (hvs:(s.fn H ds).vars=[])
 (ht:∀t∈fn.params.toList,Tryz.prog.readableRec t=true/\t<Tryz.prog.types.size) (hg:W.grownBy W' none):s.post enc Tryz.prog fn false true false false W args (.bool true) W':=by
 have hb:Below W.heap.size W W':=(Below.refl _ W).grown hg zK (λ_ h=>by cases h)
 have hW':=hW
 obtain⟨p,q,hA,hV,rfl,_,_⟩:=hW
 rw[hv]at hV
 obtain⟨rfl,rfl⟩:=trodVars_none hV
 have hlt:∀x∈p,x.block<W.heap.size:=λx hx=>by simpa using hW'.lt x (cH _ hx)
 refine⟨ds,[],_,[],p,[],hW',?_,?_,?_,hb.frame _,λh=>by cases h⟩
 ·rw[aL,hs,hr]
  exact trodAll_mk1 (shut_bool Tryz.underlying4 _)
 ·rw[aL,ha]
  exact jn1 hb ht hlt hA
 ·rw[aL,hvs,hv]
  rfl
end Go.Pv.T
namespace Go.Pv.T
open Go Go.Pv Go.Proofs Go.ChangeShapes Go.WideShapes Go.ChangeAt Go.RowKit
inductive Ty where
 | bool
 | int (k:IntKind)
 | str
 | unit
 | pair (a b:Ty)
 | slice (t:Ty)
def Ty.cells:Ty->Nat
 | .unit=>0
 | .pair a b=>a.cells+b.cells
 | _=>1
inductive Sh:Ty->List V->Prop where
 | bool (b:Bool):Sh .bool [.bool b]
 | int (k:IntKind) (n:Int):Sh (.int k) [.int k n]
 | str (s:List UInt8):Sh .str [.str s]
 | unit:Sh .unit []
 | pair {a b:Ty}{va vb:List V}(ha:Sh a va) (hb:Sh b vb):Sh (.pair a b) (va++vb)
 | nil {t:Ty}:Sh (.slice t) [.sl none true 0 []]
 | slice {t:Ty}(es:List (List V)) (hn:es.length<=maxLen) (h:∀e∈es,Sh t e):Sh (.slice t) [.sl none false es.length es.flatten]
def QQ (P:Program) (g:TypeId->Option Ty):List Field->Nat->Option Ty
 | [],_=>some .unit
 | f::r,off=>if f.offset=off then (g f.type).bind λa=>if P.cellsOf f.type=a.cells then (QQ P g r (off+a.cells)).map (.pair a) else none else none
def j7d (P:Program):Nat->TypeId->Option Ty
 | 0,_=>none
 | n+1,t=>match P.underlying t with
  | some .bool=>some .bool
  | some (.int k)=>some (.int k)
  | some .string=>some .str
  | some (.slice e)=>(j7d P n e).bind λty=>if P.cellsOf e=ty.cells then some (.slice ty) else none
  | some (.struct fs)=>(QQ P (j7d P n) fs.toList 0).bind λty=>if P.cellsOf t=ty.cells then some ty else none
  | _=>none
def Sh.len {t:Ty}{vs:List V}(h:Sh t vs):vs.length=t.cells:=by
 induction h with
 | pair _ _ a b=>simp[Ty.cells,a,b]
 | _=>rfl
def Sh.pure {t:Ty}{vs:List V}(h:Sh t vs):∀v∈vs,v.pureLeaf=true:=by
 induction h with
 | pair _ _ b c=>intro v a;rcases aQ.1 a with h|h;exact b v h;exact c v h
 | unit=>intro v a;cases a
 | _=>intro v a;rw[ae]at a;subst a;rfl
def Reps (I:IMap) (cs:List Value) (vs:List V):Prop:=cs.length=vs.length/\∀ (j:Nat) (x:Value) (v:V),cs[j]? = some x->vs[j]? = some v->RepP I x v
def Reps.one {I:IMap}{x:Value}{v:V}(h:RepP I x v):Reps I [x] [v] :=
 ⟨rfl,λj y u a b=>by
  match j,a,b with
  | 0,a,b=>cases a;cases b;exact h
  | j+1,a,_=>simp at a⟩
def jkz {g:Type}{sz:Nat}(c:0<sz):∀ (es:List (List g)),(∀e∈es,e.length=sz)->∀j,es.flatten[j]? = (es[j / sz]?).bind λe=>e[j % sz]?
 | [],_,j=>by simp
 | e::es,h,j=>by
  have b:=h e (aO ..);rw[List.flatten_cons,gj,b];split;rename_i a;rw[Nat.div_eq_of_lt a,dO a];rfl
  ·rename_i d;have f:j=(j - sz)+sz:=zO;rw[jkz c es (λe b=>h e (aX _ b)) (j - sz)];conv=>rhs;rw[f,Nat.add_div_right _ c,Nat.add_mod_right]
   rfl
def jsr {a:Type}{sz:Nat}:∀ (es:List (List a)),(∀e∈es,e.length=sz)->es.flatten.length=es.length*sz
 | [],_=>by simp
 | e::es,h=>by rw[List.flatten_cons,ap,h e (aO ..),jsr es (λe b=>h e (aX _ b)),bj,dh];omega
section
variable {H:Type}{enc:TypeId × Value->H}{W:World}{P:Program}
def jme {e:Type}{p:Nat->e->Prop}:∀ (n:Nat),(∀i,i<n->∃a,p i a)->∃l:List e,l.length=n/\∀i a,l[i]? = some a->p i a
 | 0,_=>⟨[],rfl,λi a h=>by simp at h⟩
 | n+1,h=>by
  obtain⟨l,d,j⟩:=jme n (λi k=>h i zO);obtain⟨a,g⟩:=h n zO;refine⟨l++[a],by simp[d],λi b c=>?_⟩;rw[gj]at c;split at c;exact j i b c;rename_i f;have:i=n:=by have:=(ak.1 c).1;simp at this;omega
  subst this;simp[d]at c;subst c;exact g
def jjd {g:TypeId->Option Ty}{n:Nat}{cs:List Value}(z:∀t ty,g t=some ty->∀cs x,DataW.trod enc P W 0 (λ_=>true) true n t cs=some x->∃e,Sh ty e/\Reps (WJ W) cs e) :
 ∀ (fs:List Field) (off:Nat) (ty:Ty),QQ P g fs off=some ty->(∀f∈fs,∃x,DataW.trod enc P W 0 (λ_=>true) true n f.type ((cs.drop f.offset).take (P.cellsOf f.type))=some x)->cs.length=off+ty.cells ->
  ∃e,Sh ty e/\Reps (WJ W) (cs.drop off) e
 | [],off,ty,h,_,hl=>by simp only[QQ,ab]at h;subst h;simp only[Ty.cells,bl]at hl;exact⟨[],.unit,by simp[hl],λj x v _ J=>by simp at J⟩
 | f::r,off,ty,h,hx,hl=>by
  simp only[QQ]at h;split at h;rename_i i;cases m:g f.type with
  | none=>rw[m]at h;cases h
  | some a=>
   rw[m,ah]at h;split at h;rename_i K;cases l:QQ P g r (off+a.cells) with
   | none=>rw[l]at h;cases h
   | some b=>rw[l]at h;cases h;simp only[Ty.cells]at hl;obtain⟨x,o⟩:=hx f (aO ..);obtain⟨F,p,d⟩:=z f.type a m _ _ o;obtain⟨I,w,s⟩:=jjd z r (off+a.cells) b l (λG D=>hx G (aX _ D)) zO;refine⟨F++I,.pair p w,?_,λj y u q c=>?_⟩;have:=p.len;have:=w.len;simp only[bc,ap];omega;rw[i,K]at d;rw[gj]at c;rw[p.len]at c;rw[bF]at q;split at c;rename_i k;exact d.2 j y u (by rw[cR,zb k,bF];exact q) c;rename_i B;exact s.2 (j - a.cells) y u (by rw[bF,show off+a.cells+(j - a.cells)=off+j from by omega];exact q) c
   cases h
  cases h
def jxc:∀ (n:Nat) (t:TypeId) (ty:Ty),j7d P n t=some ty->∀ (D:Nat) (cs:List Value) (x:DataW H × List MemPlace),DataW.trod enc P W 0 (λ_=>true) true D t cs=some x->∃G,Sh ty G/\Reps (WJ W) cs G
 | 0,_,_,h,_,_,_,_=>by cases h
 | n+1,t,ty,h,D,cs,x,K=>by
  simp only[j7d]at h;split at h;rename_i r;cases h;obtain⟨b,rfl,_⟩:=DataW.trod_bool r K;exact⟨_,.bool b,Reps.one (.bool b)⟩;rename_i k r;cases h;obtain⟨b,rfl,_⟩:=DataW.trod_int r K;exact⟨_,.int k b,Reps.one (.int k b)⟩;rename_i r;cases h;obtain⟨s,rfl,_⟩:=DataW.trod_string r K;exact⟨_,.str s.data.toList,Reps.one (.str s)⟩;rename_i e r;cases L:j7d P n e with
  | none=>rw[L]at h;cases h
  | some g=>
   rw[L,ah]at h;split at h;rename_i hc;cases h;rcases DataW.trod_slice r K with⟨rfl,_⟩|⟨a,len,b8,b6,c4,m,_,rfl,_,_,M,hm,c3,I,_,_⟩;exact⟨_,.nil,Reps.one .slnil⟩;have T:∀i,i<len->∃G,Sh g G/\∃c,W.cells? 0 (a.add (i*g.cells)) g.cells=some c/\Reps (WJ W) c G:=by intro i Z;have w:=I i Z;rw[aa zO,hc]at w;obtain⟨c,c2,c0⟩:=ec.1 w;obtain⟨G,h3,h4⟩:=jxc n e g L m c _ c0;exact⟨G,h3,c,c2,h4⟩
   obtain⟨p,w,h2⟩:=jme len T;have a0:∀e∈p,Sh g e:=λe L=>by obtain⟨i,Z⟩:=gi L;exact(h2 i e Z).1
   have S:∀e∈p,e.length=g.cells:=λe L=>(a0 e L).len;have J:∀ (j:Nat) (v:V),p.flatten[j]? = some v->0<g.cells/\j / g.cells<len/\∃y,W.cell? ((a.add (j / g.cells*g.cells)).add (j % g.cells))=some y/\RepP (WJ W) y v/\v.pureLeaf=true:=by
    intro j v d;have N:0<g.cells:=by rcases cL g.cells with h|h;have:=jsr p S;rw[h,Nat.mul_zero]at this;rw[cB.1 this]at d;simp at d;exact h
    rw[jkz N p S]at d;cases u:p[j / g.cells]? with
    | none=>rw[u]at d;cases d
    | some e=>
     rw[u,ah]at d;have F:j / g.cells<len:=by rw[<- w];exact(ak.1 u).1
     obtain⟨O,c,b7,X⟩:=h2 _ e u;have b9:=ij j N;have q:=(World.cells?_some b7).2.2 _ b9;have c1:c.length=g.cells:=by rw[X.1,O.len]
     rw[aa zO]at q;exact⟨N,F,_,q,X.2 _ _ v (aa zO) d,O.pure v (aJ d)⟩
   have B:p.flatten≠[]->a.spot=none:=by
    intro b5;obtain⟨v,hv⟩:∃v,p.flatten[0]? = some v:=by
     cases U:p.flatten with
     | nil=>exact zf U b5
     | cons v l=>exact⟨v,rfl⟩
    obtain⟨N,_,y,z,_⟩:=J 0 v hv;rw[Nat.zero_div,Nat.zero_mod,dF]at z;simpa[Addr.add] using World.cell?_spot z
   have o:∀ (j:Nat) (v:V),p.flatten[j]? = some v->∃y,W.cell? ⟨a.block,a.off+j,none⟩=some y/\RepP (WJ W) y v:=by intro j v d;obtain⟨N,_,y,z,hr,_⟩:=J j v d;have hs:=B (λh=>by rw[h]at d;simp at d);obtain⟨b,off,sp⟩:=a;simp only at hs;subst hs;rw[add_plain,add_plain]at z;refine⟨y,?_,hr⟩;rw[<- z,aA,Nat.div_add_mod']
   rw[<- w]at M;refine⟨_,.slice p (bI M hm) a0,Reps.one ?_⟩;rw[w]at M ⊢;refine RepP.sl a len b8 p.flatten (λj=>(W.cell? ⟨a.block,a.off+j,none⟩).getD .nilFunc) B M hm (λj d=>?_) (λj v d=>?_) (λj v d=>?_);obtain⟨y,z,_⟩:=o j _ (aa d);show W.cell? _=some ((W.cell? _).getD _);rw[z];rfl;exact(J j v d).2.2.choose_spec.2.2;obtain⟨y,z,hr⟩:=o j v d;show RepP _ ((W.cell? _).getD _) v;rw[z];exact hr;cases h
  rename_i fs r;cases U:QQ P (j7d P n) fs.toList 0 with
  | none=>rw[U]at h;cases h
  | some b=>
   rw[U,ah]at h;split at h;rename_i hc;cases h;obtain⟨xs,m,rfl,_,M,hn,I⟩:=DataW.trod_struct r K;have:=jjd (n:=m) (cs:=cs) (λt ty h cs x K=>jxc n t ty h m cs x K) fs.toList 0 ty U (λf b0=>by
    obtain⟨i,Z⟩:=gi b0;have Q:fs[i]? = some f:=by simpa using Z
    have w:=I i f Q;have F:i<xs.length:=by rw[hn];exact(aR.1 Q).1
    rw[aa F]at w;exact⟨_,w⟩) (by rw[bJ,M,hc])
   simpa using this;cases h
  cases h
end
end Go.Pv.T
namespace Go.Pv.T
open Go Go.Pv Go.Proofs Go.ChangeShapes Go.WideShapes Go.ChangeAt Go.RowKit Go.Proofs.YtmanndcfeicokaaGreatDoor
def j5h {W:World}{t e:TypeId}{n fuel:Nat}{cs:List Value}{ds:List (DataW Unit)}{p:List MemPlace}{f0 f1:Field}{k0 k1:IntKind}(ht:Tryz.prog.underlying t=some (.array n e)) (hc:Tryz.prog.cellsOf e=2)
 (he:Tryz.prog.underlying e=some (.struct #[f0,f1])) (o0:f0.offset=0) (o1:f1.offset=1) (c0:Tryz.prog.cellsOf f0.type=1) (c1:Tryz.prog.cellsOf f1.type=1)
 (u0:Tryz.prog.underlying f0.type=some (.int k0)) (u1:Tryz.prog.underlying f1.type=some (.int k1)) (h:DataW.trod (λ_=>()) Tryz.prog W 0 (λ_=>true) false fuel t cs=some (.agg ds,p)) (I:IMap) :
 ∀ (j:Nat) (d:DataW Unit),(ds.map aggOf).flatten[j]? = some d->∃x,cs[j]? = some x/\RepP I x (joe d):=by
 obtain⟨xs,m,rfl,hx,hlen,hn,hel⟩:=DataW.trod_array ht h
 simp only[cm,DataW.agg.injEq]at hx
 have one:∀ (l:List Value) (j:Nat) c,(l.drop j).take 1=[c]->l[j]? = some c:=by
  intro l j c hcc
  have:=zg List.head? hcc
  simpa[List.head?_take,List.head?_drop] using this
 have each:∀ (j:Nat) (y:DataW Unit × List MemPlace),xs[j]? = some y->∃d0 d1 x0 x1,y.1=.agg [d0,d1]/\cs[j*2]? = some x0/\RepP I x0 (joe d0)/\cs[j*2+1]? = some x1/\RepP I x1 (joe d1):=by
  intro j y hy
  have hj:j<n:=by rw[<- hn];exact(ak.1 hy).1
  have h2:=hel j hj
  rw[hc,hy]at h2
  obtain⟨y0,y1,m',e1,hl2,g0,g1⟩:=trod_struct2 he h2
  rw[o0,c0]at g0
  rw[o1,c1]at g1
  obtain⟨z0,a0,b0,_⟩:=DataW.trod_int u0 g0
  obtain⟨z1,a1,b1,_⟩:=DataW.trod_int u1 g1
  have q0:=one _ _ _ a0
  have q1:=one _ _ _ a1
  rw[cR,zb zO,bF]at q0 q1
  refine⟨y0.1,y1.1,_,_,by rw[e1],by simpa using q0,?_,q1,?_⟩
  ·rw[b0];exact RepP.int k0 z0
  ·rw[b1];exact RepP.int k1 z1
 have hds:ds=xs.map (·.1):=hx.1
 have len2:∀e∈ds.map aggOf,e.length=2:=by
  intro e he
  rw[hds,cM]at he
  obtain⟨y,hy,rfl⟩:=aI.1 he
  obtain⟨j,hj⟩:=gi hy
  obtain⟨d0,d1,x0,x1,e,_⟩:=each j y hj
  simp only[Function.comp,e,aggOf,bj,cD]
 intro k d hd
 rw[jkz zQ _ len2]at hd
 rw[hds,cM,aV]at hd
 cases hy:xs[k / 2]? with
 | none=>rw[hy]at hd;cases hd
 | some y=>
  rw[hy]at hd
  obtain⟨d0,d1,x0,x1,e,g0,r0,g1,r1⟩:=each _ y hy
  simp only[aU,ah,Function.comp,e,aggOf]at hd
  rcases ii k with hk|hk
  ·rw[hk]at hd
   cases hd
   rw[show k / 2*2=k from by omega]at g0
   exact⟨x0,g0,r0⟩
  ·rw[hk]at hd
   cases hd
   rw[show k / 2*2+1=k from by omega]at g1
   exact⟨x1,g1,r1⟩
def accD:List (DataW Unit):=((aggOf Rows.laid_unicode_utf8_acceptRanges).map aggOf).flatten
def gAcc:Tryz.prog.globalNamed "unicode/utf8.acceptRanges" = some 3:=by kernel_rfl
def acc_eq:accD.map joe=accR:=by kernel_rfl
def acc_agg:Rows.laid_unicode_utf8_acceptRanges=.agg (aggOf Rows.laid_unicode_utf8_acceptRanges):=by kernel_rfl
def j5l:(accD.map joe).all V.pureLeaf=true:=by kernel_rfl
def tAcc:(Tryz.prog.globals[3]?).map (·.type)=some 314:=by kernel_rfl
def glOk {W:World}(h:laidMetH Tryz.prog juw W):GlOk E (WJ W):=by
 rw[MakeChecks.laidMetH_plain _ _ _ (by kernel_rfl)]at h
 obtain⟨ps,⟨g3,t3,cs3,f3,p3,q3,hg3,ht3,hv3,hd3,⟨g2,t2,cs2,f2,p2,q2,hg2,ht2,hv2,hd2,⟨g0,t0,cs0,f0,p0,q0,hg0,ht0,hv0,hd0,⟨g1,t1,cs1,f1,p1,q1,hg1,ht1,hv1,hd1,_,_⟩,_⟩,_⟩,_⟩,_,_⟩:=h
 obtain rfl:=cu (gWords.symm.trans hg0)
 obtain rfl:=cu (gFirst.symm.trans hg1)
 obtain rfl:=cu (tWords.symm.trans ht0)
 obtain rfl:=cu (tFirst.symm.trans ht1)
 obtain rfl:=cu (gBruij.symm.trans hg3)
 obtain rfl:=cu (tBruij.symm.trans ht3)
 obtain rfl:=cu (gAcc.symm.trans hg2)
 obtain rfl:=cu (tAcc.symm.trans ht2)
 intro g cs hcs
 simp only[E]at hcs
 split at hcs
 ·cases hcs
  rw[<- j1r]
  exact jsm gWords hv0 jtn (jqf Tryz.underlying262 (by kernel_rfl) (Or.inl (by kernel_rfl)) hd0 _)
 ·cases hcs
  rw[<- j4s]
  rw[jz8]at hd1
  exact jsm gFirst hv1 jvf (jqf Tryz.underlying311 (by kernel_rfl) (Or.inr ⟨.u8,by kernel_rfl⟩) hd1 _)
 ·cases hcs
  rw[<- acc_eq]
  rw[acc_agg]at hd2
  exact jsm gAcc hv2 j5l (j5h (k0:=.u8) (k1:=.u8) Tryz.underlying314 (by kernel_rfl) Tryz.underlying313 rfl rfl (by kernel_rfl) (by kernel_rfl) (by kernel_rfl) (by kernel_rfl) hd2 _)
 ·cases hcs
  rw[<- j5f]
  rw[j0y]at hd3
  exact jsm gBruij hv3 jvq (jqf Tryz.underlying355 (by kernel_rfl) (Or.inr ⟨.u8,by kernel_rfl⟩) hd3 _)
 ·cases hcs
def jvp {f:FuncId}{W:World}{args:Array Value}{vs:List V}(hL:laidMetH Tryz.prog juw W) (hlen:args.size=vs.length) (hr:∀ (j:Nat) (x:Value) (v:V),args[j]? = some x->vs[j]? = some v->RepP (WJ W) x v)
 (he:Ev E f vs (.bool true)):Calls Tryz.prog f args W λe w'=>e=.returned (.bool true)/\W.grownBy w' none:=by
 refine(Ev.sound mixed envOk he W (WJ W) args (j0s W) (glOk hL) hlen hr).mono λe W' ⟨x,τ,I',h1,h2,_,_,_,h3,_⟩=>⟨?_,h2⟩
 rw[h1]
 have h4:RepP I' x (.bool true):=h3
 cases h4
 rfl
abbrev valTy:Ty:=.pair (.int .i64) (.pair (.int .i64) .unit)
abbrev opTy:Ty:=.pair .bool (.pair (.int .i64) (.pair valTy .unit))
abbrev txnTy:Ty:=.pair (.int .i64) (.pair (.int .i64) (.pair (.slice opTy) .unit))
abbrev j6c:Ty:=.pair (.slice .str) (.pair (.slice .str) (.pair (.slice txnTy) .unit))
def je6 {α:Type}{t:Ty}{f:α->List V}(hf:∀e,Sh t e->∃a,e=f a) {vs:List V}(h:Sh (.slice t) vs):∃nl l,vs=[yl nl f l]:=by
 cases h with
 | nil=>exact⟨true,[],rfl⟩
 | slice es hn h=>
  have all:∀es:List (List V),(∀e∈es,Sh t e)->∃l:List α,es=l.map f:=by
   intro es
   induction es with
   | nil=>intro _;exact⟨[],rfl⟩
   | cons e es ih=>
    intro h
    obtain⟨a,rfl⟩:=hf e (h e (aO ..))
    obtain⟨l,rfl⟩:=ih (λe he=>h e (aX _ he))
    exact⟨a::l,rfl⟩
  obtain⟨l,rfl⟩:=all es h
  exact⟨false,l,by simp[yl,List.flatMap]⟩
def sh_val {vs:List V}(h:Sh valTy vs):∃v:Val',vs=J7 v:=by
 cases h with
 | pair ha hb=>cases ha with
  | int _ k=>cases hb with
   | pair hc hd=>cases hc with
    | int _ n=>cases hd;exact⟨⟨k,n⟩,rfl⟩
def sh_op {vs:List V}(h:Sh opTy vs):∃o:Op',vs=yS o:=by
 cases h with
 | pair ha hb=>cases ha with
  | bool w=>cases hb with
   | pair hc hd=>cases hc with
    | int _ k=>cases hd with
     | pair he hf=>
      obtain⟨v,rfl⟩:=sh_val he
      cases hf
      exact⟨⟨w,k,v⟩,rfl⟩
def sh_txn {vs:List V}(h:Sh txnTy vs):∃t:Txn',vs=jf t:=by
 cases h with
 | pair ha hb=>cases ha with
  | int _ s=>cases hb with
   | pair hc hd=>cases hc with
    | int _ f=>cases hd with
     | pair he hf=>
      obtain⟨nl,l,rfl⟩:=je6 (f:=yS) (λe=>sh_op) he
      cases hf
      exact⟨⟨s,f,nl,l⟩,rfl⟩
def j5y {vs:List V}(h:Sh .str vs):∃s:List UInt8,vs=X1 s:=by
 cases h with
 | str s=>exact⟨s,rfl⟩
def j7q {vs:List V}(h:Sh j6c vs):∃g:Hist',vs=yb g:=by
 cases h with
 | pair ha hb=>cases hb with
  | pair hc hd=>cases hd with
   | pair he hf=>
    obtain⟨n0,l0,rfl⟩:=je6 (f:=X1) (λe=>j5y) ha
    obtain⟨n1,l1,rfl⟩:=je6 (f:=X1) (λe=>j5y) hc
    obtain⟨n2,l2,rfl⟩:=je6 (f:=jf) (λe=>sh_txn) he
    cases hf
    exact⟨⟨n0,l0,n1,l1,n2,l2⟩,rfl⟩
def jm5 {v:V}(h:v.pureLeaf=true):v.leaf=true:=by cases v <;> first|rfl|cases h
section
variable {H:Type}{enc:TypeId × Value->H}{W:World}{v:Value}{d:DataW H}{p:List MemPlace}{base:Nat}
def jtt {t:TypeId}{fs:Array Field}{n:Nat}{ty:Ty}(ht:Tryz.prog.underlying t=some (.struct fs)) (hty:j7d Tryz.prog n t=some ty) (hval:Value.okWide Tryz.prog W .any base t v)
 (h:DataW.Trod enc Tryz.prog W 0 (λ_=>true) true t v d p):∃vs,Sh ty vs/\RepP (WJ W) v (.agg vs):=by
 obtain⟨cs,rfl,_⟩:=okWide_struct ht hval
 obtain⟨fuel,hf⟩:=h
 obtain⟨vs,hs,hr⟩:=jxc n t ty hty fuel _ _ hf
 refine⟨vs,hs,RepP.agg cs vs (by simpa[Value.cells] using hr.1) (λj v hj=>jm5 (hs.pure v (aJ hj))) (λj x v hx hv=>hr.2 j x v (by simpa[Value.cells] using hx) hv)⟩
def j76 (ts:List TypeId) (h:(ts.all λt=>Tryz.prog.readableRec t && decide (t<Tryz.prog.types.size))=true) (t:TypeId) (ht:t∈ts):Tryz.prog.readableRec t=true/\t<Tryz.prog.types.size:=by
 have:=aw.1 h t ht
 simpa using this
def j4l (hval:Value.okWide Tryz.prog W .any base 25 v) (h:DataW.Trod enc Tryz.prog W 0 (λ_=>true) true 25 v d p):∃g:Hist',RepP (WJ W) v (.agg (yb g)):=by
 obtain⟨vs,hs,hr⟩:=jtt (n:=8) (ty:=j6c) Tryz.underlying25 (by kernel_rfl) hval h
 obtain⟨g,rfl⟩:=j7q hs
 exact⟨g,hr⟩
def okInt {k:IntKind}{t:TypeId}(ht:Tryz.prog.underlying t=some (.int k)) (hval:Value.okWide Tryz.prog W .any base t v):∃n,v=.int k n/\k.has n:=by
 simp only[Value.okWide,ht,Cell.okWide]at hval
 cases v <;> simp_all [Cell.ok]
def jz2 (hval:Value.okWide Tryz.prog W .any base 3 v):∃n:Int,(-9223372036854775808<=n/\n<9223372036854775808)/\RepP (WJ W) v (.int .i64 n):=by
 obtain⟨n,rfl,h⟩:=okInt Tryz.underlying3 hval
 refine⟨n,?_,RepP.int .i64 n⟩
 simp[IntKind.has,IntKind.min,IntKind.max,IntKind.bits,IntKind.signed]at h
 omega
end
end Go.Pv.T
