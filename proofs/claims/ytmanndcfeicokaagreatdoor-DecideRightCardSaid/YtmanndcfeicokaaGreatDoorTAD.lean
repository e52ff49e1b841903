/- Part. -/
import Derived.Test.YtmanndcfeicokaaGreatDoorTAC
import Derived.Laws.BitsLemmas
set_option maxRecDepth 100000
set_option maxHeartbeats 8000000
set_option linter.all false
namespace Go.Pv.T
open Go Go.Pv
structure Val' where
 kind:Int
 n:Int
 deriving DecidableEq
structure Op' where
 w:Bool
 key:Int
 v:Val'
 deriving DecidableEq
structure Txn' where
 s:Int
 f:Int
 nl:Bool
 ops:List Op'
structure Hist' where
 sn:Bool
 ss:List (List UInt8)
 kn:Bool
 ks:List (List UInt8)
 tn:Bool
 ts:List Txn'
def J4 (v:Val'):List V:=[.int .i64 v.kind,.int .i64 v.n]
def yQ (o:Op'):List V:=[.bool o.w,.int .i64 o.key,.int .i64 o.v.kind,.int .i64 o.v.n]
def yl {α:Type}(nl:Bool) (f:α->List V) (l:List α):V:=.sl none nl l.length (l.flatMap f)
def jl (t:Txn'):List V:=[.int .i64 t.s,.int .i64 t.f,yl t.nl yQ t.ops]
def Jp (s:List UInt8):List V:=[.str s]
def ya (h:Hist'):List V:=[yl h.sn Jp h.ss,yl h.kn Jp h.ks,yl h.tn jl h.ts]
def zH {p:Prop}(h:p:=by simp[ya,yl]):p:=h
def zI {p:Prop}(h:p:=by simp[ya]):p:=h
@[simp] theorem j85 {a:Type}(nl:Bool) (f:a->List V) (l:List a):QV (yl nl f l)=some (.int .i64 l.length):=rfl
@[simp] theorem slOf_leaf {a:Type}(nl:Bool) (f:a->List V) (l:List a):(yl nl f l).leaf=true:=rfl
@[simp] theorem slOf_cells {a:Type}(nl:Bool) (f:a->List V) (l:List a):(yl nl f l).cells=[yl nl f l]:=rfl
@[simp] theorem slOf_strip {a:Type}(nl:Bool) (f:a->List V) (l:List a):(yl nl f l).strip=yl nl f l:=rfl
@[simp] theorem j7w {a:Type}(nl:Bool) (f:a->List V) (l:List a):(yl nl f l).strip1=yl nl f l:=rfl
@[simp] theorem j53 {a:Type}(nl:Bool) (f:a->List V) (l:List a):(yl nl f l).pureTop=true:=rfl
@[simp] theorem j2i {a:Type}(nl:Bool) (f:a->List V) (l:List a):(yl nl f l).pureLeaf=true:=rfl
@[simp] theorem int_strip (k:IntKind) (n:Int):(V.int k n).strip=.int k n:=rfl
@[simp] theorem bool_strip (n:Bool):(V.bool n).strip=.bool n:=rfl
@[simp] theorem int_strip1 (k:IntKind) (n:Int):(V.int k n).strip1=.int k n:=rfl
@[simp] theorem bool_strip1 (n:Bool):(V.bool n).strip1=.bool n:=rfl
@[simp] theorem j94 (k:IntKind) (n:Int):(V.int k n).pureTop=true:=rfl
@[simp] theorem j6z (n:Bool):(V.bool n).pureTop=true:=rfl
@[simp] theorem j6h (k:IntKind) (n:Int):(V.int k n).pureLeaf=true:=rfl
@[simp] theorem j5l (n:Bool):(V.bool n).pureLeaf=true:=rfl
@[simp] theorem agg_strip (cs:List V):(V.agg cs).strip=.agg (cs.map V.strip1):=rfl
@[simp] theorem agg_pureTop (cs:List V):(V.agg cs).pureTop=cs.all V.pureLeaf:=rfl
def Yi (n:Int) (l:Nat):Bool:=decide (0<=n)&&decide (n<l)
def ev144 (n:Int) (nl:Bool) (l:List (List UInt8)):Ev E 144 [.int .i64 n,yl nl Jp l] (.bool (Yi n l.length)):=by
 refine jQ rfl ?_;by_cases h:0<=n
 ·conv in(occs:=*)F144=>all_goals cbv
  simp[h];exact j5 rfl (by simp[Yi,h]) rfl
 ·conv in(occs:=*)F144=>all_goals cbv
  simp[h];exact j5 rfl (by simp[Yi,h]) rfl
def jex (h:Hist') (t:Txn'):Bool:=Yi t.s h.ss.length&&(decide (1<=t.f)&&(decide (t.f<=3)&&decide (t.ops.length<=20)))
def ev90 (h:Hist') (t:Txn'):Ev E 90 [.agg (ya h),.agg (jl t)] (.bool (jex h t)):=by
 refine jQ rfl ?_;conv in(occs:=*)F90=>all_goals cbv
 simp[ya,jl,j0];refine Y9 (vs:=[.int .i64 t.s,yl h.sn Jp h.ss]) zS rfl zS (by simpa using ev144 t.s h.sn h.ss) ?_;unfold jex;cases c:Yi t.s h.ss.length;simp;exact j5 rfl zS rfl;by_cases a:1<=t.f;by_cases b:t.f<=3;simp[j0,a,b];exact j5 rfl zP rfl;simp[j0,a,b];exact j5 rfl zS rfl;simp[j0,a];exact j5 rfl zS rfl
def jtn (v:Val'):Bool:=v.kind==1||((v.kind==0||v.kind==2)&&v.n==0)
def ev130 (v:Val'):Ev E 130 [.agg (J4 v)] (.bool (jtn v)):=by
 refine jQ rfl ?_;unfold jtn;cases a:v.kind==1
 ·cases b:v.kind==0
  ·cases c:v.kind==2
   ·conv in(occs:=*)F130=>all_goals cbv
    simp[J4,j0,a,b,c];exact j5 rfl zS rfl
   ·conv in(occs:=*)F130=>all_goals cbv
    simp[J4,j0,a,b,c];exact j5 rfl zS rfl
  ·conv in(occs:=*)F130=>all_goals cbv
   simp[J4,j0,a,b];exact j5 rfl zS rfl
 ·conv in(occs:=*)F130=>all_goals cbv
  simp[J4,j0,a];exact j5 rfl zS rfl
def jd8 (v:Val'):V:=if v.kind=1 then .iface 2 (.int .i64 v.n) else if v.kind=2 then .iface 320 (.agg []) else .nilif
def ev208 (v:Val'):Ev E 208 [.agg (J4 v)] (.agg [jd8 v]):=by
 refine jQ rfl ?_;unfold jd8;by_cases b:v.kind=1
 ·conv in(occs:=*)F208=>all_goals cbv
  simp[J4,j0,b];exact JM rfl (l:=[.agg [.iface 2 (.int .i64 v.n)]]) (by simp[jv,j0]) rfl rfl
 ·have b1:(v.kind==1)=false:=by simpa using b
  by_cases a:v.kind=2
  ·conv in(occs:=*)F208=>all_goals cbv
   simp[J4,j0,a];exact JM rfl (l:=[.agg [.iface 320 (.agg [])]]) (by simp[jv,j0]) rfl rfl
  ·have b2:(v.kind==2)=false:=by simpa using a
   conv in(occs:=*)F208=>all_goals cbv
   simp[J4,j0,b,a,b1,b2];exact JM rfl (l:=[.agg [.nilif]]) (by simp[jv,j0]) rfl rfl
def jvu (v:Val'):Val':=if v.kind=1 then ⟨1,v.n⟩ else if v.kind=2 then ⟨2,0⟩ else ⟨0,0⟩
def ev207 (v:Val'):Ev E 207 [.agg [jd8 v]] (.tup [.agg (J4 (jvu v)),.int .i64 0]):=by
 refine jQ rfl ?_;unfold jd8 jvu;by_cases a:v.kind=1
 ·conv in(occs:=*)F207=>all_goals cbv
  simp[J4,j0,a,j1j,eqV,jlh,j6];exact JM rfl (l:=[.agg [.int .i64 1,.int .i64 v.n],.int .i64 0]) (by simp[jv,j0]) rfl rfl
 ·by_cases b:v.kind=2
  ·conv in(occs:=*)F207=>all_goals cbv
   simp[J4,j0,b,j1j,eqV,jlh,j6];exact JM rfl (l:=[.agg [.int .i64 2,.int .i64 0],.int .i64 0]) (by simp[jv,j0]) rfl rfl
  ·conv in(occs:=*)F207=>all_goals cbv
   simp[J4,j0,a,b,j1j,eqV];exact JM rfl (l:=[.agg [.int .i64 0,.int .i64 0],.int .i64 0]) (by simp[jv,j0]) rfl rfl
def jwl (v:Val'):jtn v=((jvu v).kind==v.kind&&(jvu v).n==v.n):=by obtain⟨k,n⟩:=v;unfold jtn jvu;by_cases a:k=1;simp[a];by_cases b:k=2;rw[za a,zb b,bz];simp only[bq,ab,zh];omega;rw[za a,za b,bz];simp only[bq,ab,zh];omega
def jjv (v:Val'):(jd8 v).pureLeaf=true:=by unfold jd8;split;rfl;split<;>rfl
def jer (v:Val'):(jd8 v).strip1=jd8 v:=by unfold jd8;split;rfl;split<;>rfl
def ev146 (v:Val'):Ev E 146 [.agg (J4 v)] (.bool (jtn v)):=by
 refine jQ rfl ?_;conv in(occs:=*)F146=>all_goals cbv
 simp[J4,j0];refine Y9 (vs:=[.agg (J4 v)]) (by simp[J4]) rfl (by simp[J4]) (by simpa[J4] using ev208 v) ?_;simp[JT (v:=.agg [jd8 v]) (by simp[V.plain,jjv])];refine Y9 (vs:=[.agg [jd8 v]]) zS rfl (by simp[jjv,jer]) (by simpa[jer] using ev207 v) ?_;rw[jwl];generalize jvu v=b;rw[JW (by simp[V.plain,J4])];simp[J4,j0];exact j5 rfl zS rfl
def opB (h:Hist') (o:Op'):Bool:=Yi o.key h.ks.length&&(jtn o.v&&(!o.w||o.v.kind==1))
def ev92 (h:Hist') (o:Op'):Ev E 92 [.agg (ya h),.agg (yQ o)] (.bool (opB h o)):=by
 refine jQ rfl ?_;conv in(occs:=*)F92=>all_goals cbv
 simp[ya,yQ,j0];refine Y9 (vs:=[.int .i64 o.key,yl h.kn Jp h.ks]) zS rfl zS (by simpa using ev144 o.key h.kn h.ks) ?_;unfold opB;cases b:Yi o.key h.ks.length;simp;exact j5 rfl zS rfl;simp[j0];refine Y9 (vs:=[.agg (J4 o.v)]) (by simp[J4]) rfl (by simp[J4]) (by simpa[J4] using ev146 o.v) ?_;cases a:jtn o.v;simp;exact j5 rfl zS rfl;cases c:o.w;simp[j0];exact j5 rfl zS rfl;simp[j0];exact j5 rfl zS rfl
@[simp] theorem startS_tm (args:List V) (ob:ZO) (tk:Nat->Bool) (ro base ub n:Nat):(XA args ob tk ro base ub).tm n=args.getD n js:=rfl
@[simp] theorem startS_ob (args:List V) (ob:ZO) (tk:Nat->Bool) (ro base ub:Nat):(XA args ob tk ro base ub).ob=ob:=rfl
@[simp] theorem startS_tk (args:List V) (ob:ZO) (tk:Nat->Bool) (ro base ub:Nat):(XA args ob tk ro base ub).tk=tk:=rfl
@[simp] theorem startS_ro (args:List V) (ob:ZO) (tk:Nat->Bool) (ro base ub:Nat):(XA args ob tk ro base ub).ro=ro:=rfl
@[simp] theorem startS_nx (args:List V) (ob:ZO) (tk:Nat->Bool) (ro base ub:Nat):(XA args ob tk ro base ub).nx=ub:=rfl
@[simp] theorem startS_fb (args:List V) (ob:ZO) (tk:Nat->Bool) (ro base ub:Nat):(XA args ob tk ro base ub).fb=base:=rfl
@[simp] theorem startS_df (args:List V) (ob:ZO) (tk:Nat->Bool) (ro base ub:Nat):(XA args ob tk ro base ub).df=[]:=rfl
def jk {n:Int}(h:-9223372036854775808<=n) (a:n<=9223372036854775807):IntKind.i64.wrap n=n:=by rw[IntKind.wrap_i64];omega
section
variable {α:Type}{f:α->List V}{k:Nat}
def j4 (b:∀a,(f a).length=k):∀(l:List α),(l.flatMap f).length=l.length*k
 |[]=>by simp
 |a::l=>by rw[aZ,aw,b,j4 b l,bh,cJ];omega
def Xp (b:∀a,(f a).length=k):∀(l:List α) (i:Nat) (h:i<l.length),((l.flatMap f).drop (i*k)).take k=f l[i]
 |a::l,0,_=>by rw[aZ,dE,dy,dX (by rw[b];omega),aJ (by rw[b];omega)];rfl
 |a::l,i+1,h=>by rw[aZ,cJ,List.drop_append,bM (by rw[b];omega),dq,b,fq];exact Xp b l i (zU h)
def j7 (b:∀a,(f a).length=k) (nl:Bool) (l:List α) (kk:IntKind) {i:Nat}(h:i<l.length):ju k (yl nl f l) (.int kk i)=some (.eptr (l.flatMap f) (i*k)):=by simp only[yl,JF,j4 b];rw[zb zP];rfl
def jd (b:∀a,(f a).length=k) (ob:ZO) (l:List α) {i:Nat}(h:i<l.length):W3 ob (some k) (.eptr (l.flatMap f) (i*k))=some (.agg (f l[i])):=by
 have:i*k+k<=l.length*k:=by rw[<- cJ];exact bf k h
 rw[jdx,Wo,zb (by rw[j4 b];exact this),Xp b l i h]
end
@[simp] theorem jA (t:Txn'):(jl t).length=3:=rfl
@[simp] theorem jH (t:Op'):(yQ t).length=4:=rfl
@[simp] theorem Ym (t:List UInt8):(Jp t).length=1:=rfl
def Wq {E:Env}{Yf:YF}{q:A}{xs:List A}{st:St}{ub:Nat}{K:St->Nat->Prop}{d:Option Nat}{nm:Bool}{f:FuncId}{first captured:List V}(e:ye E st.tm q=.fn (.func f) first captured) (c:E.sh nm f=false)
 (hp:((first++xs.map (ye E st.tm)++captured).all λv=>v.strip.pureTop)=false) {v:V}(i:EvO E f (first++xs.map (ye E st.tm)++captured) st.ob st.tk ((st.fb+d.getD 0+1)*1024) ub v) (h:wpD (Xt ub v) (QW K st d ub)) :
 jB E Yf ⟨d,.callV q xs,none,nm⟩ st ub K:=by
 have a:jC E nm (ye E st.tm) (.callV q xs)=some (f,first++xs.map (ye E st.tm)++captured):=by simp only[jC,e,c,hp,cp,bF,ah,zc]
 simp only[jB,yJ,jj,e,a];obtain⟨g,b,j⟩:=h;exact .inr ⟨c,v,i,g,b,j⟩
def jW {E:Env}{Yf:YF}{f:FuncId}{xs:List A}{st:St}{ub:Nat}{K:St->Nat->Prop}{d:Option Nat}{nm:Bool}{vs:List V}(a:xs.map (ye E st.tm)=vs) (c:E.sh nm f=false) (hp:(vs.all λv=>v.strip.pureTop)=false) {v:V}
 (b:EvO E f vs st.ob st.tk ((st.fb+d.getD 0+1)*1024) ub v) (h:wpD (Xt ub v) (QW K st d ub)):jB E Yf ⟨d,.call f xs,none,nm⟩ st ub K :=
 jwf c (by rw[a];exact hp) ⟨v,by rw[a];exact b,h⟩
def J1 {E:Env}{f:FuncId}{af:AF}{args:List V}{ob:ZO}{tk:Nat->Bool}{base ub:Nat}{r:V}(a:E.fs f=some af) (h:wpC E YU af.body (XA args ob (λ_=>false) ub base ub) (j6e af.res r)) (b:E.fz f=false:=by rfl):EvO E f args ob tk base ub r:=EvO_wp a h b
def HistAt (h:Hist') (ob:ZO) (l u:Nat):Prop:=l % 2=0/\ob l=some ⟨u,.cells (ya h)⟩
def ev89 {h:Hist'}{ob:ZO}{l u:Nat}(c:HistAt h ob l u) (t:Txn') (tk:Nat->Bool) (base ub:Nat):EvO E 89 [.agg (jl t),.ptr l u 0] ob tk base ub (.bool (!jex h t)):=by
 obtain⟨d,b⟩:=c;refine J1 rfl ?_;have a:¬l=2*ub+1:=zO;conv in(occs:=*)S89=>all_goals cbv
 simp[j0,a,b,jl,ya];refine Y9 (vs:=[.agg (ya h),.agg (jl t)]) (by simp[ya,jl]) rfl (by simp[ya,jl]) (by simpa[ya,jl] using ev90 h t) ?_;simp;exact j5 rfl zS rfl
def W8 {α:Type}(p:α->Bool) (l:List α):Int:=match l.findIdx? p with
 |some i=>i
 |none=>-1
def YZ {α:Type}{p:α->Bool}{l:List α}{i:Nat}(h:i<l.length) (c:p l[i]=true) (b:∀j (a:j<l.length),j<i->p l[j]=false):W8 p l=i:=by
 unfold W8;have:l.findIdx? p=some i:=by rw[eH];exact⟨h,c,λj a=>by rw[b j zO a];decide⟩
 rw[this]
def W7 {α:Type}{p:α->Bool}{l:List α}(b:∀j (a:j<l.length),p l[j]=false):W8 p l = -1:=by
 unfold W8;have:l.findIdx? p=none:=by rw[fE];intro x c;obtain⟨j,a,e⟩:=ba c;rw[<- e];exact b j a
 rw[this]
def jax {α:Type}(p:α->Bool) (l:List α):decide (0<=W8 p l)=l.any p:=by
 unfold W8;cases h:l.findIdx? p with
 |none=>rw[fE]at h;simp;intro x c;simpa using h x c
 |some i=>rw[eH]at h;obtain⟨b,a,_⟩:=h;simp;exact⟨_,au b,a⟩
def ev143 {p:Txn'->Bool}{g:FuncId}{cap:V}{ob:ZO}(y:E.sh true g=false) (d:cap.strip.pureTop=false) (hp:∀(t:Txn') (tk:Nat->Bool) (base ub:Nat),EvO E g [.agg (jl t),cap] ob tk base ub (.bool (p t)))
 (nl:Bool) (l:List Txn') (z:l.length<=140737488355328) (tk:Nat->Bool) (base ub:Nat):EvO E 143 [yl nl jl l,.fn (.func g) [] [cap]] ob tk base ub (.int .i64 (W8 p l)):=by
 refine J1 rfl ?_;conv in(occs:=*)S143=>all_goals cbv
 simp;refine Yk (n:=l.length) (λk s=>∃i,k=l.length-i/\i<=l.length/\s.df=[]/\s.ob=ob/\s.tm 0=yl nl jl l/\s.tm 1=.fn (.func g) [] [cap]/\s.tm 7=.int .i64 l.length/\s.tm 8=.int .i64 i/\∀j (c:j<l.length),j<i->p l[j]=false)
  ⟨0,zS⟩ ?_
 rintro k s ⟨i,rfl,B,e,u,w,x,q,m,o⟩;by_cases a:i<l.length;simp[w,x,q,m,a,j7 jA,jd jA];refine Wq (f:=g) (first:=[]) (captured:=[cap]) zS y (by simp[d]) (v:=.bool (p l[i])) (by simpa[u] using hp l[i] _ _ _) ?_;cases b:p l[i];simp[w,x,q,m,e];refine⟨l.length-(i+1),zO,i+1,rfl,zO,u,by rw[jk zO zO];simp,?_⟩;intro j c r;rcases bg.1 r with h|rfl;exact o j c h;exact b;simp;refine j5 (zU e) ?_ rfl;simp;rw[YZ a b o];have:i=l.length:=zO;subst this;simp[q,m];refine j5 (zU e) ?_ rfl;simp[W7 (λj c=>o j c c)]
def ev88 {p:Txn'->Bool}{g:FuncId}{ob:ZO}{a b c:Nat}(e:E.sh true g=false) (hp:∀(t:Txn') (tk:Nat->Bool) (base ub:Nat),EvO E g [.agg (jl t),.ptr a b c] ob tk base ub (.bool (p t)))
 (nl:Bool) (l:List Txn') (d:l.length<=140737488355328) (tk:Nat->Bool) (base ub:Nat):EvO E 88 [yl nl jl l,.fn (.func g) [] [.ptr a b c]] ob tk base ub (.bool (l.any p)):=by
 refine J1 rfl ?_;conv in(occs:=*)S88=>all_goals cbv
 simp;refine jW (vs:=[yl nl jl l,.fn (.func g) [] [.ptr a b c]]) zS rfl rfl (ev143 e rfl hp nl l d _ _ _) ?_;simp;exact j5 rfl (by simp[jax]) rfl
def Fr (ub:Nat) (ob ob':ZO):Prop:=∀key,(∀m,ub<=m->key≠2*m+1)->ob' key=ob key
def Fr.refl (ub:Nat) (ob:ZO):Fr ub ob ob:=λ_ _=>rfl
def Jw (res:List ARes) (P:V×(ZO)×(Nat->Bool)×Nat->Prop):Ex->St->Prop:=λe s=>∃r,endS res (e,s)=some r/\P r
def jq (st:St) (d:Option Nat) (v:V) (obs:List (Nat×Obj')):(st.app d { v:=v,obs:=obs }).tk=st.tk:=by funext u;simp[jf]
def Fr.two {ub m:Nat}{ob ob':ZO}(h:∀a,a≠2*m+1->ob' a=ob a) (b:ub<=m):Fr ub ob ob':=λa c=>h a (c m b)
def jq5 {E:Env}{Yf:YF}{o:AOpr}{st:St}{ub:Nat}{K:St->Nat->Prop}(h:∀a,a=st->jB E Yf o a ub K):jB E Yf o st ub K:=h st rfl
def j55 {Yf:YF}(h:Hist') (hn:h.ts.length<=1000) (hm:∀t∈h.ts,t.ops.length<=1000000) {l u lh uh:Nat}{ob0:ZO}{tk0:Nat->Bool}{ro base ub0:Nat}(hh:ob0 lh=some ⟨uh,.cells (ya h)⟩) (c0:ro<=ub0)
 (J:Nat->Nat->(ZO)->(Nat->Bool)->Nat->Prop) (P:V×(ZO)×(Nat->Bool)×Nat->Prop)
 (f:∀i k ob o g e q,J i k ob g e->e<=q->Fr e ob o->J i k o g q)
 (H:∀i (hi:i<h.ts.length) ob g e,J i (h.ts[i]).ops.length ob g e->J (i+1) 0 ob g e)
 (F:∀i (hi:i<h.ts.length) k (S:k<(h.ts[i]).ops.length) ob g e,J i k ob g e->ro<=e->∃r,EvY Yf l u [.agg [.int .i64 i,.int .i64 k],.agg (yQ (h.ts[i]).ops[k])] ob g ro e r/\ro<=r.2.2.2 /\
  ((r.1=.bool true/\J i (k+1) r.2.1 r.2.2.1 r.2.2.2)\/(r.1=.bool false/\∀o q,r.2.2.2<=q->Fr r.2.2.2 r.2.1 o->P (.tup [],o,r.2.2.1,q))))
 (M:∀ob g e,J h.ts.length 0 ob g e->P (.tup [],ob,g,e))
 (w:J 0 0 ob0 tk0 ub0):∃r,EvS E Yf.y 145 [.yld l u,.ptr lh uh 0] ob0 tk0 ro base ub0 r/\P r:=by
 refine JI rfl zQ ?_;show wpC E Yf S145.body _ (Jw S145.res P);conv in(occs:=*)S145=>all_goals cbv
 simp[j0,hh,ya];refine Yk (n:=h.ts.length) (λk s=>∃i,k=h.ts.length-i/\i<=h.ts.length/\s.df=[]/\s.fb=base/\s.ro=ro/\ro<=s.nx/\s.tm 0=.yld l u/\s.tm 8=yl h.tn jl h.ts/\s.tm 9=.int .i64 h.ts.length/\s.tm 10=.int .i64 i/\J i 0 s.ob s.tk s.nx)
  ⟨0,by simp;exact⟨zO,f _ _ _ _ _ _ _ w zO (Fr.refl _ _)⟩⟩ ?_
 rintro k s ⟨i,rfl,hi,L,p,c,Q,w,I,G,d,K⟩;by_cases v:i<h.ts.length;simp[I,G,d,v,j7 jA,jd jA,jl,j0,c];refine⟨zO,?_⟩;refine Yk (n:=(h.ts[i]).ops.length) (λk s=>∃j,k=(h.ts[i]).ops.length-j/\j<=(h.ts[i]).ops.length/\s.df=[]/\s.fb=base/\s.ro=ro/\ro<=s.nx/\s.tm 0=.yld l u/\s.tm 8=yl h.tn jl h.ts/\s.tm 9=.int .i64 h.ts.length/\s.tm 10=.int .i64 i /\
  s.tm 3=.int .i64 i/\s.tm 16=yl (h.ts[i]).nl yQ (h.ts[i]).ops/\s.tm 17=.int .i64 (h.ts[i]).ops.length/\s.tm 18=.int .i64 j/\J i j s.ob s.tk s.nx) ⟨0,?_⟩ ?_
 simp[L,p,c,w,I,G,d];refine⟨zO,?_⟩;rw[jq,jo0,jq];refine f _ _ _ _ _ _ _ K (by omega:s.nx<=_) (Fr.two (m:=s.nx+64+64+64+64) (λb5 S=>?_) zO);simp[S];clear L p c Q w I G d K s;rintro k s ⟨j,rfl,hj,L,p,c,Q,w,I,G,d,h3,N,x,B,K⟩;by_cases O:j<(h.ts[i]).ops.length;simp[w,h3,N,x,B,O,j7 jH,jd jH,yQ,j0,c,j6];refine⟨zO,jq5 λb a=>?_⟩;have b7:b.tm 23=.yld l u:=by rw[a];simp
 have b6:b.tm 26=.agg [.int .i64 i,.int .i64 j]:=by rw[a];simp
 have Z:b.tm 27=.agg (yQ (h.ts[i]).ops[j]):=by rw[a];simp[yQ]
 have e0:b.tm 0=.yld l u:=by rw[a];simp[w]
 have e8:b.tm 8=yl h.tn jl h.ts:=by rw[a];simp[I]
 have e9:b.tm 9=.int .i64 h.ts.length:=by rw[a];simp[G]
 have X:b.tm 10=.int .i64 i:=by rw[a];simp[d]
 have e3:b.tm 3=.int .i64 i:=by rw[a];simp[h3]
 have b0:b.tm 16=yl (h.ts[i]).nl yQ (h.ts[i]).ops:=by rw[a];simp[N]
 have b8:b.tm 17=.int .i64 (h.ts[i]).ops.length:=by rw[a];simp[x]
 have T:b.tm 18=.int .i64 j:=by rw[a];simp[B]
 have ed:b.df=[]:=by rw[a];simp[L]
 have ef:b.fb=base:=by rw[a];simp[p]
 have er:b.ro=ro:=by rw[a];simp[c]
 have et:b.tk=s.tk:=by rw[a];simp only[jo0,jw6,jq]
 have eo:Fr s.nx s.ob b.ob:=by rw[a];exact Fr.two (m:=s.nx+64+64+64+64) (λb5 S=>by simp[S]) zO
 clear a;obtain⟨r,hr,b9,D⟩:=F i v j O b.ob s.tk (s.nx+64+64+64+64+64+64+64+64+64+64+64+64) (f _ _ _ _ _ _ _ K zO eo) zO;refine jlt (l:=l) (u:=u) (zU b7) ⟨r,by simpa[b6,Z,et,er] using hr,?_⟩;rcases D with⟨z,a0⟩|⟨z,hP⟩;simp[z,put,yg,T];have hb:=hm h.ts[i] (au v);refine⟨(h.ts[i]).ops.length-(j+1),zO,j+1,rfl,zO,ed,ef,er,zO,e0,e8,e9,X,e3,b0,b8,by rw[jk zO zO];simp,?_⟩;exact f _ _ _ _ _ _ _ a0 zO (Fr.refl _ _);simp[z,put];refine⟨(.tup [],r.2.1,r.2.2.1,r.2.2.2+64),?_,hP _ _ zO (Fr.refl _ _)⟩;simp[endS,ed];have:j=(h.ts[i]).ops.length:=zO;subst this;have U:=H i v _ _ _ K;simp[x,B,w,I,G,d,L,p,c];refine⟨h.ts.length-(i+1),zO,i+1,rfl,zO,zO,by rw[jk zO zO];simp,?_⟩;exact f _ _ _ _ _ _ _ U zO (Fr.refl _ _);have:i=h.ts.length:=zO;subst this;simp[G,d];refine⟨(.tup [],s.ob,s.tk,s.nx+64),?_,M _ _ _ (f _ _ _ _ _ _ _ K (Nat.le_add_right _ _) (Fr.refl _ _))⟩;simp[endS,L]
def jcv {E:Env}{Yf:YF}{f:FuncId}{xs:List A}{st:St}{ub:Nat}{K:St->Nat->Prop}{d:Option Nat}{nm:Bool}{vs:List V}(g:xs.map (ye E st.tm)=vs) (b:E.sh nm f=true)
 (h:∃r,EvS E Yf.y f vs st.ob st.tk st.ro ((st.fb+d.getD 0+1)*1024) ub r/\K { st with tm:=put st.tm d r.1,ob:=r.2.1,tk:=r.2.2.1 } r.2.2.2):jB E Yf ⟨d,.call f xs,none,nm⟩ st ub K:=by
 have a:jC E nm (ye E st.tm) (.call f xs)=some (f,vs):=by simp only[jC,b,g,bN,bE,ah,zc]
 simp only[jB,yJ,jj,a];obtain⟨r,c,e⟩:=h;exact .inl ⟨b,EvS.list ⟨r,c,e⟩⟩
def ev91 {Yf:YF}(h:Hist') (ob:ZO) (tk:Nat->Bool) (ro base ub:Nat):∃r,EvS E Yf.y 91 [.agg (ya h)] ob tk ro base ub r /\
 r.1=.fn (.func 145) [] [.ptr (2*ub+1) ub 0]/\(∀a,r.2.1 a=if a=2*ub+1 then some ⟨ub,.cells (ya h)⟩ else ob a)/\r.2.2.1=tk/\r.2.2.2=ub+256:=by
 refine JI rfl zQ ?_;show wpC E Yf S91.body _ (Jw S91.res _);conv in(occs:=*)S91=>all_goals cbv
 simp[ya];refine⟨(.fn (.func 145) [] [.ptr (2*ub+1) ub 0],_,_,_),rfl,?_⟩;simp[jq]
def jdr (h:Hist'):List Op':=h.ts.flatMap (·.ops)
def j6l (h:Hist') (i k:Nat):Prop:=∀i' (hi:i'<h.ts.length) k' (hk:k'<(h.ts[i']).ops.length),(i'<i\/i'=i/\k'<k)->opB h (h.ts[i']).ops[k']=true
def AS70:C:=.region [
 ⟨(some 4),.alloc [(.bool false),(.int .i64 0),(.int .i64 0),(.int .i64 0)],none,false⟩,
 ⟨none,.store 4 (.t 4) (.t 17),none,false⟩]
def BD70:C:=.block 1 (.seq (.region [
            ⟨(some 18),.load (some 3) (.t 1),none,false⟩,
            ⟨(some 19),.load (some 4) (.t 4),none,false⟩,
            ⟨(some 20),.call 92 [(.t 18),(.t 19)],none,false⟩,
            ⟨(some 21),.un .not (.t 20),none,false⟩])
 (.cond (.t 21) (.seq (.region [
  ⟨none,.store 1 (.t 2) (.c (.int .i64 4)),none,false⟩])
  (.ret))
  (.skip)))
def jvb {h:Hist'}(f:j6l h h.ts.length 0):(jdr h).all (opB h)=true:=by rw[av];intro o d;obtain⟨t,e,a⟩:=ci.1 d;obtain⟨i,b,rfl⟩:=ba e;obtain⟨k,c,rfl⟩:=ba a;exact f i b k c (Or.inl b)
def jg {E:Env}{Yf:YF}{c:C}{st:St}{Q:Ex->St->Prop}(h:∀a,a=st->wpC E Yf c a Q):wpC E Yf c st Q:=h st rfl
def j60 {l k:Nat}(ob:ZO) (h:k≠l):(if Nat.beq l k then none else ob k)=ob k:=by
 cases a:Nat.beq l k with
 |false=>rfl
 |true=>exact zf (bo a).symm h
def j8k (h:Hist') (hn:h.ts.length<=1000) (v:∀t∈h.ts,t.ops.length<=1000000) {st:St}{lh uh:Nat}(U:Nat) (hU:st.nx=U) (b8:64<=U) (a0:st.tm 15=.fn (.func 145) [] [.ptr lh uh 0]) (hl:∃m,lh=2*m+1/\m<U)
 (h1:st.tm 1=.ptr 2 0 0) (h2:st.tm 2=.ptr 4 64 0) (K:st.ro=0) (I:st.fb=0) (o2:st.ob 2=some ⟨0,.cells (ya h)⟩) (o4:st.ob 4=some ⟨64,.cells [.int .i64 0]⟩) (oh:st.ob lh=some ⟨uh,.cells (ya h)⟩) {Q:Ex->St->Prop}
 (hQ:∀(e:Ex) (ob:ZO) (tk:Nat->Bool) (ub:Nat) (c:Int),ob 2=some ⟨0,.cells (ya h)⟩->ob 4=some ⟨64,.cells [.int .i64 c]⟩->ob (2*U+3)=some ⟨U+1,.dfr⟩->U+64<=ub ->
  ((jdr h).all (opB h)=true/\e=.nrm/\c=0\/(jdr h).all (opB h)=false/\e=.ret/\c=4)->Q e { st with ob:=ob,tk:=tk,nx:=ub,df:=(2*U+3,U+1)::st.df }) :
 wpC E YU (.rangeFunc (.t 15) [16,17] AS70 BD70) st Q:=by
 obtain⟨m,rfl,b5⟩:=hl
 subst hU
 refine Q5 (g:=145) (first:=[]) (captured:=[.ptr (2*m+1) uh 0]) (zU a0) ?_
 have:=j55 (Yf:=jik E YU AS70 BD70 st [16,17] (2*st.nx+1) st.nx) h hn v (l:=2*st.nx+1) (u:=st.nx) (lh:=2*m+1) (uh:=uh)
  (ob0:=upd (upd st.ob (2*st.nx+3) (some ⟨st.nx+1,.dfr⟩)) (2*st.nx+1) (some ⟨st.nx,.loop .ready none⟩)) (tk0:=st.tk) (ro:=st.ro) (base:=(st.fb+1023)*1024) (ub0:=st.nx+64)
  (by have H :¬ 2 * m+1=2 * st.nx+1:=by omega
      have F:¬2*m+1=2*st.nx+3:=zO
      simp only[yg,H,F,zc,oh]) zO
  (λi k ob tk ub=>j6l h i k/\ob (2*st.nx+1)=some ⟨st.nx,.loop .ready none⟩/\ob (2*st.nx+3)=some ⟨st.nx+1,.dfr⟩/\ob 2=some ⟨0,.cells (ya h)⟩/\ob 4=some ⟨64,.cells [.int .i64 0]⟩/\st.nx+64<=ub)
  (λr=>∃s w,r.2.1 (2*st.nx+1)=some ⟨st.nx,.loop s w⟩/\s≠.busy/\st.ro<=st.nx/\Q (w.getD .nrm) { st with ob:=λk=>if Nat.beq (2*st.nx+1) k then none else r.2.1 k,tk:=r.2.2.1,nx:=r.2.2.2,df:=(2*st.nx+3,st.nx+1)::st.df })
  ?_ ?_ ?_ ?_ ?_
 ·obtain⟨r,hr,hP⟩:=this
  exact⟨r,hr,hP⟩
 ·-- what J says stands behind what is new
  rintro i k ob j tk ub L ⟨q,D,P,G,N,g6⟩ b6 y
  have f:∀n,(∀m,ub<=m->n≠2*m+1)->j n=ob n:=y
  exact⟨q,by rw[f _ (λm v=>by omega)];exact D,by rw[f _ (λm v=>by omega)];exact P,by rw[f _ (λm v=>by omega)];exact G,by rw[f _ (λm v=>by omega)];exact N,zO⟩
 ·rintro i hi ob tk ub ⟨q,g⟩
  refine⟨λO d B b p=>?_,g⟩
  rcases p with z|⟨_,z⟩
  ·rcases bg.1 z with h''|rfl
   ·exact q O d B b (Or.inl h'')
   ·exact q O d B b (Or.inr ⟨rfl,b⟩)
  ·omega
 ·rintro i hi k hk ob tk ub ⟨q,D,P,G,N,g6⟩ b7
  refine jhu (asg:=AS70) (bd:=BD70) (xs:=[.agg [.int .i64 i,.int .i64 k],.agg (yQ (h.ts[i]).ops[k])]) rfl zO D zQ zQ ?_
  simp[AS70,jfw,j0,I,yQ,K]
  refine⟨by rw[za zO,za zO];exact D,jg λo a=>?_⟩
  have f1:o.tm 1=.ptr 2 0 0:=by rw[a];simp[yg,h1]
  have f2:o.tm 2=.ptr 4 64 0:=by rw[a];simp[yg,h2]
  have f4:o.tm 4=.ptr 8 ub 0:=by rw[a];simp
  have Z:¬2=2*st.nx+1:=zO
  have X:¬4=2*st.nx+1:=zO
  have n8:¬8=2*st.nx+1:=zO
  have S:¬2*st.nx+3=2*st.nx+1:=zO
  have b0:¬2*st.nx+3=8:=zO
  have p2:o.ob 2=some ⟨0,.cells (ya h)⟩:=by rw[a];simp only[yg,Z,zc,XK];simp[G]
  have p4:o.ob 4=some ⟨64,.cells [.int .i64 0]⟩:=by rw[a];simp only[yg,X,zc,XK];simp[N]
  have p8:o.ob 8=some ⟨ub,.cells (yQ (h.ts[i]).ops[k])⟩:=by rw[a];simp only[yg,n8,zc,XK];simp[yQ]
  have p3:o.ob (2*st.nx+3)=some ⟨st.nx+1,.dfr⟩:=by rw[a];simp only[yg,S,b0,zc,XK];exact P
  have p1:o.ob (2*st.nx+1)=some ⟨st.nx,.loop .busy none⟩:=by rw[a];simp
  have fr:o.ro=0:=by rw[a]
  have fn:ub<=o.nx:=by rw[a];simp;omega
  clear a
  simp[BD70,f1,f4,p2,p8,j0,yQ,ya]
  refine Y9 (vs:=[.agg (ya h),.agg (yQ (h.ts[i]).ops[k])]) (by simp[ya,yQ]) rfl (by simp[ya,yQ]) (by simpa[ya,yQ] using ev92 h (h.ts[i]).ops[k]) ?_
  have m1:¬2*st.nx+1=4:=zO
  have m3:¬2*st.nx+3=4:=zO
  cases hb:opB h (h.ts[i]).ops[k]
  ·simp[f2,p4,j0,fr,m1,p1,QB,j6]
   intro j L b9 y
   have T:∀n,(∀m,o.nx+64+64+64+64+64<=m->n≠2*m+1)->j n=_:=y
   have M:(jdr h).all (opB h)=false:=by
    rw[fF]
    exact⟨_,ci.2 ⟨_,au hi,au hk⟩,by rw[hb];decide⟩
   have x:∀{k:Nat},k≠2*st.nx+1->(if 2*st.nx+1=k then none else j k)=j k:=λhk=>za λe=>hk e.symm
   refine⟨.done,some .ret,?_,zS,?_⟩
   ·rw[T _ (λm v=>by omega)]
    simp
   ·have:=hQ .ret (λk=>if 2*st.nx+1=k then none else j k) o.tk L 4 (by rw[x Z,T _ (λm v=>by omega)];simp only[yg,Z,zc,XK];simp[p2]) (by rw[x X,T _ (λm v=>by omega)];simp only[yg,X,zc,XK];simp)
     (by rw[x S,T _ (λm v=>by omega)];simp only[yg,S,m3,zc,XK];exact p3) zO (Or.inr ⟨M,rfl,rfl⟩)
    rw[K,I]at this
    exact this
  ·simp[p1,QB]
   refine⟨λO d B b p=>?_,?_,?_,?_,zO⟩
   ·rcases p with z|⟨rfl,z⟩
    ·exact q O d B b (Or.inl z)
    ·rcases bg.1 z with h''|rfl
     ·exact q _ d B b (Or.inr ⟨rfl,h''⟩)
     ·exact hb
   ·rw[yg,za S];exact p3
   ·rw[yg,za Z];exact p2
   ·rw[yg,za X];exact p4
 ·rintro ob tk ub ⟨q,D,P,G,N,g6⟩
  refine⟨.ready,none,D,zS,zO,?_⟩
  exact hQ .nrm _ _ _ 0 ((j60 ob zO).trans G) ((j60 ob zO).trans N) ((j60 ob zO).trans P) g6 (Or.inl ⟨jvb q,rfl,rfl⟩)
 ·refine⟨λO d B b p=>by omega,?_,?_,?_,?_,zO⟩
  ·simp
  ·simp[yg]
  ·have H:¬2=2*st.nx+1:=zO
   have F:¬2=2*st.nx+3:=zO
   simp only[yg,H,F,zc,o2]
  ·have H:¬4=2*st.nx+1:=zO
   have F:¬4=2*st.nx+3:=zO
   simp only[yg,H,F,zc,o4]
def rc (l:List Op'):Nat:=(l.filter λo=>!o.w).length
def rcT (l:List Txn'):Nat:=rc (l.flatMap (·.ops))
def rc_le (l:List Op'):rc l<=l.length:=cg _ _
def rc_app (a b:List Op'):rc (a++b)=rc a+rc b:=by simp[rc]
section
variable {E:Env}{Yf:YF}{st:St}{ub:Nat}{K:St->Nat->Prop}{d:Option Nat}{nm:Bool}
def XQ {sz a u n:Nat}{nl:Bool}{cs ys:List V}{s x:A}(j:ye E st.tm s=.sl (some (u,sz)) nl n cs) (e:st.tk u=true) (k:jF st.ob sz (ye E st.tm x)=some ys) (c:ys≠[]) (b:cs.length=n*sz) (g:0<sz)
 (hp:ys.all V.pureLeaf=true) (i:(n+ys.length/sz)*a<=140737488355328) (f:n+ys.length/sz<=140737488355328) (h:QW K st d ub { v:=.sl (some (ub,sz)) false (n+ys.length/sz) (cs++ys),del:=some u,add:=[ub] }) :
 jB E Yf ⟨d,.append false sz a s x,none,nm⟩ st ub K:=by
 rw[jR _ rfl rfl];simp only[yS,j,k,ap,za c,bE,ah,zc];rw[zb ⟨b,g,hp,i,f⟩,zb (by simp[e]),jJ];exact h
def jk4 {sz a:Nat}{ys:List V}{s x:A}(g:ye E st.tm s=.sl none true 0 []) (i:jF st.ob sz (ye E st.tm x)=some ys) (b:ys≠[]) (e:0<sz)
 (hp:ys.all V.pureLeaf=true) (f:(0+ys.length/sz)*a<=140737488355328) (c:0+ys.length/sz<=140737488355328) (h:QW K st d ub { v:=.sl (some (ub,sz)) false (0+ys.length/sz) ([]++ys),add:=[ub] }) :
 jB E Yf ⟨d,.append false sz a s x,none,nm⟩ st ub K:=by
 rw[jR _ rfl rfl];simp only[yS,g,i,ap,za b,bE,ah,zc];rw[zb ⟨zS,e,hp,f,c⟩,zb trivial,jJ];exact h
def jN {sz n:Nat}{zero:List V}{a:List (Nat×Nat×A)}{cs:List V}(b:fill zero (JB (ye E st.tm) a)=some cs) (c:cs.length=n*sz) (hp:(cs.map V.strip1).all V.pureLeaf=true)
 (h:QW K st d ub { v:=.sl (some (ub,sz)) false n (cs.map V.strip1),add:=[ub] }):jB E Yf ⟨d,.buildSl false sz zero a n,none,nm⟩ st ub K:=by
 rw[jR _ rfl rfl];simp only[yS,b,ap,ah,zc];rw[zb ⟨c,hp⟩,jJ];exact h
end
def jZ {b:Type}{f:b->List V}{k:Nat}(c:∀a,(f a).length=k) (l:List b) {i o:Nat}(h:i<l.length) (e:o<k):(l.flatMap f)[i*k+o]? = (f l[i])[o]?:=by have:=Xp c l i h;rw[<- this,cN,zb e,bC]
def yt (p:Txn'->Bool) (l:List Txn'):Nat->List Int
 |0=>[]
 |i+1=>yt p l i++(match l[i]? with|some t=>if p t then [(i:Int)] else []|none=>[])
def Jh (p:Txn'->Bool) (l:List Txn'):∀i,(yt p l i).length<=i
 |0=>by simp[yt]
 |i+1=>by have:=Jh p l i;simp only[yt,aw];split;split<;>simp<;>omega;simp;omega
def yf (n:Int):List V:=[.int .i64 n]
def Jk {p:Txn'->Bool}{l:List Txn'}{i:Nat}(h:i<l.length):yt p l (i+1)=yt p l i++(if p l[i] then [(i:Int)] else []):=by simp[yt,aa h]
@[simp] theorem j8 (n:Int):(yf n).length=1:=rfl
def jaf {n u m:Nat}{st:St}{cs:List V}(a:st.df=[]) (h:st.tm n=.sl (some (u,1)) false m cs) (b:st.tk u=true):jc2 [.t n] (.ret,st)=some (.sl (some (0,1)) false m cs):=by simp only[jc2,WB a,W0 a,zd,bP,gx,jv,h];simp[WQ,Je,XD,jw,V.toks,V.tok,yH,b]
def XS (t:Txn'):Bool:=t.f==3
def Y3 (h:Hist'):List Int:=yt XS h.ts h.ts.length
def ev49 (h:Hist') (t:h.ts.length<=1000):Ev E 49 [.agg (ya h)] (.sl (some (0,1)) false (Y3 h).length ((Y3 h).flatMap yf)):=by
 refine jQ rfl ?_;conv in(occs:=*)F49=>all_goals cbv
 simp[ya];refine jN (cs:=[]) rfl rfl rfl ?_;simp;refine Yk (n:=h.ts.length) (λk s=>∃i u,k=h.ts.length-i/\i<=h.ts.length/\s.df=[]/\s.fb=0/\s.ro=0/\s.tm 1=.ptr 2 0 0/\s.ob 2=some ⟨0,.cells (ya h)⟩/\s.tm 4=.int .i64 i/\s.tk u=true /\
  s.tm 3=.sl (some (u,1)) false (yt XS h.ts i).length ((yt XS h.ts i).flatMap yf))
  ⟨0,128,by simp[yt,ya]⟩ ?_
 rintro k s ⟨i,u,rfl,r,l,b,c,g,j,e,m,o⟩;by_cases a:i<h.ts.length;simp[g,j,e,j0,ya,a,j7 jA,jZ jA,jl];have q:=Jh XS h.ts i;cases p:h.ts[i].f==3;simp[e];refine⟨h.ts.length-(i+1),zO,i+1,⟨rfl,zO,l,b,c,g,by simpa[ya] using j,by rw[jk zO zO];simp,u,m,?_⟩⟩;rw[o,Jk a,XS,p];simp;simp[o,e];refine jN (cs:=[.int .i64 i]) (by simp[j6]) rfl rfl ?_;simp;refine XQ (u:=u) (nl:=false) (n:=(yt XS h.ts i).length) (cs:=(yt XS h.ts i).flatMap yf) (ys:=[.int .i64 i]) zS (by simp[jf,m]) (by simp[jF]) zS (by rw[j4 j8]) zQ rfl zP zP ?_;simp[e,l,b,c,g,j,ya];refine⟨h.ts.length-(i+1),zO,i+1,rfl,zO,by rw[jk zO zO];simp,Or.inl ?_⟩;rw[Jk a,XS,p];simp[yf];have:i=h.ts.length:=zO;subst this;simp[g,j,e,j0,ya];exact jaf (u:=u) (zU l) (by simp[o,Y3]) (zU m)
def Wx (r:Int):Bool:=decide (48<=r)&&decide (r<=57)
def ev200 (r:Int):Ev E 200 [.int .i32 r] (.bool (Wx r)):=by
 refine jQ rfl ?_;unfold Wx;by_cases h:48<=r
 ·conv in(occs:=*)F200=>all_goals cbv
  simp[h];exact j5 rfl zS rfl
 ·conv in(occs:=*)F200=>all_goals cbv
  simp[h];exact j5 rfl zS rfl
def ev321 (r:Int):Ev E 321 [.int .i32 r] (.bool false):=by
 refine jQ rfl ?_;conv in(occs:=*)F321=>all_goals cbv
 simp;exact j5 rfl zS rfl
def j1k (a b:Int):Int:=if a<b then -1 else if b<a then 1 else 0
def ev314 (a b:Int):Ev E 314 [.int .i32 a,.int .i32 b] (.int .i64 (j1k a b)):=by
 refine jQ rfl ?_;conv in(occs:=*)F314=>all_goals cbv
 simp;refine Y9 (vs:=[.int .i32 a]) zS rfl rfl (ev321 a) ?_;simp;refine Y9 (vs:=[.int .i32 b]) zS rfl rfl (ev321 b) ?_;unfold j1k;by_cases h:a<b;simp[h];exact j5 rfl zS rfl;by_cases c:b<a;simp[h,c];exact j5 rfl zS rfl;simp[h,c];exact j5 rfl zS rfl
def jdn (r:Int):List V:=[.int .i32 r]
@[simp] theorem jf1 (n:Int):(jdn n).length=1:=rfl
def jnz:List Int->List Int->Int
 |[],[]=>0
 |[],_::_=>-1
 |_::_,[]=>1
 |a::x,b::y=>if j1k a b=0 then jnz x y else j1k a b
def jo3 (l:List Int) {i:Nat}(h:i<l.length):(l.flatMap jdn)[i]? = some (.int .i32 l[i]):=by have:=jZ (f:=jdn) jf1 l h (by decide:0<1);rw[bB,bp]at this;rw[this];rfl
def ev290 (nx q:Bool) (x y:List Int) (u:x.length<=140737488355328):Ev E 290 [yl nx jdn x,yl q jdn y] (.int .i64 (jnz x y)):=by
 refine jQ rfl ?_;conv in(occs:=*)F290=>all_goals cbv
 simp;refine Yk (n:=x.length) (λk s=>∃i,k=x.length-i/\i<=x.length/\i<=y.length/\s.df=[]/\s.tm 0=yl nx jdn x/\s.tm 1=yl q jdn y/\s.tm 9=yl nx jdn x/\s.tm 10=.int .i64 x.length/\s.tm 11=.int .i64 i/\jnz (x.drop i) (y.drop i)=jnz x y)
  ⟨0,zS⟩ ?_
 rintro k s ⟨i,rfl,t,r,h,m,j,o,d,f,b⟩;by_cases c:i<x.length;rw[aR c]at b;by_cases a:i<y.length;rw[aR a,jnz]at b;have g:¬(y.length:Int)<=i:=zO;simp[j,o,d,f,c,g,a,j7 jf1,jo3 x c,jo3 y a];refine Y9 (vs:=[.int .i32 x[i],.int .i32 y[i]]) zS rfl rfl (ev314 x[i] y[i]) ?_;by_cases l:j1k x[i] y[i]=0;rw[zb l]at b;simp[l,m,j,o,d,f,h];exact⟨x.length-(i+1),zO,i+1,rfl,zO,zO,by rw[jk zO zO];simp,b⟩;rw[za l]at b;have p:(j1k x[i] y[i] != 0)=true:=by simpa using l
 simp[p];exact j5 (zU h) (by simp[b]) rfl;have g:(y.length:Int)<=i:=zO;have e:y.drop i=[]:=bM zO;rw[e,jnz]at b;simp[j,o,d,f,c,g,j7 jf1,jo3 x c];exact j5 (zU h) (by simp[b]) rfl;have:i=x.length:=zO;subst this;rw[dc]at b;by_cases a:x.length<y.length;rw[aR a,jnz]at b;simp[m,j,d,f,a];exact j5 (zU h) (by simp[b]) rfl;have e:y.drop x.length=[]:=bM zO;rw[e,jnz]at b;simp[m,j,d,f,a];exact j5 (zU h) (by simp[b]) rfl
def JV (s:List UInt8):List Int:=(Xi s s.length 0).map λr=>((r:Nat):Int)
def jse {E:Env}{Yf:YF}{st:St}{ub:Nat}{K:St->Nat->Prop}{d:Option Nat}{nm:Bool}{x:A}{s:List UInt8}(f:ye E st.tm x=.str s) (c:(JV s).length<=70368744177664)
 (h:QW K st d ub { v:=.sl (some (ub,1)) false (JV s).length ((JV s).flatMap jdn),add:=[ub] }):jB E Yf ⟨d,.runesOfStr x,none,nm⟩ st ub K:=by
 have e:(Xi s s.length 0).map (λr=>V.int .i32 (r:Nat))=(JV s).flatMap jdn:=by
  rw[JV,ie];generalize Xi s s.length 0=l;induction l with
  |nil=>rfl
  |cons r l b=>simp only[bc,aZ,b,jdn];rfl
 have a:(JV s).length=(Xi s s.length 0).length:=by simp[JV]
 rw[jR _ rfl rfl];simp only[yS,f];rw[<- a,zb c,jJ,e];exact h
def ev253 (a b:List UInt8) (c:(JV a).length<=1000000) (d:(JV b).length<=1000000):Ev E 253 [.str a,.str b] (.int .i64 (jnz (JV a) (JV b))):=by
 refine jQ rfl ?_;conv in(occs:=*)F253=>all_goals cbv
 simp;refine jse (s:=a) zS zO ?_;simp;refine jse (s:=b) zS zO ?_;simp;refine Y9 (vs:=[.sl (some (128,1)) false (JV a).length ((JV a).flatMap jdn),.sl (some (256,1)) false (JV b).length ((JV b).flatMap jdn)]) zS rfl rfl (ev290 false false _ _ zO) ?_;simp;exact j5 rfl zS rfl
def ev206 (a b:List UInt8) (c:(JV a).length<=1000000) (d:(JV b).length<=1000000):Ev E 206 [.str a,.str b] (.bool (decide (jnz (JV a) (JV b)<0))):=by
 refine jQ rfl ?_;conv in(occs:=*)F206=>all_goals cbv
 simp;refine Y9 (vs:=[.str a,.str b]) zS rfl rfl (ev253 a b c d) ?_;simp;exact j5 rfl zS rfl
def j8f (s:List UInt8):Bool:=s==[98,101,103,105,110]||s==[114,101,97,100]||s==[119,114,105,116,101]||s==[111,107]||s==[102,97,105,108]||s==[105,110,102,111]||s==[110,105,108]
def ev197 (s:List UInt8):Ev E 197 [.str s] (.bool (j8f s)):=by
 refine jQ rfl ?_;unfold j8f;generalize a:(s==[98,101,103,105,110])=b1;generalize b:(s==[114,101,97,100])=b2;generalize c:(s==[119,114,105,116,101])=b3;generalize d:(s==[111,107])=b4;generalize e:(s==[102,97,105,108])=b5;generalize f:(s==[105,110,102,111])=b6;generalize g:(s==[110,105,108])=b7;cases b1
 ·cases b2
  ·cases b3
   ·cases b4
    ·cases b5
     ·cases b6
      ·cases b7;all_goals (simp[F197,a,b,c,d,e,f,g];exact j5 rfl zS rfl)
      simp[F197,a,b,c,d,e,f];exact j5 rfl zS rfl
     simp[F197,a,b,c,d,e];exact j5 rfl zS rfl
    simp[F197,a,b,c,d];exact j5 rfl zS rfl
   simp[F197,a,b,c];exact j5 rfl zS rfl
  simp[F197,a,b];exact j5 rfl zS rfl
 simp[F197,a];exact j5 rfl zS rfl
def ev189 (s:List UInt8):Ev E 189 [.str s] (.bool (j8f s)):=by
 refine jQ rfl ?_;unfold j8f;generalize a:(s==[98,101,103,105,110])=b1;generalize b:(s==[114,101,97,100])=b2;generalize c:(s==[119,114,105,116,101])=b3;generalize d:(s==[111,107])=b4;generalize e:(s==[102,97,105,108])=b5;generalize f:(s==[105,110,102,111])=b6;generalize g:(s==[110,105,108])=b7;cases b1
 ·cases b2
  ·cases b3
   ·cases b4
    ·cases b5
     ·cases b6
      ·cases b7;all_goals (simp[F189,a,b,c,d,e,f,g];exact j5 rfl zS rfl)
      simp[F189,a,b,c,d,e,f];exact j5 rfl zS rfl
     simp[F189,a,b,c,d,e];exact j5 rfl zS rfl
    simp[F189,a,b,c,d];exact j5 rfl zS rfl
   simp[F189,a,b,c];exact j5 rfl zS rfl
  simp[F189,a,b];exact j5 rfl zS rfl
 simp[F189,a];exact j5 rfl zS rfl
def jdq (r:Int):Bool:=decide (127<r)||(r==95)||Wx r||(decide (97<=r)&&decide (r<=122))||(decide (65<=r)&&decide (r<=90))
def ev199 (r:Int):Ev E 199 [.int .i32 r] (.bool (jdq r)):=by
 refine jQ rfl ?_;unfold jdq;by_cases c:127<r
 ·conv in(occs:=*)F199=>all_goals cbv
  simp[c];exact j5 rfl zS rfl
 cases d:(r==95)
 ·conv in(occs:=*)F199=>all_goals cbv
  simp[c,d];refine Y9 (vs:=[.int .i32 r]) zS rfl rfl (ev200 r) ?_;cases g:Wx r;by_cases b:97<=r;by_cases e:r<=122;simp[b,e];exact j5 rfl zS rfl;have a:65<=r:=zO;have f:¬r<=90:=zO;simp[b,e,a,f];exact j5 rfl zS rfl;by_cases a:65<=r;simp[b,a];exact j5 rfl zS rfl;simp[b,a];exact j5 rfl zS rfl;simp;exact j5 rfl zS rfl
 ·conv in(occs:=*)F199=>all_goals cbv
  simp[c,d];exact j5 rfl zS rfl
end Go.Pv.T
