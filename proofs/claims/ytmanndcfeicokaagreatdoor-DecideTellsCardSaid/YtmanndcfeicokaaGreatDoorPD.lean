/- Part. -/
import Derived.Test.YtmanndcfeicokaaGreatDoorPC
import Derived.Laws.BitsLemmas
import Derived.Lib.ValidLaws
set_option maxRecDepth 100000
set_option maxHeartbeats 8000000
set_option linter.all false
namespace Go.Pv.T
open Go Go.Pv
structure Val' where
 kind:Int
 n:Int
 deriving DecidableEq
structure Op' where
 w:Bool
 key:Int
 v:Val'
 deriving DecidableEq
structure Txn' where
 s:Int
 f:Int
 nl:Bool
 ops:List Op'
structure Hist' where
 sn:Bool
 ss:List (List UInt8)
 kn:Bool
 ks:List (List UInt8)
 tn:Bool
 ts:List Txn'
def J7 (v:Val'):List V:=[.int .i64 v.kind,.int .i64 v.n]
def yS (o:Op'):List V:=[.bool o.w,.int .i64 o.key,.int .i64 o.v.kind,.int .i64 o.v.n]
def yl {α:Type}(nl:Bool) (f:α->List V) (l:List α):V:=.sl none nl l.length (l.flatMap f)
def jf (t:Txn'):List V:=[.int .i64 t.s,.int .i64 t.f,yl t.nl yS t.ops]
def X1 (s:List UInt8):List V:=[.str s]
def yb (h:Hist'):List V:=[yl h.sn X1 h.ss,yl h.kn X1 h.ks,yl h.tn jf h.ts]
def zH {p:Prop}(h:p:=by simp[yb,yl]):p:=h
def zI {p:Prop}(h:p:=by simp[yb]):p:=h
@[simp] theorem j8z {a:Type}(nl:Bool) (f:a->List V) (l:List a):WW (yl nl f l)=some (.int .i64 l.length):=rfl
@[simp] theorem slOf_leaf {a:Type}(nl:Bool) (f:a->List V) (l:List a):(yl nl f l).leaf=true:=rfl
@[simp] theorem slOf_cells {a:Type}(nl:Bool) (f:a->List V) (l:List a):(yl nl f l).cells=[yl nl f l]:=rfl
@[simp] theorem slOf_strip {a:Type}(nl:Bool) (f:a->List V) (l:List a):(yl nl f l).strip=yl nl f l:=rfl
@[simp] theorem j7p {a:Type}(nl:Bool) (f:a->List V) (l:List a):(yl nl f l).strip1=yl nl f l:=rfl
@[simp] theorem j5x {a:Type}(nl:Bool) (f:a->List V) (l:List a):(yl nl f l).pureTop=true:=rfl
@[simp] theorem j18 {a:Type}(nl:Bool) (f:a->List V) (l:List a):(yl nl f l).pureLeaf=true:=rfl
@[simp] theorem int_strip (k:IntKind) (n:Int):(V.int k n).strip=.int k n:=rfl
@[simp] theorem bool_strip (n:Bool):(V.bool n).strip=.bool n:=rfl
@[simp] theorem int_strip1 (k:IntKind) (n:Int):(V.int k n).strip1=.int k n:=rfl
@[simp] theorem bool_strip1 (n:Bool):(V.bool n).strip1=.bool n:=rfl
@[simp] theorem j9x (k:IntKind) (n:Int):(V.int k n).pureTop=true:=rfl
@[simp] theorem j6s (n:Bool):(V.bool n).pureTop=true:=rfl
@[simp] theorem j6a (k:IntKind) (n:Int):(V.int k n).pureLeaf=true:=rfl
@[simp] theorem j5g (n:Bool):(V.bool n).pureLeaf=true:=rfl
@[simp] theorem agg_strip (cs:List V):(V.agg cs).strip=.agg (cs.map V.strip1):=rfl
@[simp] theorem agg_pureTop (cs:List V):(V.agg cs).pureTop=cs.all V.pureLeaf:=rfl
def Ym (n:Int) (l:Nat):Bool:=decide (0<=n)&&decide (n<l)
def ev144 (n:Int) (nl:Bool) (l:List (List UInt8)):Ev E 144 [.int .i64 n,yl nl X1 l] (.bool (Ym n l.length)):=by
 refine jS rfl ?_;by_cases h:0<=n
 ·conv in(occs:=*)F144=>all_goals cbv
  simp[h];exact j3 rfl (by simp[Ym,h]) rfl
 ·conv in(occs:=*)F144=>all_goals cbv
  simp[h];exact j3 rfl (by simp[Ym,h]) rfl
def je4 (h:Hist') (t:Txn'):Bool:=Ym t.s h.ss.length&&(decide (1<=t.f)&&(decide (t.f<=3)&&decide (t.ops.length<=20)))
def ev90 (h:Hist') (t:Txn'):Ev E 90 [.agg (yb h),.agg (jf t)] (.bool (je4 h t)):=by
 refine jS rfl ?_;conv in(occs:=*)F90=>all_goals cbv
 simp[yb,jf,ya];refine Y8 (vs:=[.int .i64 t.s,yl h.sn X1 h.ss]) zS rfl zS (by simpa using ev144 t.s h.sn h.ss) ?_;unfold je4;cases c:Ym t.s h.ss.length;simp;exact j3 rfl zS rfl;by_cases a:1<=t.f;by_cases b:t.f<=3;simp[ya,a,b];exact j3 rfl zP rfl;simp[ya,a,b];exact j3 rfl zS rfl;simp[ya,a];exact j3 rfl zS rfl
def jto (v:Val'):Bool:=v.kind==1||((v.kind==0||v.kind==2)&&v.n==0)
def ev130 (v:Val'):Ev E 130 [.agg (J7 v)] (.bool (jto v)):=by
 refine jS rfl ?_;unfold jto;cases a:v.kind==1
 ·cases b:v.kind==0
  ·cases c:v.kind==2
   ·conv in(occs:=*)F130=>all_goals cbv
    simp[J7,ya,a,b,c];exact j3 rfl zS rfl
   ·conv in(occs:=*)F130=>all_goals cbv
    simp[J7,ya,a,b,c];exact j3 rfl zS rfl
  ·conv in(occs:=*)F130=>all_goals cbv
   simp[J7,ya,a,b];exact j3 rfl zS rfl
 ·conv in(occs:=*)F130=>all_goals cbv
  simp[J7,ya,a];exact j3 rfl zS rfl
def jec (v:Val'):V:=if v.kind=1 then .iface 2 (.int .i64 v.n) else if v.kind=2 then .iface 320 (.agg []) else .nilif
def ev208 (v:Val'):Ev E 208 [.agg (J7 v)] (.agg [jec v]):=by
 refine jS rfl ?_;unfold jec;by_cases b:v.kind=1
 ·conv in(occs:=*)F208=>all_goals cbv
  simp[J7,ya,b];exact JP rfl (l:=[.agg [.iface 2 (.int .i64 v.n)]]) (by simp[ju,ya]) rfl rfl
 ·have b1:(v.kind==1)=false:=by simpa using b
  by_cases a:v.kind=2
  ·conv in(occs:=*)F208=>all_goals cbv
   simp[J7,ya,a];exact JP rfl (l:=[.agg [.iface 320 (.agg [])]]) (by simp[ju,ya]) rfl rfl
  ·have b2:(v.kind==2)=false:=by simpa using a
   conv in(occs:=*)F208=>all_goals cbv
   simp[J7,ya,b,a,b1,b2];exact JP rfl (l:=[.agg [.nilif]]) (by simp[ju,ya]) rfl rfl
def jvt (v:Val'):Val':=if v.kind=1 then ⟨1,v.n⟩ else if v.kind=2 then ⟨2,0⟩ else ⟨0,0⟩
def ev207 (v:Val'):Ev E 207 [.agg [jec v]] (.tup [.agg (J7 (jvt v)),.int .i64 0]):=by
 refine jS rfl ?_;unfold jec jvt;by_cases a:v.kind=1
 ·conv in(occs:=*)F207=>all_goals cbv
  simp[J7,ya,a,j1a,eqV,jk6,j2];exact JP rfl (l:=[.agg [.int .i64 1,.int .i64 v.n],.int .i64 0]) (by simp[ju,ya]) rfl rfl
 ·by_cases b:v.kind=2
  ·conv in(occs:=*)F207=>all_goals cbv
   simp[J7,ya,b,j1a,eqV,jk6,j2];exact JP rfl (l:=[.agg [.int .i64 2,.int .i64 0],.int .i64 0]) (by simp[ju,ya]) rfl rfl
  ·conv in(occs:=*)F207=>all_goals cbv
   simp[J7,ya,a,b,j1a,eqV];exact JP rfl (l:=[.agg [.int .i64 0,.int .i64 0],.int .i64 0]) (by simp[ju,ya]) rfl rfl
def jwh (v:Val'):jto v=((jvt v).kind==v.kind&&(jvt v).n==v.n):=by obtain⟨k,n⟩:=v;unfold jto jvt;by_cases a:k=1;simp[a];by_cases b:k=2;rw[za a,zb b,bA];simp only[bG,aj,zh];omega;rw[za a,za b,bA];simp only[bG,aj,zh];omega
def jjj (v:Val'):(jec v).pureLeaf=true:=by unfold jec;split;rfl;split<;>rfl
def jew (v:Val'):(jec v).strip1=jec v:=by unfold jec;split;rfl;split<;>rfl
def ev146 (v:Val'):Ev E 146 [.agg (J7 v)] (.bool (jto v)):=by
 refine jS rfl ?_;conv in(occs:=*)F146=>all_goals cbv
 simp[J7,ya];refine Y8 (vs:=[.agg (J7 v)]) (by simp[J7]) rfl (by simp[J7]) (by simpa[J7] using ev208 v) ?_;simp[JY (v:=.agg [jec v]) (by simp[V.plain,jjj])];refine Y8 (vs:=[.agg [jec v]]) zS rfl (by simp[jjj,jew]) (by simpa[jew] using ev207 v) ?_;rw[jwh];generalize jvt v=b;rw[Jb (by simp[V.plain,J7])];simp[J7,ya];exact j3 rfl zS rfl
def opB (h:Hist') (o:Op'):Bool:=Ym o.key h.ks.length&&(jto o.v&&(!o.w||o.v.kind==1))
def ev92 (h:Hist') (o:Op'):Ev E 92 [.agg (yb h),.agg (yS o)] (.bool (opB h o)):=by
 refine jS rfl ?_;conv in(occs:=*)F92=>all_goals cbv
 simp[yb,yS,ya];refine Y8 (vs:=[.int .i64 o.key,yl h.kn X1 h.ks]) zS rfl zS (by simpa using ev144 o.key h.kn h.ks) ?_;unfold opB;cases b:Ym o.key h.ks.length;simp;exact j3 rfl zS rfl;simp[ya];refine Y8 (vs:=[.agg (J7 o.v)]) (by simp[J7]) rfl (by simp[J7]) (by simpa[J7] using ev146 o.v) ?_;cases a:jto o.v;simp;exact j3 rfl zS rfl;cases c:o.w;simp[ya];exact j3 rfl zS rfl;simp[ya];exact j3 rfl zS rfl
@[simp] theorem startS_tm (args:List V) (ob:ZO) (tk:Nat->Bool) (ro base ub n:Nat):(XD args ob tk ro base ub).tm n=args.getD n jw:=rfl
@[simp] theorem startS_ob (args:List V) (ob:ZO) (tk:Nat->Bool) (ro base ub:Nat):(XD args ob tk ro base ub).ob=ob:=rfl
@[simp] theorem startS_tk (args:List V) (ob:ZO) (tk:Nat->Bool) (ro base ub:Nat):(XD args ob tk ro base ub).tk=tk:=rfl
@[simp] theorem startS_ro (args:List V) (ob:ZO) (tk:Nat->Bool) (ro base ub:Nat):(XD args ob tk ro base ub).ro=ro:=rfl
@[simp] theorem startS_nx (args:List V) (ob:ZO) (tk:Nat->Bool) (ro base ub:Nat):(XD args ob tk ro base ub).nx=ub:=rfl
@[simp] theorem startS_fb (args:List V) (ob:ZO) (tk:Nat->Bool) (ro base ub:Nat):(XD args ob tk ro base ub).fb=base:=rfl
@[simp] theorem startS_df (args:List V) (ob:ZO) (tk:Nat->Bool) (ro base ub:Nat):(XD args ob tk ro base ub).df=[]:=rfl
def jg {n:Int}(h:-9223372036854775808<=n) (a:n<=9223372036854775807):IntKind.i64.wrap n=n:=by rw[IntKind.wrap_i64];omega
section
variable {α:Type}{f:α->List V}{k:Nat}
def j1 (b:∀a,(f a).length=k):∀(l:List α),(l.flatMap f).length=l.length*k
 |[]=>by simp
 |a::l=>by rw[bk,ap,b,j1 b l,bj,dh];omega
def XS (b:∀a,(f a).length=k):∀(l:List α) (i:Nat) (h:i<l.length),((l.flatMap f).drop (i*k)).take k=f l[i]
 |a::l,0,_=>by rw[bk,dF,du,eV (by rw[b];omega),aH (by rw[b];omega)];rfl
 |a::l,i+1,h=>by rw[bk,dh,List.drop_append,bC (by rw[b];omega),dz,b,ft];exact XS b l i (zU h)
def j4 (b:∀a,(f a).length=k) (nl:Bool) (l:List α) (kk:IntKind) {i:Nat}(h:i<l.length):jt k (yl nl f l) (.int kk i)=some (.eptr (l.flatMap f) (i*k)):=by simp only[yl,J1,j1 b];rw[zb zP];rfl
def jd (b:∀a,(f a).length=k) (ob:ZO) (l:List α) {i:Nat}(h:i<l.length):W8 ob (some k) (.eptr (l.flatMap f) (i*k))=some (.agg (f l[i])):=by
 have:i*k+k<=l.length*k:=by rw[<- dh];exact bh k h
 rw[jd2,Wr,zb (by rw[j1 b];exact this),XS b l i h]
end
@[simp] theorem j7 (t:Txn'):(jf t).length=3:=rfl
@[simp] theorem jD (t:Op'):(yS t).length=4:=rfl
@[simp] theorem Yp (t:List UInt8):(X1 t).length=1:=rfl
def Wv {E:Env}{Yf:YF}{q:A}{xs:List A}{st:St}{ub:Nat}{K:St->Nat->Prop}{d:Option Nat}{nm:Bool}{f:FuncId}{first captured:List V}(e:ye E st.tm q=.fn (.func f) first captured) (c:E.sh nm f=false)
 (hp:((first++xs.map (ye E st.tm)++captured).all λv=>v.strip.pureTop)=false) {v:V}(i:EvO E f (first++xs.map (ye E st.tm)++captured) st.ob st.tk ((st.fb+d.getD 0+1)*1024) ub v) (h:wpD (Xp ub v) (QN K st d ub)) :
 j8 E Yf ⟨d,.callV q xs,none,nm⟩ st ub K:=by
 have a:jA E nm (ye E st.tm) (.callV q xs)=some (f,first++xs.map (ye E st.tm)++captured):=by simp only[jA,e,c,hp,cp,bM,ag,zc]
 simp only[j8,yK,jl,e,a];obtain⟨g,b,j⟩:=h;exact .inr ⟨c,v,i,g,b,j⟩
def jN {E:Env}{Yf:YF}{f:FuncId}{xs:List A}{st:St}{ub:Nat}{K:St->Nat->Prop}{d:Option Nat}{nm:Bool}{vs:List V}(a:xs.map (ye E st.tm)=vs) (c:E.sh nm f=false) (hp:(vs.all λv=>v.strip.pureTop)=false) {v:V}
 (b:EvO E f vs st.ob st.tk ((st.fb+d.getD 0+1)*1024) ub v) (h:wpD (Xp ub v) (QN K st d ub)):j8 E Yf ⟨d,.call f xs,none,nm⟩ st ub K :=
 jwb c (by rw[a];exact hp) ⟨v,by rw[a];exact b,h⟩
def jq {E:Env}{f:FuncId}{af:AF}{args:List V}{ob:ZO}{tk:Nat->Bool}{base ub:Nat}{r:V}(a:E.fs f=some af) (h:wpC E YS af.body (XD args ob (λ_=>false) ub base ub) (j57 af.res r)) (b:E.fz f=false:=by rfl):EvO E f args ob tk base ub r:=EvO_wp a h b
def HistAt (h:Hist') (ob:ZO) (l u:Nat):Prop:=l % 2=0/\ob l=some ⟨u,.cells (yb h)⟩
def ev89 {h:Hist'}{ob:ZO}{l u:Nat}(c:HistAt h ob l u) (t:Txn') (tk:Nat->Bool) (base ub:Nat):EvO E 89 [.agg (jf t),.ptr l u 0] ob tk base ub (.bool (!je4 h t)):=by
 obtain⟨d,b⟩:=c;refine jq rfl ?_;have a:¬l=2*ub+1:=zO;conv in(occs:=*)S89=>all_goals cbv
 simp[ya,a,b,jf,yb];refine Y8 (vs:=[.agg (yb h),.agg (jf t)]) (by simp[yb,jf]) rfl (by simp[yb,jf]) (by simpa[yb,jf] using ev90 h t) ?_;simp;exact j3 rfl zS rfl
def WE {α:Type}(p:α->Bool) (l:List α):Int:=match l.findIdx? p with
 |some i=>i
 |none=>-1
def YY {α:Type}{p:α->Bool}{l:List α}{i:Nat}(h:i<l.length) (c:p l[i]=true) (b:∀j (a:j<l.length),j<i->p l[j]=false):WE p l=i:=by
 unfold WE;have:l.findIdx? p=some i:=by rw[eL];exact⟨h,c,λj a=>by rw[b j zO a];decide⟩
 rw[this]
def WD {α:Type}{p:α->Bool}{l:List α}(b:∀j (a:j<l.length),p l[j]=false):WE p l = -1:=by
 unfold WE;have:l.findIdx? p=none:=by rw[fG];intro x c;obtain⟨j,a,e⟩:=bq c;rw[<- e];exact b j a
 rw[this]
def jas {α:Type}(p:α->Bool) (l:List α):decide (0<=WE p l)=l.any p:=by
 unfold WE;cases h:l.findIdx? p with
 |none=>rw[fG]at h;simp;intro x c;simpa using h x c
 |some i=>rw[eL]at h;obtain⟨b,a,_⟩:=h;simp;exact⟨_,au b,a⟩
def ev143 {p:Txn'->Bool}{g:FuncId}{cap:V}{ob:ZO}(y:E.sh true g=false) (d:cap.strip.pureTop=false) (hp:∀(t:Txn') (tk:Nat->Bool) (base ub:Nat),EvO E g [.agg (jf t),cap] ob tk base ub (.bool (p t)))
 (nl:Bool) (l:List Txn') (z:l.length<=140737488355328) (tk:Nat->Bool) (base ub:Nat):EvO E 143 [yl nl jf l,.fn (.func g) [] [cap]] ob tk base ub (.int .i64 (WE p l)):=by
 refine jq rfl ?_;conv in(occs:=*)S143=>all_goals cbv
 simp;refine Yo (n:=l.length) (λk s=>∃i,k=l.length-i/\i<=l.length/\s.df=[]/\s.ob=ob/\s.tm 0=yl nl jf l/\s.tm 1=.fn (.func g) [] [cap]/\s.tm 7=.int .i64 l.length/\s.tm 8=.int .i64 i/\∀j (c:j<l.length),j<i->p l[j]=false)
  ⟨0,zS⟩ ?_
 rintro k s ⟨i,rfl,B,e,u,w,x,q,m,o⟩;by_cases a:i<l.length;simp[w,x,q,m,a,j4 j7,jd j7];refine Wv (f:=g) (first:=[]) (captured:=[cap]) zS y (by simp[d]) (v:=.bool (p l[i])) (by simpa[u] using hp l[i] _ _ _) ?_;cases b:p l[i];simp[w,x,q,m,e];refine⟨l.length-(i+1),zO,i+1,rfl,zO,u,by rw[jg zO zO];simp,?_⟩;intro j c r;rcases bi.1 r with h|rfl;exact o j c h;exact b;simp;refine j3 (zU e) ?_ rfl;simp;rw[YY a b o];have:i=l.length:=zO;subst this;simp[q,m];refine j3 (zU e) ?_ rfl;simp[WD (λj c=>o j c c)]
def ev88 {p:Txn'->Bool}{g:FuncId}{ob:ZO}{a b c:Nat}(e:E.sh true g=false) (hp:∀(t:Txn') (tk:Nat->Bool) (base ub:Nat),EvO E g [.agg (jf t),.ptr a b c] ob tk base ub (.bool (p t)))
 (nl:Bool) (l:List Txn') (d:l.length<=140737488355328) (tk:Nat->Bool) (base ub:Nat):EvO E 88 [yl nl jf l,.fn (.func g) [] [.ptr a b c]] ob tk base ub (.bool (l.any p)):=by
 refine jq rfl ?_;conv in(occs:=*)S88=>all_goals cbv
 simp;refine jN (vs:=[yl nl jf l,.fn (.func g) [] [.ptr a b c]]) zS rfl rfl (ev143 e rfl hp nl l d _ _ _) ?_;simp;exact j3 rfl (by simp[jas]) rfl
def Fr (ub:Nat) (ob ob':ZO):Prop:=∀key,(∀m,ub<=m->key≠2*m+1)->ob' key=ob key
def Fr.refl (ub:Nat) (ob:ZO):Fr ub ob ob:=λ_ _=>rfl
def Jg (res:List ARes) (P:V×(ZO)×(Nat->Bool)×Nat->Prop):Ex->St->Prop:=λe s=>∃r,endS res (e,s)=some r/\P r
def jk (st:St) (d:Option Nat) (v:V) (obs:List (Nat×Obj')):(st.app d { v:=v,obs:=obs }).tk=st.tk:=by funext u;simp[jb]
def Fr.two {ub m:Nat}{ob ob':ZO}(h:∀a,a≠2*m+1->ob' a=ob a) (b:ub<=m):Fr ub ob ob':=λa c=>h a (c m b)
def jq3 {E:Env}{Yf:YF}{o:AOpr}{st:St}{ub:Nat}{K:St->Nat->Prop}(h:∀a,a=st->j8 E Yf o a ub K):j8 E Yf o st ub K:=h st rfl
def j5z {Yf:YF}(h:Hist') (hn:h.ts.length<=1000) (hm:∀t∈h.ts,t.ops.length<=1000000) {l u lh uh:Nat}{ob0:ZO}{tk0:Nat->Bool}{ro base ub0:Nat}(hh:ob0 lh=some ⟨uh,.cells (yb h)⟩) (c0:ro<=ub0)
 (J:Nat->Nat->(ZO)->(Nat->Bool)->Nat->Prop) (P:V×(ZO)×(Nat->Bool)×Nat->Prop)
 (f:∀i k ob o g e q,J i k ob g e->e<=q->Fr e ob o->J i k o g q)
 (H:∀i (hi:i<h.ts.length) ob g e,J i (h.ts[i]).ops.length ob g e->J (i+1) 0 ob g e)
 (F:∀i (hi:i<h.ts.length) k (S:k<(h.ts[i]).ops.length) ob g e,J i k ob g e->ro<=e->∃r,EvY Yf l u [.agg [.int .i64 i,.int .i64 k],.agg (yS (h.ts[i]).ops[k])] ob g ro e r/\ro<=r.2.2.2 /\
  ((r.1=.bool true/\J i (k+1) r.2.1 r.2.2.1 r.2.2.2)\/(r.1=.bool false/\∀o q,r.2.2.2<=q->Fr r.2.2.2 r.2.1 o->P (.tup [],o,r.2.2.1,q))))
 (M:∀ob g e,J h.ts.length 0 ob g e->P (.tup [],ob,g,e))
 (w:J 0 0 ob0 tk0 ub0):∃r,EvS E Yf.y 145 [.yld l u,.ptr lh uh 0] ob0 tk0 ro base ub0 r/\P r:=by
 refine J6 rfl zQ ?_;show wpC E Yf S145.body _ (Jg S145.res P);conv in(occs:=*)S145=>all_goals cbv
 simp[ya,hh,yb];refine Yo (n:=h.ts.length) (λk s=>∃i,k=h.ts.length-i/\i<=h.ts.length/\s.df=[]/\s.fb=base/\s.ro=ro/\ro<=s.nx/\s.tm 0=.yld l u/\s.tm 8=yl h.tn jf h.ts/\s.tm 9=.int .i64 h.ts.length/\s.tm 10=.int .i64 i/\J i 0 s.ob s.tk s.nx)
  ⟨0,by simp;exact⟨zO,f _ _ _ _ _ _ _ w zO (Fr.refl _ _)⟩⟩ ?_
 rintro k s ⟨i,rfl,hi,L,p,c,Q,w,I,G,d,K⟩;by_cases v:i<h.ts.length;simp[I,G,d,v,j4 j7,jd j7,jf,ya,c];refine⟨zO,?_⟩;refine Yo (n:=(h.ts[i]).ops.length) (λk s=>∃j,k=(h.ts[i]).ops.length-j/\j<=(h.ts[i]).ops.length/\s.df=[]/\s.fb=base/\s.ro=ro/\ro<=s.nx/\s.tm 0=.yld l u/\s.tm 8=yl h.tn jf h.ts/\s.tm 9=.int .i64 h.ts.length/\s.tm 10=.int .i64 i /\
  s.tm 3=.int .i64 i/\s.tm 16=yl (h.ts[i]).nl yS (h.ts[i]).ops/\s.tm 17=.int .i64 (h.ts[i]).ops.length/\s.tm 18=.int .i64 j/\J i j s.ob s.tk s.nx) ⟨0,?_⟩ ?_
 simp[L,p,c,w,I,G,d];refine⟨zO,?_⟩;rw[jk,jop,jk];refine f _ _ _ _ _ _ _ K (by omega:s.nx<=_) (Fr.two (m:=s.nx+64+64+64+64) (λb5 S=>?_) zO);simp[S];clear L p c Q w I G d K s;rintro k s ⟨j,rfl,hj,L,p,c,Q,w,I,G,d,h3,N,x,B,K⟩;by_cases O:j<(h.ts[i]).ops.length;simp[w,h3,N,x,B,O,j4 jD,jd jD,yS,ya,c,j2];refine⟨zO,jq3 λb a=>?_⟩;have b7:b.tm 23=.yld l u:=by rw[a];simp
 have b6:b.tm 26=.agg [.int .i64 i,.int .i64 j]:=by rw[a];simp
 have Z:b.tm 27=.agg (yS (h.ts[i]).ops[j]):=by rw[a];simp[yS]
 have e0:b.tm 0=.yld l u:=by rw[a];simp[w]
 have e8:b.tm 8=yl h.tn jf h.ts:=by rw[a];simp[I]
 have e9:b.tm 9=.int .i64 h.ts.length:=by rw[a];simp[G]
 have X:b.tm 10=.int .i64 i:=by rw[a];simp[d]
 have e3:b.tm 3=.int .i64 i:=by rw[a];simp[h3]
 have b0:b.tm 16=yl (h.ts[i]).nl yS (h.ts[i]).ops:=by rw[a];simp[N]
 have b8:b.tm 17=.int .i64 (h.ts[i]).ops.length:=by rw[a];simp[x]
 have T:b.tm 18=.int .i64 j:=by rw[a];simp[B]
 have ed:b.df=[]:=by rw[a];simp[L]
 have ef:b.fb=base:=by rw[a];simp[p]
 have er:b.ro=ro:=by rw[a];simp[c]
 have et:b.tk=s.tk:=by rw[a];simp only[jop,jw0,jk]
 have eo:Fr s.nx s.ob b.ob:=by rw[a];exact Fr.two (m:=s.nx+64+64+64+64) (λb5 S=>by simp[S]) zO
 clear a;obtain⟨r,hr,b9,D⟩:=F i v j O b.ob s.tk (s.nx+64+64+64+64+64+64+64+64+64+64+64+64) (f _ _ _ _ _ _ _ K zO eo) zO;refine jlj (l:=l) (u:=u) (zU b7) ⟨r,by simpa[b6,Z,et,er] using hr,?_⟩;rcases D with⟨z,a0⟩|⟨z,hP⟩;simp[z,put,yg,T];have hb:=hm h.ts[i] (au v);refine⟨(h.ts[i]).ops.length-(j+1),zO,j+1,rfl,zO,ed,ef,er,zO,e0,e8,e9,X,e3,b0,b8,by rw[jg zO zO];simp,?_⟩;exact f _ _ _ _ _ _ _ a0 zO (Fr.refl _ _);simp[z,put];refine⟨(.tup [],r.2.1,r.2.2.1,r.2.2.2+64),?_,hP _ _ zO (Fr.refl _ _)⟩;simp[endS,ed];have:j=(h.ts[i]).ops.length:=zO;subst this;have U:=H i v _ _ _ K;simp[x,B,w,I,G,d,L,p,c];refine⟨h.ts.length-(i+1),zO,i+1,rfl,zO,zO,by rw[jg zO zO];simp,?_⟩;exact f _ _ _ _ _ _ _ U zO (Fr.refl _ _);have:i=h.ts.length:=zO;subst this;simp[G,d];refine⟨(.tup [],s.ob,s.tk,s.nx+64),?_,M _ _ _ (f _ _ _ _ _ _ _ K (Nat.le_add_right _ _) (Fr.refl _ _))⟩;simp[endS,L]
def jcz {E:Env}{Yf:YF}{f:FuncId}{xs:List A}{st:St}{ub:Nat}{K:St->Nat->Prop}{d:Option Nat}{nm:Bool}{vs:List V}(g:xs.map (ye E st.tm)=vs) (b:E.sh nm f=true)
 (h:∃r,EvS E Yf.y f vs st.ob st.tk st.ro ((st.fb+d.getD 0+1)*1024) ub r/\K { st with tm:=put st.tm d r.1,ob:=r.2.1,tk:=r.2.2.1 } r.2.2.2):j8 E Yf ⟨d,.call f xs,none,nm⟩ st ub K:=by
 have a:jA E nm (ye E st.tm) (.call f xs)=some (f,vs):=by simp only[jA,b,g,bV,bH,ag,zc]
 simp only[j8,yK,jl,a];obtain⟨r,c,e⟩:=h;exact .inl ⟨b,EvS.list ⟨r,c,e⟩⟩
def ev91 {Yf:YF}(h:Hist') (ob:ZO) (tk:Nat->Bool) (ro base ub:Nat):∃r,EvS E Yf.y 91 [.agg (yb h)] ob tk ro base ub r /\
 r.1=.fn (.func 145) [] [.ptr (2*ub+1) ub 0]/\(∀a,r.2.1 a=if a=2*ub+1 then some ⟨ub,.cells (yb h)⟩ else ob a)/\r.2.2.1=tk/\r.2.2.2=ub+256:=by
 refine J6 rfl zQ ?_;show wpC E Yf S91.body _ (Jg S91.res _);conv in(occs:=*)S91=>all_goals cbv
 simp[yb];refine⟨(.fn (.func 145) [] [.ptr (2*ub+1) ub 0],_,_,_),rfl,?_⟩;simp[jk]
def jdv (h:Hist'):List Op':=h.ts.flatMap (·.ops)
def j6d (h:Hist') (i k:Nat):Prop:=∀i' (hi:i'<h.ts.length) k' (hk:k'<(h.ts[i']).ops.length),(i'<i\/i'=i/\k'<k)->opB h (h.ts[i']).ops[k']=true
def AS70:C:=.region [
 ⟨(some 4),.alloc [(.bool false),(.int .i64 0),(.int .i64 0),(.int .i64 0)],none,false⟩,
 ⟨none,.store 4 (.t 4) (.t 17),none,false⟩]
def BD70:C:=.block 1 (.seq (.region [
            ⟨(some 18),.load (some 3) (.t 1),none,false⟩,
            ⟨(some 19),.load (some 4) (.t 4),none,false⟩,
            ⟨(some 20),.call 92 [(.t 18),(.t 19)],none,false⟩,
            ⟨(some 21),.un .not (.t 20),none,false⟩])
 (.cond (.t 21) (.seq (.region [
  ⟨none,.store 1 (.t 2) (.c (.int .i64 4)),none,false⟩])
  (.ret))
  (.skip)))
def jva {h:Hist'}(f:j6d h h.ts.length 0):(jdv h).all (opB h)=true:=by rw[aw];intro o d;obtain⟨t,e,a⟩:=cq.1 d;obtain⟨i,b,rfl⟩:=bq e;obtain⟨k,c,rfl⟩:=bq a;exact f i b k c (Or.inl b)
def jQ {E:Env}{Yf:YF}{c:C}{st:St}{Q:Ex->St->Prop}(h:∀a,a=st->wpC E Yf c a Q):wpC E Yf c st Q:=h st rfl
def j6t {l k:Nat}(ob:ZO) (h:k≠l):(if Nat.beq l k then none else ob k)=ob k:=by
 cases a:Nat.beq l k with
 |false=>rfl
 |true=>exact zf (bt a).symm h
def j8a (h:Hist') (hn:h.ts.length<=1000) (v:∀t∈h.ts,t.ops.length<=1000000) {st:St}{lh uh:Nat}(U:Nat) (hU:st.nx=U) (b8:64<=U) (a0:st.tm 15=.fn (.func 145) [] [.ptr lh uh 0]) (hl:∃m,lh=2*m+1/\m<U)
 (h1:st.tm 1=.ptr 2 0 0) (h2:st.tm 2=.ptr 4 64 0) (K:st.ro=0) (I:st.fb=0) (o2:st.ob 2=some ⟨0,.cells (yb h)⟩) (o4:st.ob 4=some ⟨64,.cells [.int .i64 0]⟩) (oh:st.ob lh=some ⟨uh,.cells (yb h)⟩) {Q:Ex->St->Prop}
 (hQ:∀(e:Ex) (ob:ZO) (tk:Nat->Bool) (ub:Nat) (c:Int),ob 2=some ⟨0,.cells (yb h)⟩->ob 4=some ⟨64,.cells [.int .i64 c]⟩->ob (2*U+3)=some ⟨U+1,.dfr⟩->U+64<=ub ->
  ((jdv h).all (opB h)=true/\e=.nrm/\c=0\/(jdv h).all (opB h)=false/\e=.ret/\c=4)->Q e { st with ob:=ob,tk:=tk,nx:=ub,df:=(2*U+3,U+1)::st.df }) :
 wpC E YS (.rangeFunc (.t 15) [16,17] AS70 BD70) st Q:=by
 obtain⟨m,rfl,b5⟩:=hl
 subst hU
 refine Q9 (g:=145) (first:=[]) (captured:=[.ptr (2*m+1) uh 0]) (zU a0) ?_
 have:=j5z (Yf:=jia E YS AS70 BD70 st [16,17] (2*st.nx+1) st.nx) h hn v (l:=2*st.nx+1) (u:=st.nx) (lh:=2*m+1) (uh:=uh)
  (ob0:=upd (upd st.ob (2*st.nx+3) (some ⟨st.nx+1,.dfr⟩)) (2*st.nx+1) (some ⟨st.nx,.loop .ready none⟩)) (tk0:=st.tk) (ro:=st.ro) (base:=(st.fb+1023)*1024) (ub0:=st.nx+64)
  (by have H :¬ 2 * m+1=2 * st.nx+1:=by omega
      have F:¬2*m+1=2*st.nx+3:=zO
      simp only[yg,H,F,zc,oh]) zO
  (λi k ob tk ub=>j6d h i k/\ob (2*st.nx+1)=some ⟨st.nx,.loop .ready none⟩/\ob (2*st.nx+3)=some ⟨st.nx+1,.dfr⟩/\ob 2=some ⟨0,.cells (yb h)⟩/\ob 4=some ⟨64,.cells [.int .i64 0]⟩/\st.nx+64<=ub)
  (λr=>∃s w,r.2.1 (2*st.nx+1)=some ⟨st.nx,.loop s w⟩/\s≠.busy/\st.ro<=st.nx/\Q (w.getD .nrm) { st with ob:=λk=>if Nat.beq (2*st.nx+1) k then none else r.2.1 k,tk:=r.2.2.1,nx:=r.2.2.2,df:=(2*st.nx+3,st.nx+1)::st.df })
  ?_ ?_ ?_ ?_ ?_
 ·obtain⟨r,hr,hP⟩:=this
  exact⟨r,hr,hP⟩
 ·-- what J says stands behind what is new
  rintro i k ob j tk ub L ⟨q,D,P,G,N,g6⟩ b6 y
  have f:∀n,(∀m,ub<=m->n≠2*m+1)->j n=ob n:=y
  exact⟨q,by rw[f _ (λm v=>by omega)];exact D,by rw[f _ (λm v=>by omega)];exact P,by rw[f _ (λm v=>by omega)];exact G,by rw[f _ (λm v=>by omega)];exact N,zO⟩
 ·rintro i hi ob tk ub ⟨q,g⟩
  refine⟨λO d B b p=>?_,g⟩
  rcases p with z|⟨_,z⟩
  ·rcases bi.1 z with h''|rfl
   ·exact q O d B b (Or.inl h'')
   ·exact q O d B b (Or.inr ⟨rfl,b⟩)
  ·omega
 ·rintro i hi k hk ob tk ub ⟨q,D,P,G,N,g6⟩ b7
  refine jhn (asg:=AS70) (bd:=BD70) (xs:=[.agg [.int .i64 i,.int .i64 k],.agg (yS (h.ts[i]).ops[k])]) rfl zO D zQ zQ ?_
  simp[AS70,jfw,ya,I,yS,K]
  refine⟨by rw[za zO,za zO];exact D,jQ λo a=>?_⟩
  have f1:o.tm 1=.ptr 2 0 0:=by rw[a];simp[yg,h1]
  have f2:o.tm 2=.ptr 4 64 0:=by rw[a];simp[yg,h2]
  have f4:o.tm 4=.ptr 8 ub 0:=by rw[a];simp
  have Z:¬2=2*st.nx+1:=zO
  have X:¬4=2*st.nx+1:=zO
  have n8:¬8=2*st.nx+1:=zO
  have S:¬2*st.nx+3=2*st.nx+1:=zO
  have b0:¬2*st.nx+3=8:=zO
  have p2:o.ob 2=some ⟨0,.cells (yb h)⟩:=by rw[a];simp only[yg,Z,zc,XM];simp[G]
  have p4:o.ob 4=some ⟨64,.cells [.int .i64 0]⟩:=by rw[a];simp only[yg,X,zc,XM];simp[N]
  have p8:o.ob 8=some ⟨ub,.cells (yS (h.ts[i]).ops[k])⟩:=by rw[a];simp only[yg,n8,zc,XM];simp[yS]
  have p3:o.ob (2*st.nx+3)=some ⟨st.nx+1,.dfr⟩:=by rw[a];simp only[yg,S,b0,zc,XM];exact P
  have p1:o.ob (2*st.nx+1)=some ⟨st.nx,.loop .busy none⟩:=by rw[a];simp
  have fr:o.ro=0:=by rw[a]
  have fn:ub<=o.nx:=by rw[a];simp;omega
  clear a
  simp[BD70,f1,f4,p2,p8,ya,yS,yb]
  refine Y8 (vs:=[.agg (yb h),.agg (yS (h.ts[i]).ops[k])]) (by simp[yb,yS]) rfl (by simp[yb,yS]) (by simpa[yb,yS] using ev92 h (h.ts[i]).ops[k]) ?_
  have m1:¬2*st.nx+1=4:=zO
  have m3:¬2*st.nx+3=4:=zO
  cases hb:opB h (h.ts[i]).ops[k]
  ·simp[f2,p4,ya,fr,m1,p1,QF,j2]
   intro j L b9 y
   have T:∀n,(∀m,o.nx+64+64+64+64+64<=m->n≠2*m+1)->j n=_:=y
   have M:(jdv h).all (opB h)=false:=by
    rw[eP]
    exact⟨_,cq.2 ⟨_,au hi,au hk⟩,by rw[hb];decide⟩
   have x:∀{k:Nat},k≠2*st.nx+1->(if 2*st.nx+1=k then none else j k)=j k:=λhk=>za λe=>hk e.symm
   refine⟨.done,some .ret,?_,zS,?_⟩
   ·rw[T _ (λm v=>by omega)]
    simp
   ·have:=hQ .ret (λk=>if 2*st.nx+1=k then none else j k) o.tk L 4 (by rw[x Z,T _ (λm v=>by omega)];simp only[yg,Z,zc,XM];simp[p2]) (by rw[x X,T _ (λm v=>by omega)];simp only[yg,X,zc,XM];simp)
     (by rw[x S,T _ (λm v=>by omega)];simp only[yg,S,m3,zc,XM];exact p3) zO (Or.inr ⟨M,rfl,rfl⟩)
    rw[K,I]at this
    exact this
  ·simp[p1,QF]
   refine⟨λO d B b p=>?_,?_,?_,?_,zO⟩
   ·rcases p with z|⟨rfl,z⟩
    ·exact q O d B b (Or.inl z)
    ·rcases bi.1 z with h''|rfl
     ·exact q _ d B b (Or.inr ⟨rfl,h''⟩)
     ·exact hb
   ·rw[yg,za S];exact p3
   ·rw[yg,za Z];exact p2
   ·rw[yg,za X];exact p4
 ·rintro ob tk ub ⟨q,D,P,G,N,g6⟩
  refine⟨.ready,none,D,zS,zO,?_⟩
  exact hQ .nrm _ _ _ 0 ((j6t ob zO).trans G) ((j6t ob zO).trans N) ((j6t ob zO).trans P) g6 (Or.inl ⟨jva q,rfl,rfl⟩)
 ·refine⟨λO d B b p=>by omega,?_,?_,?_,?_,zO⟩
  ·simp
  ·simp[yg]
  ·have H:¬2=2*st.nx+1:=zO
   have F:¬2=2*st.nx+3:=zO
   simp only[yg,H,F,zc,o2]
  ·have H:¬4=2*st.nx+1:=zO
   have F:¬4=2*st.nx+3:=zO
   simp only[yg,H,F,zc,o4]
def rc (l:List Op'):Nat:=(l.filter λo=>!o.w).length
def rcT (l:List Txn'):Nat:=rc (l.flatMap (·.ops))
def rc_le (l:List Op'):rc l<=l.length:=bO _ _
def rc_app (a b:List Op'):rc (a++b)=rc a+rc b:=by simp[rc]
section
variable {E:Env}{Yf:YF}{st:St}{ub:Nat}{K:St->Nat->Prop}{d:Option Nat}{nm:Bool}
def Jl {sz a u n:Nat}{nl:Bool}{cs ys:List V}{s x:A}(j:ye E st.tm s=.sl (some (u,sz)) nl n cs) (e:st.tk u=true) (k:yp st.ob sz (ye E st.tm x)=some ys) (c:ys≠[]) (b:cs.length=n*sz) (g:0<sz)
 (hp:ys.all V.pureLeaf=true) (i:(n+ys.length/sz)*a<=140737488355328) (f:n+ys.length/sz<=140737488355328) (h:QN K st d ub { v:=.sl (some (ub,sz)) false (n+ys.length/sz) (cs++ys),del:=some u,add:=[ub] }) :
 j8 E Yf ⟨d,.append false sz a s x,none,nm⟩ st ub K:=by
 rw[jT _ rfl rfl];simp only[yU,j,k,ah,za c,bH,ag,zc];rw[zb ⟨b,g,hp,i,f⟩,zb (by simp[e]),jG];exact h
def jkr {sz a:Nat}{ys:List V}{s x:A}(g:ye E st.tm s=.sl none true 0 []) (i:yp st.ob sz (ye E st.tm x)=some ys) (b:ys≠[]) (e:0<sz)
 (hp:ys.all V.pureLeaf=true) (f:(0+ys.length/sz)*a<=140737488355328) (c:0+ys.length/sz<=140737488355328) (h:QN K st d ub { v:=.sl (some (ub,sz)) false (0+ys.length/sz) ([]++ys),add:=[ub] }) :
 j8 E Yf ⟨d,.append false sz a s x,none,nm⟩ st ub K:=by
 rw[jT _ rfl rfl];simp only[yU,g,i,ah,za b,bH,ag,zc];rw[zb ⟨zS,e,hp,f,c⟩,zb trivial,jG];exact h
def jF {sz n:Nat}{zero:List V}{a:List (Nat×Nat×A)}{cs:List V}(b:fill zero (JE (ye E st.tm) a)=some cs) (c:cs.length=n*sz) (hp:(cs.map V.strip1).all V.pureLeaf=true)
 (h:QN K st d ub { v:=.sl (some (ub,sz)) false n (cs.map V.strip1),add:=[ub] }):j8 E Yf ⟨d,.buildSl false sz zero a n,none,nm⟩ st ub K:=by
 rw[jT _ rfl rfl];simp only[yU,b,ah,ag,zc];rw[zb ⟨c,hp⟩,jG];exact h
end
def jO {b:Type}{f:b->List V}{k:Nat}(c:∀a,(f a).length=k) (l:List b) {i o:Nat}(h:i<l.length) (e:o<k):(l.flatMap f)[i*k+o]? = (f l[i])[o]?:=by have:=XS c l i h;rw[<- this,cR,zb e,bF]
def yu (p:Txn'->Bool) (l:List Txn'):Nat->List Int
 |0=>[]
 |i+1=>yu p l i++(match l[i]? with|some t=>if p t then [(i:Int)] else []|none=>[])
def Jj (p:Txn'->Bool) (l:List Txn'):∀i,(yu p l i).length<=i
 |0=>by simp[yu]
 |i+1=>by have:=Jj p l i;simp only[yu,ap];split;split<;>simp<;>omega;simp;omega
def yf (n:Int):List V:=[.int .i64 n]
def Jm {p:Txn'->Bool}{l:List Txn'}{i:Nat}(h:i<l.length):yu p l (i+1)=yu p l i++(if p l[i] then [(i:Int)] else []):=by simp[yu,aa h]
@[simp] theorem j6 (n:Int):(yf n).length=1:=rfl
def Qz {n u m:Nat}{st:St}{cs:List V}(a:st.df=[]) (h:st.tm n=.sl (some (u,1)) false m cs) (b:st.tk u=true):jb4 [.t n] (.ret,st)=some (.sl (some (0,1)) false m cs):=by simp only[jb4,Yj a,Ye a,zd,bQ,gt,ju,h];simp[W4,Jc,XE,js,V.toks,V.tok,yJ,b]
def XU (t:Txn'):Bool:=t.f==3
def Y3 (h:Hist'):List Int:=yu XU h.ts h.ts.length
def ev49 (h:Hist') (t:h.ts.length<=1000):Ev E 49 [.agg (yb h)] (.sl (some (0,1)) false (Y3 h).length ((Y3 h).flatMap yf)):=by
 refine jS rfl ?_;conv in(occs:=*)F49=>all_goals cbv
 simp[yb];refine jF (cs:=[]) rfl rfl rfl ?_;simp;refine Yo (n:=h.ts.length) (λk s=>∃i u,k=h.ts.length-i/\i<=h.ts.length/\s.df=[]/\s.fb=0/\s.ro=0/\s.tm 1=.ptr 2 0 0/\s.ob 2=some ⟨0,.cells (yb h)⟩/\s.tm 4=.int .i64 i/\s.tk u=true /\
  s.tm 3=.sl (some (u,1)) false (yu XU h.ts i).length ((yu XU h.ts i).flatMap yf))
  ⟨0,128,by simp[yu,yb]⟩ ?_
 rintro k s ⟨i,u,rfl,r,l,b,c,g,j,e,m,o⟩;by_cases a:i<h.ts.length;simp[g,j,e,ya,yb,a,j4 j7,jO j7,jf];have q:=Jj XU h.ts i;cases p:h.ts[i].f==3;simp[e];refine⟨h.ts.length-(i+1),zO,i+1,⟨rfl,zO,l,b,c,g,by simpa[yb] using j,by rw[jg zO zO];simp,u,m,?_⟩⟩;rw[o,Jm a,XU,p];simp;simp[o,e];refine jF (cs:=[.int .i64 i]) (by simp[j2]) rfl rfl ?_;simp;refine Jl (u:=u) (nl:=false) (n:=(yu XU h.ts i).length) (cs:=(yu XU h.ts i).flatMap yf) (ys:=[.int .i64 i]) zS (by simp[jb,m]) (by simp[yp]) zS (by rw[j1 j6]) zQ rfl zP zP ?_;simp[e,l,b,c,g,j,yb];refine⟨h.ts.length-(i+1),zO,i+1,rfl,zO,by rw[jg zO zO];simp,Or.inl ?_⟩;rw[Jm a,XU,p];simp[yf];have:i=h.ts.length:=zO;subst this;simp[g,j,e,ya,yb];exact Qz (u:=u) (zU l) (by simp[o,Y3]) (zU m)
def Q4 (r:Int):Bool:=decide (48<=r)&&decide (r<=57)
def ev200 (r:Int):Ev E 200 [.int .i32 r] (.bool (Q4 r)):=by
 refine jS rfl ?_;unfold Q4;by_cases h:48<=r
 ·conv in(occs:=*)F200=>all_goals cbv
  simp[h];exact j3 rfl zS rfl
 ·conv in(occs:=*)F200=>all_goals cbv
  simp[h];exact j3 rfl zS rfl
def ev321 (r:Int):Ev E 321 [.int .i32 r] (.bool false):=by
 refine jS rfl ?_;conv in(occs:=*)F321=>all_goals cbv
 simp;exact j3 rfl zS rfl
def j1b (a b:Int):Int:=if a<b then -1 else if b<a then 1 else 0
def ev314 (a b:Int):Ev E 314 [.int .i32 a,.int .i32 b] (.int .i64 (j1b a b)):=by
 refine jS rfl ?_;conv in(occs:=*)F314=>all_goals cbv
 simp;refine Y8 (vs:=[.int .i32 a]) zS rfl rfl (ev321 a) ?_;simp;refine Y8 (vs:=[.int .i32 b]) zS rfl rfl (ev321 b) ?_;unfold j1b;by_cases h:a<b;simp[h];exact j3 rfl zS rfl;by_cases c:b<a;simp[h,c];exact j3 rfl zS rfl;simp[h,c];exact j3 rfl zS rfl
def jds (r:Int):List V:=[.int .i32 r]
@[simp] theorem jf1 (n:Int):(jds n).length=1:=rfl
def jnv:List Int->List Int->Int
 |[],[]=>0
 |[],_::_=>-1
 |_::_,[]=>1
 |a::x,b::y=>if j1b a b=0 then jnv x y else j1b a b
def jou (l:List Int) {i:Nat}(h:i<l.length):(l.flatMap jds)[i]? = some (.int .i32 l[i]):=by have:=jO (f:=jds) jf1 l h (by decide:0<1);rw[bz,bl]at this;rw[this];rfl
def ev290 (nx q:Bool) (x y:List Int) (u:x.length<=140737488355328):Ev E 290 [yl nx jds x,yl q jds y] (.int .i64 (jnv x y)):=by
 refine jS rfl ?_;conv in(occs:=*)F290=>all_goals cbv
 simp;refine Yo (n:=x.length) (λk s=>∃i,k=x.length-i/\i<=x.length/\i<=y.length/\s.df=[]/\s.tm 0=yl nx jds x/\s.tm 1=yl q jds y/\s.tm 9=yl nx jds x/\s.tm 10=.int .i64 x.length/\s.tm 11=.int .i64 i/\jnv (x.drop i) (y.drop i)=jnv x y)
  ⟨0,zS⟩ ?_
 rintro k s ⟨i,rfl,t,r,h,m,j,o,d,f,b⟩;by_cases c:i<x.length;rw[aP c]at b;by_cases a:i<y.length;rw[aP a,jnv]at b;have g:¬(y.length:Int)<=i:=zO;simp[j,o,d,f,c,g,a,j4 jf1,jou x c,jou y a];refine Y8 (vs:=[.int .i32 x[i],.int .i32 y[i]]) zS rfl rfl (ev314 x[i] y[i]) ?_;by_cases l:j1b x[i] y[i]=0;rw[zb l]at b;simp[l,m,j,o,d,f,h];exact⟨x.length-(i+1),zO,i+1,rfl,zO,zO,by rw[jg zO zO];simp,b⟩;rw[za l]at b;have p:(j1b x[i] y[i] != 0)=true:=by simpa using l
 simp[p];exact j3 (zU h) (by simp[b]) rfl;have g:(y.length:Int)<=i:=zO;have e:y.drop i=[]:=bC zO;rw[e,jnv]at b;simp[j,o,d,f,c,g,j4 jf1,jou x c];exact j3 (zU h) (by simp[b]) rfl;have:i=x.length:=zO;subst this;rw[dl]at b;by_cases a:x.length<y.length;rw[aP a,jnv]at b;simp[m,j,d,f,a];exact j3 (zU h) (by simp[b]) rfl;have e:y.drop x.length=[]:=bC zO;rw[e,jnv]at b;simp[m,j,d,f,a];exact j3 (zU h) (by simp[b]) rfl
def Ja (s:List UInt8):List Int:=(Xi s s.length 0).map λr=>((r:Nat):Int)
def jsb {E:Env}{Yf:YF}{st:St}{ub:Nat}{K:St->Nat->Prop}{d:Option Nat}{nm:Bool}{x:A}{s:List UInt8}(f:ye E st.tm x=.str s) (c:(Ja s).length<=70368744177664)
 (h:QN K st d ub { v:=.sl (some (ub,1)) false (Ja s).length ((Ja s).flatMap jds),add:=[ub] }):j8 E Yf ⟨d,.runesOfStr x,none,nm⟩ st ub K:=by
 have e:(Xi s s.length 0).map (λr=>V.int .i32 (r:Nat))=(Ja s).flatMap jds:=by
  rw[Ja,List.flatMap_map];generalize Xi s s.length 0=l;induction l with
  |nil=>rfl
  |cons r l b=>simp only[aZ,bk,b,jds];rfl
 have a:(Ja s).length=(Xi s s.length 0).length:=by simp[Ja]
 rw[jT _ rfl rfl];simp only[yU,f];rw[<- a,zb c,jG,e];exact h
def ev253 (a b:List UInt8) (c:(Ja a).length<=1000000) (d:(Ja b).length<=1000000):Ev E 253 [.str a,.str b] (.int .i64 (jnv (Ja a) (Ja b))):=by
 refine jS rfl ?_;conv in(occs:=*)F253=>all_goals cbv
 simp;refine jsb (s:=a) zS zO ?_;simp;refine jsb (s:=b) zS zO ?_;simp;refine Y8 (vs:=[.sl (some (128,1)) false (Ja a).length ((Ja a).flatMap jds),.sl (some (256,1)) false (Ja b).length ((Ja b).flatMap jds)]) zS rfl rfl (ev290 false false _ _ zO) ?_;simp;exact j3 rfl zS rfl
def ev206 (a b:List UInt8) (c:(Ja a).length<=1000000) (d:(Ja b).length<=1000000):Ev E 206 [.str a,.str b] (.bool (decide (jnv (Ja a) (Ja b)<0))):=by
 refine jS rfl ?_;conv in(occs:=*)F206=>all_goals cbv
 simp;refine Y8 (vs:=[.str a,.str b]) zS rfl rfl (ev253 a b c d) ?_;simp;exact j3 rfl zS rfl
def j75 (s:List UInt8):Bool:=s==[98,101,103,105,110]||s==[114,101,97,100]||s==[119,114,105,116,101]||s==[111,107]||s==[102,97,105,108]||s==[105,110,102,111]||s==[110,105,108]
def ev197 (s:List UInt8):Ev E 197 [.str s] (.bool (j75 s)):=by
 refine jS rfl ?_;unfold j75;generalize a:(s==[98,101,103,105,110])=b1;generalize b:(s==[114,101,97,100])=b2;generalize c:(s==[119,114,105,116,101])=b3;generalize d:(s==[111,107])=b4;generalize e:(s==[102,97,105,108])=b5;generalize f:(s==[105,110,102,111])=b6;generalize g:(s==[110,105,108])=b7;cases b1
 ·cases b2
  ·cases b3
   ·cases b4
    ·cases b5
     ·cases b6
      ·cases b7;all_goals (simp[F197,a,b,c,d,e,f,g];exact j3 rfl zS rfl)
      simp[F197,a,b,c,d,e,f];exact j3 rfl zS rfl
     simp[F197,a,b,c,d,e];exact j3 rfl zS rfl
    simp[F197,a,b,c,d];exact j3 rfl zS rfl
   simp[F197,a,b,c];exact j3 rfl zS rfl
  simp[F197,a,b];exact j3 rfl zS rfl
 simp[F197,a];exact j3 rfl zS rfl
def ev189 (s:List UInt8):Ev E 189 [.str s] (.bool (j75 s)):=by
 refine jS rfl ?_;unfold j75;generalize a:(s==[98,101,103,105,110])=b1;generalize b:(s==[114,101,97,100])=b2;generalize c:(s==[119,114,105,116,101])=b3;generalize d:(s==[111,107])=b4;generalize e:(s==[102,97,105,108])=b5;generalize f:(s==[105,110,102,111])=b6;generalize g:(s==[110,105,108])=b7;cases b1
 ·cases b2
  ·cases b3
   ·cases b4
    ·cases b5
     ·cases b6
      ·cases b7;all_goals (simp[F189,a,b,c,d,e,f,g];exact j3 rfl zS rfl)
      simp[F189,a,b,c,d,e,f];exact j3 rfl zS rfl
     simp[F189,a,b,c,d,e];exact j3 rfl zS rfl
    simp[F189,a,b,c,d];exact j3 rfl zS rfl
   simp[F189,a,b,c];exact j3 rfl zS rfl
  simp[F189,a,b];exact j3 rfl zS rfl
 simp[F189,a];exact j3 rfl zS rfl
def jdu (r:Int):Bool:=decide (127<r)||(r==95)||Q4 r||(decide (97<=r)&&decide (r<=122))||(decide (65<=r)&&decide (r<=90))
def ev199 (r:Int):Ev E 199 [.int .i32 r] (.bool (jdu r)):=by
 refine jS rfl ?_;unfold jdu;by_cases c:127<r
 ·conv in(occs:=*)F199=>all_goals cbv
  simp[c];exact j3 rfl zS rfl
 cases d:(r==95)
 ·conv in(occs:=*)F199=>all_goals cbv
  simp[c,d];refine Y8 (vs:=[.int .i32 r]) zS rfl rfl (ev200 r) ?_;cases g:Q4 r;by_cases b:97<=r;by_cases e:r<=122;simp[b,e];exact j3 rfl zS rfl;have a:65<=r:=zO;have f:¬r<=90:=zO;simp[b,e,a,f];exact j3 rfl zS rfl;by_cases a:65<=r;simp[b,a];exact j3 rfl zS rfl;simp[b,a];exact j3 rfl zS rfl;simp;exact j3 rfl zS rfl
 ·conv in(occs:=*)F199=>all_goals cbv
  simp[c,d];exact j3 rfl zS rfl
def jW (n b0 b1 b2 b3:Nat):Nat×Nat :=
 if b0<128 then (1,b0)
 else if 194<=b0/\b0<=223 then (if n<2\/b1<128\/191<b1 then (1,65533) else (2,64*(b0-192)+b1-128))
 else if 224<=b0/\b0<=239 then (if n<3\/b1<128\/191<b1\/b2<128\/191<b2 then (1,65533) else
  if 64*(64*(b0-224)+b1-128)+b2-128<2048\/55296<=64*(64*(b0-224)+b1-128)+b2-128/\64*(64*(b0-224)+b1-128)+b2-128<=57343 then (1,65533) else (3,64*(64*(b0-224)+b1-128)+b2-128))
 else if 240<=b0/\b0<=244 then (if n<4\/b1<128\/191<b1\/b2<128\/191<b2\/b3<128\/191<b3 then (1,65533) else
  if 64*(64*(64*(b0-240)+b1-128)+b2-128)+b3-128<65536\/1114111<64*(64*(64*(b0-240)+b1-128)+b2-128)+b3-128 then (1,65533) else (4,64*(64*(64*(b0-240)+b1-128)+b2-128)+b3-128))
 else (1,65533)
def jxe (n a b1 b2 b3:Nat) (_:1<=n) (d:a<256) (c:b1<256) (b:b2<256) (e:b3<256):jW n a b1 b2 b3=((Lib.decodeN n a b1 b2 b3).2,(Lib.decodeN n a b1 b2 b3).1):=by
 unfold jW Lib.decodeN;repeat' split
 all_goals first|(exfalso;omega)|(apply Prod.ext<;>simp only<;>omega)
def dlt_t {a b:Int}(h:a<b):decide (a<b)=true:=zi h
def jvj {a b:Int}(h:b<=a):decide (a<b)=false:=decide_eq_false zO
def jvk {a b:Int}(h:a<=b):decide (a<=b)=true:=zi h
def jhu {a b:Int}(h:b<a):decide (a<=b)=false:=decide_eq_false zO
def YX {s:List UInt8}{i:Nat}{x:Int}(kk:IntKind) (h:i<s.length) (a:x=(i:Int)):Qv (.str s) (.int kk x)=some (.int .u8 ((s.getD i 0).toNat:Nat)):=by subst a;simp[Qv,aa h,List.getD]
def ev243 (s:List UInt8) (S:s.length<=1000000) (p:Nat) (h:p<s.length):Ev E 243 [.str s,.int .i64 p]
 (.tup [.int .i64 ((jW (s.length-p) (s.getD p 0).toNat (s.getD (p+1) 0).toNat (s.getD (p+2) 0).toNat (s.getD (p+3) 0).toNat).1:Nat),
  .int .i64 ((jW (s.length-p) (s.getD p 0).toNat (s.getD (p+1) 0).toNat (s.getD (p+2) 0).toNat (s.getD (p+3) 0).toNat).2:Nat)]):=by
 have K:=YX (s:=s) (x:=(p:Int)) .i64 h rfl;have b:p+1<s.length->_:=λh=>YX (s:=s) (x:=(p:Int)+1) .i64 h zS;have e:p+2<s.length->_:=λh=>YX (s:=s) (x:=(p:Int)+2) .i64 h zS;have n:p+3<s.length->_:=λh=>YX (s:=s) (x:=(p:Int)+3) .i64 h zS;have O:=(s.getD p 0).toNat_lt;have T:=(s.getD (p+1) 0).toNat_lt;have U:=(s.getD (p+2) 0).toNat_lt;have N:=(s.getD (p+3) 0).toNat_lt;generalize (s.getD p 0).toNat=d at *;generalize (s.getD (p+1) 0).toNat=i at *;generalize (s.getD (p+2) 0).toNat=k at *;generalize (s.getD (p+3) 0).toNat=r at *;have L:IntKind.i64.wrap (d:Int)=d:=jg zO zO;have P:IntKind.i64.wrap (i:Int)=i:=jg zO zO;have X:IntKind.i64.wrap (k:Int)=k:=jg zO zO;have Q:IntKind.i64.wrap (r:Int)=r:=jg zO zO;refine jS rfl ?_;conv in(occs:=*)F243=>all_goals cbv
 simp[K,Xz,L];by_cases a1:(d:Int)<128;simp[a1];exact Jw rfl (by simp[jW,show d<128 by omega]) (by simp[jW,show d<128 by omega]) rfl rfl;have a:∀x:Int,-1000000000<=x->x<=1000000000->IntKind.i64.wrap x=x:=λx h M=>jg zO zO;by_cases I:194<=(d:Int)/\(d:Int)<=223
 ·obtain⟨D,v⟩:=I;by_cases m:(s.length:Int)<(p:Int)+2
  ·simp(disch:=omega) [a1,D,v,m,a,jhu,aE]
   exact Jw     rfl (by simp;unfold jW    ;repeat' split
                        all_goals omega) (by simp;unfold jW    ;repeat' split
                                             all_goals omega) rfl rfl
  have b:=b zO;simp(disch:=omega) [a1,D,v,m,a,jhu,aE];refine jb5 2 ?_;by_cases c:(i:Int)<128
  ·simp(disch:=omega) [b,c,a,Xz,aE]
   exact Jw     rfl (by simp;unfold jW    ;repeat' split
                        all_goals omega) (by simp;unfold jW    ;repeat' split
                                             all_goals omega) rfl rfl
  by_cases u:191<(i:Int)
  ·simp(disch:=omega) [b,c,u,a,Xz,aE]
   exact Jw     rfl (by simp;unfold jW    ;repeat' split
                        all_goals omega) (by simp;unfold jW    ;repeat' split
                                             all_goals omega) rfl rfl
  simp(disch:=omega) [b,c,u,a,Xz,aE,jvj,jhu]
  exact Jw     rfl (by simp;unfold jW    ;repeat' split
                       all_goals omega) (by simp;unfold jW    ;repeat' split
                                            all_goals omega) rfl rfl
 by_cases H:224<=(d:Int)/\(d:Int)<=239
 ·obtain⟨t,z⟩:=H;by_cases m:(s.length:Int)<(p:Int)+3
  ·simp(disch:=omega) [a1,t,z,m,a,jvk,jhu,aE]
   exact Jw     rfl (by simp;unfold jW    ;repeat' split
                        all_goals omega) (by simp;unfold jW    ;repeat' split
                                             all_goals omega) rfl rfl
  have b:=b zO;have e:=e zO;simp(disch:=omega) [a1,t,z,m,a,jvk,jhu,aE];refine jb5 3 ?_;by_cases c:(i:Int)<128
  ·simp(disch:=omega) [b,c,a,Xz,aE]
   exact Jw     rfl (by simp;unfold jW    ;repeat' split
                        all_goals omega) (by simp;unfold jW    ;repeat' split
                                             all_goals omega) rfl rfl
  by_cases f:191<(i:Int)
  ·simp(disch:=omega) [b,c,f,a,Xz,aE]
   exact Jw     rfl (by simp;unfold jW    ;repeat' split
                        all_goals omega) (by simp;unfold jW    ;repeat' split
                                             all_goals omega) rfl rfl
  by_cases g:(k:Int)<128
  ·simp(disch:=omega) [b,e,c,f,g,a,Xz,aE]
   exact Jw     rfl (by simp;unfold jW    ;repeat' split
                        all_goals omega) (by simp;unfold jW    ;repeat' split
                                             all_goals omega) rfl rfl
  by_cases j:191<(k:Int)
  ·simp(disch:=omega) [b,e,c,f,g,j,a,Xz,aE]
   exact Jw     rfl (by simp;unfold jW    ;repeat' split
                        all_goals omega) (by simp;unfold jW    ;repeat' split
                                             all_goals omega) rfl rfl
  by_cases l:64*(64*((d:Int)-224)+i-128)+k-128<2048
  ·simp(disch:=omega) [b,e,c,f,g,j,l,a,Xz,aE]
   exact Jw     rfl (by simp;unfold jW    ;repeat' split
                        all_goals omega) (by simp;unfold jW    ;repeat' split
                                             all_goals omega) rfl rfl
  by_cases o:55296<=64*(64*((d:Int)-224)+i-128)+k-128
  ·by_cases G:64*(64*((d:Int)-224)+i-128)+k-128<=57343
   ·simp(disch:=omega) [b,e,c,f,g,j,l,o,G,a,jvj,Xz,aE]
    exact Jw     rfl (by simp;unfold jW    ;repeat' split
                         all_goals omega) (by simp;unfold jW    ;repeat' split
                                              all_goals omega) rfl rfl
   simp(disch:=omega) [b,e,c,f,g,j,l,o,G,a,jvj,Xz,aE]
   exact Jw     rfl (by simp;unfold jW    ;repeat' split
                        all_goals omega) (by simp;unfold jW    ;repeat' split
                                             all_goals omega) rfl rfl
  simp(disch:=omega) [b,e,c,f,g,j,l,o,a,jvj,Xz,aE]
  exact Jw     rfl (by simp;unfold jW    ;repeat' split
                       all_goals omega) (by simp;unfold jW    ;repeat' split
                                            all_goals omega) rfl rfl
 by_cases J:240<=(d:Int)/\(d:Int)<=244
 ·obtain⟨y,w⟩:=J;by_cases m:(s.length:Int)<(p:Int)+4
  ·simp(disch:=omega) [a1,y,w,m,a,jvk,jhu,aE]
   exact Jw     rfl (by simp;unfold jW    ;repeat' split
                        all_goals omega) (by simp;unfold jW    ;repeat' split
                                             all_goals omega) rfl rfl
  have b:=b zO;have e:=e zO;have n:=n zO;simp(disch:=omega) [a1,y,w,m,a,jvk,jhu,aE];refine jb5 4 ?_;by_cases c:(i:Int)<128
  ·simp(disch:=omega) [b,c,a,Xz,aE]
   exact Jw     rfl (by simp;unfold jW    ;repeat' split
                        all_goals omega) (by simp;unfold jW    ;repeat' split
                                             all_goals omega) rfl rfl
  by_cases f:191<(i:Int)
  ·simp(disch:=omega) [b,c,f,a,Xz,aE]
   exact Jw     rfl (by simp;unfold jW    ;repeat' split
                        all_goals omega) (by simp;unfold jW    ;repeat' split
                                             all_goals omega) rfl rfl
  by_cases g:(k:Int)<128
  ·simp(disch:=omega) [b,e,c,f,g,a,Xz,aE]
   exact Jw     rfl (by simp;unfold jW    ;repeat' split
                        all_goals omega) (by simp;unfold jW    ;repeat' split
                                             all_goals omega) rfl rfl
  by_cases j:191<(k:Int)
  ·simp(disch:=omega) [b,e,c,f,g,j,a,Xz,aE]
   exact Jw     rfl (by simp;unfold jW    ;repeat' split
                        all_goals omega) (by simp;unfold jW    ;repeat' split
                                             all_goals omega) rfl rfl
  by_cases B:(r:Int)<128
  ·simp(disch:=omega) [b,e,n,c,f,g,j,B,a,Xz,aE]
   exact Jw     rfl (by simp;unfold jW    ;repeat' split
                        all_goals omega) (by simp;unfold jW    ;repeat' split
                                             all_goals omega) rfl rfl
  by_cases F:191<(r:Int)
  ·simp(disch:=omega) [b,e,n,c,f,g,j,B,F,a,Xz,aE]
   exact Jw     rfl (by simp;unfold jW    ;repeat' split
                        all_goals omega) (by simp;unfold jW    ;repeat' split
                                             all_goals omega) rfl rfl
  by_cases l:64*(64*(64*((d:Int)-240)+i-128)+k-128)+r-128<65536
  ·simp(disch:=omega) [b,e,n,c,f,g,j,B,F,l,a,Xz,aE]
   exact Jw     rfl (by simp;unfold jW    ;repeat' split
                        all_goals omega) (by simp;unfold jW    ;repeat' split
                                             all_goals omega) rfl rfl
  by_cases o:1114111<64*(64*(64*((d:Int)-240)+i-128)+k-128)+r-128
  ·simp(disch:=omega) [b,e,n,c,f,g,j,B,F,l,o,a,Xz,aE]
   exact Jw     rfl (by simp;unfold jW    ;repeat' split
                        all_goals omega) (by simp;unfold jW    ;repeat' split
                                             all_goals omega) rfl rfl
  simp(disch:=omega) [b,e,n,c,f,g,j,B,F,l,o,a,jvk,jhu,Xz,aE]
  exact Jw     rfl (by simp;unfold jW    ;repeat' split
                       all_goals omega) (by simp;unfold jW    ;repeat' split
                                            all_goals omega) rfl rfl
 have q:d<194\/244<d:=zO;rcases q with q|q
 ·simp(disch:=omega) [a1,jhu]
  exact Jw     rfl (by simp;unfold jW    ;repeat' split
                       all_goals omega) (by simp;unfold jW    ;repeat' split
                                            all_goals omega) rfl rfl
 ·simp(disch:=omega) [a1,jvk,jhu]
  exact Jw     rfl (by simp;unfold jW    ;repeat' split
                       all_goals omega) (by simp;unfold jW    ;repeat' split
                                            all_goals omega) rfl rfl
@[simp] theorem str_strip (s:List UInt8):(V.str s).strip=.str s:=rfl
@[simp] theorem j7j (s:List UInt8):(V.str s).pureTop=true:=rfl
@[simp] theorem j5u (s:List UInt8):(V.str s).pureLeaf=true:=rfl
@[simp] theorem sl_strip (t:Option (Nat×Nat)) (nl:Bool) (n:Nat) (cs:List V):(V.sl t nl n cs).strip=.sl none nl n cs:=rfl
@[simp] theorem sl_strip1 (t:Option (Nat×Nat)) (nl:Bool) (n:Nat) (cs:List V):(V.sl t nl n cs).strip1=.sl none nl n cs:=rfl
@[simp] theorem sl_pureTop (nl:Bool) (n:Nat) (cs:List V):(V.sl none nl n cs).pureTop=true:=rfl
@[simp] theorem j7n (nl:Bool) (n:Nat) (cs:List V):(V.sl none nl n cs).pureLeaf=true:=rfl
def rU (s:List UInt8) (p:Nat):Nat:=(Utf8.decode ⟨s.toArray⟩ p).1
def rW (s:List UInt8) (p:Nat):Nat:=(Utf8.decode ⟨s.toArray⟩ p).2
def jx2 {s:List UInt8}{p:Nat}(h:p<s.length):jW (s.length-p) (s.getD p 0).toNat (s.getD (p+1) 0).toNat (s.getD (p+2) 0).toNat (s.getD (p+3) 0).toNat=(rW s p,rU s p):=by rw[jxe _ _ _ _ _ zO (s.getD p 0).toNat_lt (s.getD (p+1) 0).toNat_lt (s.getD (p+2) 0).toNat_lt (s.getD (p+3) 0).toNat_lt];unfold rW rU;rw[Lib.decode_N]
def one_w (n a b1 b2 b3:Nat) (b:1<=n):1<=(jW n a b1 b2 b3).1/\(jW n a b1 b2 b3).1<=n:=by
 unfold jW;repeat' split
 all_goals (simp only;omega)
def j8e (n a b1 b2 b3:Nat) (b:b1<256) (_:b2<256) (h:(jW n a b1 b2 b3).2=65533):(jW n a b1 b2 b3).1=1\/(jW n a b1 b2 b3).1=3:=by
 revert h;unfold jW;repeat' split
 all_goals (intro h;simp at h ⊢;try omega)
def jl9 {s:List UInt8}{p:Nat}(h:p<s.length):1<=rW s p/\p+rW s p<=s.length:=by have:=one_w (s.length-p) (s.getD p 0).toNat (s.getD (p+1) 0).toNat (s.getD (p+2) 0).toNat (s.getD (p+3) 0).toNat zO;rw[jx2 h]at this;simp only at this;omega
def rU_bad {s:List UInt8}{p:Nat}(h:p<s.length) (a:rU s p=65533):rW s p=1\/rW s p=3:=by have:=j8e (s.length-p) (s.getD p 0).toNat (s.getD (p+1) 0).toNat (s.getD (p+2) 0).toNat (s.getD (p+3) 0).toNat (s.getD (p+1) 0).toNat_lt (s.getD (p+2) 0).toNat_lt;rw[jx2 h]at this;exact this a
def RN (s:List UInt8) (p:Nat):List Int:=(Xi s (s.length-p) p).map λr=>((r:Nat):Int)
def jf0 (s:List UInt8):Ja s=RN s 0:=rfl
def jfz (s:List UInt8):∀(b c p:Nat),s.length<=p+b->s.length<=p+c->Xi s b p=Xi s c p
 |0,0,_,_,_=>rfl
 |0,c+1,p,h,_=>by unfold Xi;rw[za zO]
 |b+1,0,p,_,h=>by unfold Xi;rw[za zO]
 |b+1,c+1,p,h,h'=>by unfold Xi;by_cases a:p<s.length;rw[zb a,zb a];have:=(jl9 a).1;unfold rW at this;rw[jfz s b c _ zO zO];rw[za a,za a]
def j04 {s:List UInt8}{p:Nat}(h:p<s.length):RN s p=(rU s p:Int)::RN s (p+rW s p):=by
 have a:=jl9 h;unfold RN;obtain⟨n,b⟩:∃n,s.length-p=n+1:=⟨s.length-p-1,zO⟩;rw[b];conv=>lhs;unfold Xi
 rw[zb h,aZ];congr 2;exact jfz s _ _ _ (by unfold rW at a;omega) (by unfold rW at a ⊢;omega)
def j6v {s:List UInt8}{p:Nat}(h:s.length<=p):RN s p=[]:=by unfold RN;rw[show s.length-p=0 by omega];rfl
def jh8 (s:List UInt8):∀(b p:Nat),(Xi s b p).length<=b
 |0,_=>dH _
 |b+1,p=>by unfold Xi;split;have:=jh8 s b (p+(Utf8.decode ⟨s.toArray⟩ p).2);simp only[bj];omega;simp
def Yu (s:List UInt8):(Ja s).length<=s.length:=by rw[jf0,RN,bu];exact jh8 s _ _
def VD (s:List UInt8) (p:Nat):Bool:=Lib.validD (s.drop p)
def j5a (s:List UInt8) (p:Nat):Lib.decodeL (s.drop p)=(rU s p,rW s p):=Lib.decodeL_drop ⟨s.toArray⟩ p
def VD_step {s:List UInt8}{p:Nat}(h:p<s.length):VD s p=if rU s p=65533/\rW s p=1 then false else VD s (p+rW s p):=by
 have a:s.drop p≠[]:=λe=>by have:=zg List.length e;rw[bc]at this;simp at this;omega
 unfold VD;rw[Lib.validD_step _ a,j5a];simp only[dQ]
def VD_end {s:List UInt8}{p:Nat}(h:s.length<=p):VD s p=true:=by unfold VD;rw[bC h];rfl
def j6m (s:List UInt8) (a:s.length<=1000000) (p:Nat) (h:p<s.length):Ev E 243 [.str s,.int .i64 p] (.tup [.int .i64 (rW s p:Nat),.int .i64 (rU s p:Nat)]):=by have:=ev243 s a p h;rw[jx2 h]at this;exact this
def ev188 (s:List UInt8) (m:s.length<=1000000):Ev E 188 [.str s] (.sl (some (0,1)) false (Ja s).length ((Ja s).flatMap yf)):=by
 refine jS rfl ?_;conv in(occs:=*)F188=>all_goals cbv
 simp;refine jF (cs:=[]) rfl rfl rfl ?_;simp;refine YH (n:=s.length) [(3,24)] (λk e=>∃p u a,k=s.length-p/\p<=s.length/\e.tm 4=.int .i64 (p:Nat)/\Ja s=a++RN s p/\e.tm 3=.sl (some (u,1)) false a.length (a.flatMap yf)/\e.tk u=true) rfl rfl
  ⟨0,64,[],by simp[jf0]⟩ ?_
 rintro k e ⟨p,u,a,rfl,r,g,b,i,h⟩ f;have j:e.tm 0=.str s:=by rw[f.t 0 zS];simp
 have l:a.length<=1000000:=by have o:=zg List.length b;have v:=Yu s;rw[ap]at o;omega
 by_cases c:p<s.length;have q:=jl9 c;simp[g,j,c];refine jH (j6m s m p c) zS rfl rfl ?_;simp[i];refine jF (cs:=[.int .i64 (rU s p)]) (by simp[j2]) rfl rfl ?_;simp;refine Jl (u:=u) (nl:=false) (n:=a.length) (cs:=a.flatMap yf) (ys:=[.int .i64 (rU s p)]) zS (by simp[jb,h]) (by simp[yp]) zS (by rw[j1 j6]) zQ rfl zP zP ?_;simp[g];refine⟨s.length-(p+rW s p),zO,p+rW s p,zO,zO,by rw[jg zO zO];simp,_,a++[(rU s p:Int)],?_,?_,Or.inl rfl⟩;rw[b,j04 c];simp;simp[yf];have:p=s.length:=zO;subst this;simp[g,j];rw[j6v zK,aL]at b;exact Qz (u:=u) (by simp[f.d]) (by simp[i,b]) (zU h)
def ev190 (s:List UInt8) (j:s.length<=1000000):Ev E 190 [.str s] (.bool (Lib.validD s)):=by
 refine jS rfl ?_;conv in(occs:=*)F190=>all_goals cbv
 simp;refine YH (n:=s.length) [(2,24)] (λk h=>∃p,k=s.length-p/\p<=s.length/\h.tm 3=.int .i64 (p:Nat)/\Lib.validD s=VD s p) rfl rfl
  ⟨0,by simp[VD]⟩ ?_
 rintro k h ⟨p,rfl,m,c,b⟩ f;have i:h.tm 0=.str s:=by rw[f.t 0 zS];simp
 by_cases a:p<s.length;have l:=jl9 a;rw[VD_step a]at b;simp[c,i,a];refine jH (j6m s j p a) zS rfl rfl ?_;by_cases e:rU s p=65533;rcases rU_bad a e with h1|h1;rw[zb ⟨e,h1⟩]at b;simp[e,h1];exact j3 (by simp[f.d]) (by simp[b]) rfl;rw[za zO]at b;simp[e,h1,c];exact⟨s.length-(p+3),zO,p+3,rfl,zO,by rw[jg zO zO];simp,by rw[b,h1]⟩;rw[za zO]at b;have g:((rU s p:Int)==65533)=false:=by rw[zk];omega
 simp[g,c];exact⟨s.length-(p+rW s p),zO,p+rW s p,rfl,zO,by rw[jg zO zO];simp,b⟩;have:p=s.length:=zO;subst this;rw[VD_end zK]at b;simp[c,i];exact j3 (by simp[f.d]) (by simp[b]) rfl
def JC {b:Type}{f:b->List V}{k:Nat}(c:∀a,(f a).length=k) (t:Option (Nat×Nat)) (nl:Bool) (l:List b) (kk:IntKind) {i:Nat}(h:i<l.length):jt k (.sl t nl l.length (l.flatMap f)) (.int kk i)=some (.eptr (l.flatMap f) (i*k)):=by simp only[J1,j1 c];rw[zb zP];rfl
def jpx {b:Type}{f:b->List V}{k:Nat}(c:∀a,(f a).length=k) (t:Option (Nat×Nat)) (nl:Bool) (l:List b) (kk:IntKind) (h:0<l.length):jt k (.sl t nl l.length (l.flatMap f)) (.int kk 0)=some (.eptr (l.flatMap f) 0):=by have:=JC c t nl l kk h;simpa using this
def jj (l:List Int) {i:Nat}(h:i<l.length):(l.flatMap yf)[i]? = some (.int .i64 l[i]):=by have:=jO (f:=yf) j6 l h (by decide:0<1);rw[bz,bl]at this;rw[this];rfl
def jh1 (l:List (List UInt8)) {i:Nat}(h:i<l.length):(l.flatMap X1)[i]? = some (.str l[i]):=by have:=jO (f:=X1) Yp l h (by decide:0<1);rw[bz,bl]at this;rw[this];rfl
def jP {i N:Nat}(h:i<N) (a:N<=1000000000):IntKind.i64.wrap ((i:Int)+1)=(i:Int)+1:=jg zO zO
def dne_t {a b:Int}(h:a<b\/b<a):(a != b)=true:=by simp;omega
def dne_f {a b:Int}(h:a=b):(a != b)=false:=by simp[h]
def jgz:List Int->Bool
 |[]=>false
 |c::_=>Q4 c
def nmOk (l:List Int):Bool:=decide (1<=l.length)&&decide (l.length<=20) && !(jgz l)&&l.all jdu
def jkh (s:List UInt8):Bool:=!j75 s&&Lib.validD s&&nmOk (Ja s)
def jkm (a b:List UInt8):Bool:=decide (jnv (Ja a) (Ja b)<0)
def jum (t:List (List UInt8)) (j:Nat):Bool:=jkh (t.getD j [])&&(j==0||jkm (t.getD (j-1) []) (t.getD j []))
def j07 (t:List (List UInt8)):Bool:=(List.range t.length).all (jum t)
def jz5 {l:List Int}(h:0<l.length):jgz l=Q4 l[0]:=by
 cases l with
 |nil=>simp at h
 |cons a l=>rfl
def all_at {b:Type}{p:b->Bool}{l:List b}(h:∀j (a:j<l.length),p l[j]=true):l.all p=true:=by rw[aw];intro x c;obtain⟨j,a,rfl⟩:=bq c;exact h j a
def jqk {a:Type}{p:a->Bool}{l:List a}{j:Nat}(b:j<l.length) (h:p l[j]=false):l.all p=false:=by rw[eP];exact⟨_,au b,by rw[h];decide⟩
def juc (c:Int):(jdu c=false/\(c<48\/(57<c/\c<65)\/(90<c/\c<95)\/c=96\/(122<c/\c<128)))\/(jdu c=true/\((48<=c/\c<=57)\/(65<=c/\c<=90)\/c=95\/(97<=c/\c<=122)\/127<c)):=by simp[jdu,Q4];omega
def L126:C:=.seq (.seq (.region [
 ⟨(some 37),.mov (.t 4),none,false⟩,
 ⟨(some 38),.mov (.t 3),none,false⟩,
 ⟨(some 39),.lenSl (.t 38),none,false⟩,
 ⟨(some 40),.bin .lss (.t 37) (.t 39),none,false⟩])
 (.cond (.t 40) (.skip)
  (.exit 0)))
 (.seq (.block 1 (.seq (.region [
  ⟨(some 43),.mov (.t 3),none,false⟩,
  ⟨(some 44),.mov (.t 4),none,false⟩,
  ⟨(some 45),.idxSl 1 (.t 43) (.t 44),none,false⟩,
  ⟨(some 46),.load none (.t 45),none,false⟩,
  ⟨(some 5),.mov (.t 46),none,false⟩])
  (.seq (.region [
   ⟨(some 47),.mov (.t 5),none,false⟩,
   ⟨(some 48),.bin .lss (.t 47) (.c (.int .i64 128)),none,false⟩,
   ⟨(some 49),.mov (.t 48),none,false⟩,
   ⟨(some 50),.mov (.t 5),(some (49,true)),false⟩,
   ⟨(some 51),.bin .neq (.t 50) (.c (.int .i64 95)),(some (49,true)),false⟩,
   ⟨(some 52),.pick (.t 49) (.t 51) (.c (.bool false)),none,false⟩,
   ⟨(some 53),.mov (.t 52),none,false⟩,
   ⟨(some 54),.mov (.t 5),(some (53,true)),false⟩,
   ⟨(some 55),.bin .lss (.t 54) (.c (.int .i64 48)),(some (53,true)),false⟩,
   ⟨(some 56),.mov (.t 55),(some (53,true)),false⟩,
   ⟨(some 57),.mov (.t 5),(some (56,false)),false⟩,
   ⟨(some 58),.bin .gtr (.t 57) (.c (.int .i64 57)),(some (56,false)),false⟩,
   ⟨(some 59),.pick (.t 56) (.c (.bool true)) (.t 58),(some (53,true)),false⟩,
   ⟨(some 60),.pick (.t 53) (.t 59) (.c (.bool false)),none,false⟩,
   ⟨(some 61),.mov (.t 60),none,false⟩,
   ⟨(some 62),.mov (.t 5),(some (61,true)),false⟩,
   ⟨(some 63),.bin .lss (.t 62) (.c (.int .i64 65)),(some (61,true)),false⟩,
   ⟨(some 64),.mov (.t 63),(some (61,true)),false⟩,
   ⟨(some 65),.mov (.t 5),(some (64,false)),false⟩,
   ⟨(some 66),.bin .gtr (.t 65) (.c (.int .i64 90)),(some (64,false)),false⟩,
   ⟨(some 67),.pick (.t 64) (.c (.bool true)) (.t 66),(some (61,true)),false⟩,
   ⟨(some 68),.pick (.t 61) (.t 67) (.c (.bool false)),none,false⟩,
   ⟨(some 69),.mov (.t 68),none,false⟩,
   ⟨(some 70),.mov (.t 5),(some (69,true)),false⟩,
   ⟨(some 71),.bin .lss (.t 70) (.c (.int .i64 97)),(some (69,true)),false⟩,
   ⟨(some 72),.mov (.t 71),(some (69,true)),false⟩,
   ⟨(some 73),.mov (.t 5),(some (72,false)),false⟩,
   ⟨(some 74),.bin .gtr (.t 73) (.c (.int .i64 122)),(some (72,false)),false⟩,
   ⟨(some 75),.pick (.t 72) (.c (.bool true)) (.t 74),(some (69,true)),false⟩,
   ⟨(some 76),.pick (.t 69) (.t 75) (.c (.bool false)),none,false⟩])
   (.cond (.t 76) (.seq (.region [
    ⟨(some 2),.mov (.c (.bool false)),none,false⟩])
    (.ret))
    (.skip)))))
  (.region [
   ⟨(some 41),.mov (.t 4),none,false⟩,
   ⟨(some 42),.bin .add (.t 41) (.c (.int .i64 1)),none,false⟩,
   ⟨(some 4),.mov (.t 42),none,false⟩]))
def ev128 (s:List UInt8) (B:s.length<=1000000):Ev E 128 [.str s] (.bool (jkh s)):=by
 refine jS rfl ?_;conv in(occs:=*)F128=>all_goals cbv
 simp;refine jH (ev188 s B) zS rfl rfl ?_;have H:=Yu s;unfold jkh nmOk;generalize I:Ja s=l at *;simp[Xp,yy,V.toks,V.tok,ja4,QZ,Y4];by_cases a1:(l.length:Int)<1;simp[a1];exact j3 rfl zP rfl;by_cases a2:20<(l.length:Int);simp[a1,a2];exact j3 rfl zP rfl;have g:0<l.length:=zO;have u:=jz5 g;simp[a1,a2];refine jH (ev189 s) zS rfl rfl ?_;cases b1:j75 s;case true=>simp;exact j3 rfl zS rfl
 simp;refine jH (ev190 s B) zS rfl rfl ?_;cases b2:Lib.validD s;case false=>simp;exact j3 rfl zS rfl
 have e:∀{k:St},k.df=[]->k.tm 4=.int .i64 0->k.tm 3=.sl (some (128,1)) false l.length (l.flatMap yf)->jgz l=false ->
  wpC E YS (.loop L126) k (kBlk 0 (jv1 E YS (.seq (.region [⟨(some 2),.mov (.c (.bool true)),none,false⟩]) (.ret)) (j57 [.t 2] (.bool (!false&&true&&(decide (1<=l.length)&&decide (l.length<=20) && !(jgz l)&&l.all jdu)))))):=by
  intro k y n F G
  refine j5 [(2,2),(4,5),(37,76)] l.length (λi s=>s.tm 4=.int .i64 i/\∀j (m:j<l.length),j<i->jdu l[j]=true) rfl rfl ⟨by simp[n],λj _ h=>by omega⟩ ?_
  rintro i s J ⟨n,z⟩ f
  have w:s.tm 3=.sl (some (128,1)) false l.length (l.flatMap yf):=by rw[f.t 3 zS];simp[F]
  by_cases b:i<l.length
  ·have D:=jP b zO;obtain⟨c,p⟩:∃c,l[i]=c:=⟨_,rfl⟩;have a:=jj l b;rw[p]at a;rcases juc c with⟨v,q⟩|⟨v,q⟩
   ·rcases q with q|q|q|q|q;all_goals
     simp(disch:=omega) [L126,n,w,b,JC j6,a,dlt_t,jvj,dne_t]
     exact j3 (by simp[f.d,y]) (by simp[jqk b (p▸v)]) rfl
   ·rcases q with q|q|q|q|q;all_goals
     simp(disch:=omega) [L126,n,w,b,JC j6,a,dlt_t,jvj,dne_t,dne_f,D]
     intro j m x
     rcases bi.1 x with h|rfl
     ·exact z j m h
     ·exact p▸v
  ·have:i=l.length:=zO;subst this;simp[L126,n,w];exact j3 (by simp[f.d,y]) (by simp[G,all_at (λj m=>z j m m)];omega) rfl
 obtain⟨c,p⟩:∃c,l[0]=c:=⟨_,rfl⟩;have a:=jj l g;rw[p]at u a;by_cases o:48<=c;by_cases r:c<=57;simp[jpx j6 _ _ l _ g,a,o,r];exact j3 rfl (by simp[u,Q4,o,r]) rfl;simp[jpx j6 _ _ l _ g,a,o,r];exact e rfl zS zS (by simp[u,Q4,r]);simp[jpx j6 _ _ l _ g,a,o];exact e rfl zS zS (by simp[u,Q4,o])
def cmpI_lt (a b:Int):(j1b a b<0)=(a<b):=by unfold j1b;split;simp[*];split<;>simp[*]
def cmpI_z {a b:Int}:j1b a b=0 ↔ a=b:=by unfold j1b;split;simp;omega;split;simp;omega;simp;omega
def ev129 (a b:List UInt8) (I:a.length<=1000000) (G:b.length<=1000000):Ev E 129 [.str a,.str b] (.bool (jkm a b)):=by
 refine jS rfl ?_;conv in(occs:=*)F129=>all_goals cbv
 simp;refine jH (ev188 a I) zS rfl rfl ?_;have D:=Yu a;have H:=Yu b;unfold jkm;simp[Xp,yy,V.toks,V.tok,ja4,QZ,Y4];refine jH (ev188 b G) zS rfl rfl ?_;generalize Ja a=x at *;generalize Ja b=y at *;simp[Xp,yy,V.toks,V.tok,ja4,QZ,Y4];refine j5 [(4,4),(7,7),(12,41)] x.length (λi s=>s.tm 7=.int .i64 i/\i<=y.length/\jnv (x.drop i) (y.drop i)=jnv x y) rfl rfl ⟨zS,zS,zS⟩ ?_;rintro i s J ⟨r,F,k⟩ f;have o:s.tm 5=.sl (some (128,1)) false x.length (x.flatMap yf):=by rw[f.t 5 zS];simp
 have p:s.tm 6=.sl (some (256,1)) false y.length (y.flatMap yf):=by rw[f.t 6 zS];simp
 have n:s.df=[]:=by rw[f.d];simp
 clear f;by_cases j:i<x.length;by_cases g:i<y.length;have B:=jP j zO;rw[aP j,aP g,jnv]at k;obtain⟨c,z⟩:∃c,x[i]=c:=⟨_,rfl⟩;obtain⟨d,v⟩:∃d,y[i]=d:=⟨_,rfl⟩;have l:=jj x j;have m:=jj y g;rw[z]at k l;rw[v]at k m;by_cases q:c=d;rw[zb (cmpI_z.2 q)]at k;simp[r,o,p,j,g,JC j6,l,m,q,B];exact⟨zO,k⟩;rw[za (λh=>q (cmpI_z.1 h))]at k;have w:(c != d)=true:=by simpa using q
 simp[r,o,p,j,g,JC j6,l,m,w];exact j3 (by simp[n]) (by simp[<- k,cmpI_lt]) rfl;have e:y.drop i=[]:=bC zO;rw[aP j,e,jnv]at k;have u:¬x.length<y.length:=zO;simp[r,o,p,j,g];exact j3 (by simp[n]) (by simp[<- k,u]) rfl;have:i=x.length:=zO;subst this;rw[dl]at k;simp[r,o,p];by_cases g:x.length<y.length;rw[aP g,jnv]at k;exact j3 (by simp[n]) (by simp[<- k,g]) rfl;rw[bC (by omega:y.length<=x.length),jnv]at k;exact j3 (by simp[n]) (by simp[<- k,g]) rfl
def j5t {t:List (List UInt8)}(h:∀j,j<t.length->jum t j=true):j07 t=true:=aw.2 λj a=>h j (bf.1 a)
def jq0 {t:List (List UInt8)}{j:Nat}(a:j<t.length) (h:jum t j=false):j07 t=false:=eP.2 ⟨j,bf.2 a,by rw[h];decide⟩
def XB {a:Type}{l:List a}{i:Nat}{d:a}(h:i<l.length):l.getD i d=l[i]:=by simp[List.getD,h]
def wrapP {i:Nat}(h:0<i) (a:i<=1000000000):IntKind.i64.wrap ((i:Int)-1)=((i-1:Nat):Int):=by rw[jg zO zO];omega
def ev79 (nl:Bool) (t:List (List UInt8)) (J:t.length<=1000000) (z:∀s∈t,s.length<=1000000):Ev E 79 [yl nl X1 t] (.bool (j07 t)):=by
 refine jS rfl ?_;conv in(occs:=*)F79=>all_goals cbv
 simp;refine j5 [(2,4),(5,32)] t.length (λi s=>s.tm 3=.int .i64 i/\∀j,j<t.length->j<i->jum t j=true) rfl rfl ⟨zS,λj _ h=>by omega⟩ ?_;rintro i s I ⟨o,D⟩ f;have w:s.tm 0=yl nl X1 t:=by rw[f.t 0 zS];simp
 have v:s.df=[]:=by rw[f.d];simp
 clear f;by_cases a:i<t.length;have F:=jP a zO;have b:jum t i=(jkh t[i]&&(i==0||jkm (t.getD (i-1) []) t[i])):=by unfold jum;rw[XB a]
 have k:=z _ (au a);obtain⟨c,H⟩:∃c,t[i]=c:=⟨_,rfl⟩;have l:=jh1 t a;rw[H]at b l k;have jeg:jum t i=true->∀j,j<t.length->j<i+1->jum t j=true:=λh j m x=>by rcases bi.1 x with h'|rfl;exact D j m h';exact h
 simp[o,w,a,j4 Yp,l];refine X4 (ev128 c k) zS rfl rfl ?_;cases q:jkh c;rw[q]at b;simp;exact j3 (by simp[v]) (by simp[jq0 a b]) rfl;rw[q]at b;by_cases B:i=0;subst B;simp[o];exact⟨a,zQ,λj m h=>by subst h;exact jeg (by simp[b]) 0 m zO⟩;have u:0<i:=zO;have y:=wrapP u zO;have g:i-1<t.length:=zO;have p:=z _ (au g);have n:=jh1 t g;rw[XB g]at b;obtain⟨e,G⟩:∃e,t[i-1]=e:=⟨_,rfl⟩;rw[G]at b n p;simp[o,w,u,y,g,j4 Yp,n,a,l];refine X4 (ev129 e c p k) zS rfl rfl ?_;cases r:jkm e c;simp;exact j3 (by simp[v]) (by simp[jq0 a (by simp[b,r,B])]) rfl;simp[o,F];exact⟨a,jeg (by simp[b,r])⟩;have:i=t.length:=zO;subst this;simp[o,w];exact j3 (by simp[v]) (by simp[j5t (λj m=>D j m m)]) rfl
end Go.Pv.T
