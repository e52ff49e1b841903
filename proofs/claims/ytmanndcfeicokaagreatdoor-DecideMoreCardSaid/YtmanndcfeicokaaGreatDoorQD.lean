/- Part. -/
import Derived.Test.YtmanndcfeicokaaGreatDoorQC
import Derived.Laws.BitsLemmas
set_option maxRecDepth 100000
set_option maxHeartbeats 8000000
set_option linter.all false
namespace Go.Pv.T
open Go Go.Pv
structure Val' where
 kind:Int
 n:Int
 deriving DecidableEq
structure Op' where
 w:Bool
 key:Int
 v:Val'
 deriving DecidableEq
structure Txn' where
 s:Int
 f:Int
 nl:Bool
 ops:List Op'
structure Hist' where
 sn:Bool
 ss:List (List UInt8)
 kn:Bool
 ks:List (List UInt8)
 tn:Bool
 ts:List Txn'
def J9 (v:Val'):List V:=[.int .i64 v.kind,.int .i64 v.n]
def yP (o:Op'):List V:=[.bool o.w,.int .i64 o.key,.int .i64 o.v.kind,.int .i64 o.v.n]
def yj {α:Type}(nl:Bool) (f:α->List V) (l:List α):V:=.sl none nl l.length (l.flatMap f)
def jt (t:Txn'):List V:=[.int .i64 t.s,.int .i64 t.f,yj t.nl yP t.ops]
def Jj (s:List UInt8):List V:=[.str s]
def ya (h:Hist'):List V:=[yj h.sn Jj h.ss,yj h.kn Jj h.ks,yj h.tn jt h.ts]
def zH {p:Prop}(h:p:=by simp[ya,yj]):p:=h
def zI {p:Prop}(h:p:=by simp[ya]):p:=h
@[simp] theorem j52 {a:Type}(nl:Bool) (f:a->List V) (l:List a):Ww (yj nl f l)=some (.int .i64 l.length):=rfl
@[simp] theorem j9x {a:Type}(nl:Bool) (f:a->List V) (l:List a):(yj nl f l).leaf=true:=rfl
@[simp] theorem j8n {a:Type}(nl:Bool) (f:a->List V) (l:List a):(yj nl f l).cells=[yj nl f l]:=rfl
@[simp] theorem j8m {a:Type}(nl:Bool) (f:a->List V) (l:List a):(yj nl f l).strip=yj nl f l:=rfl
@[simp] theorem j4u {a:Type}(nl:Bool) (f:a->List V) (l:List a):(yj nl f l).strip1=yj nl f l:=rfl
@[simp] theorem j23 {a:Type}(nl:Bool) (f:a->List V) (l:List a):(yj nl f l).pureTop=true:=rfl
@[simp] theorem jzm {a:Type}(nl:Bool) (f:a->List V) (l:List a):(yj nl f l).pureLeaf=true:=rfl
@[simp] theorem int_strip (k:IntKind) (n:Int):(V.int k n).strip=.int k n:=rfl
@[simp] theorem j81 (n:Bool):(V.bool n).strip=.bool n:=rfl
@[simp] theorem j8t (k:IntKind) (n:Int):(V.int k n).strip1=.int k n:=rfl
@[simp] theorem j72 (n:Bool):(V.bool n).strip1=.bool n:=rfl
@[simp] theorem j60 (k:IntKind) (n:Int):(V.int k n).pureTop=true:=rfl
@[simp] theorem j3v (n:Bool):(V.bool n).pureTop=true:=rfl
@[simp] theorem j3f (k:IntKind) (n:Int):(V.int k n).pureLeaf=true:=rfl
@[simp] theorem j2k (n:Bool):(V.bool n).pureLeaf=true:=rfl
@[simp] theorem agg_strip (cs:List V):(V.agg cs).strip=.agg (cs.map V.strip1):=rfl
@[simp] theorem j78 (cs:List V):(V.agg cs).pureTop=cs.all V.pureLeaf:=rfl
def YM (n:Int) (l:Nat):Bool:=decide (0<=n)&&decide (n<l)
def ev144 (n:Int) (nl:Bool) (l:List (List UInt8)):Ev E 144 [.int .i64 n,yj nl Jj l] (.bool (YM n l.length)):=by
 refine jV rfl ?_;by_cases h:0<=n
 ·conv in(occs:=*)F144=>all_goals cbv
  simp[h];exact j4 rfl (by simp[YM,h]) rfl
 ·conv in(occs:=*)F144=>all_goals cbv
  simp[h];exact j4 rfl (by simp[YM,h]) rfl
def jdy (h:Hist') (t:Txn'):Bool:=YM t.s h.ss.length&&(decide (1<=t.f)&&(decide (t.f<=3)&&decide (t.ops.length<=20)))
def ev90 (h:Hist') (t:Txn'):Ev E 90 [.agg (ya h),.agg (jt t)] (.bool (jdy h t)):=by
 refine jV rfl ?_;conv in(occs:=*)F90=>all_goals cbv
 simp[ya,jt,j0];refine Xo (vs:=[.int .i64 t.s,yj h.sn Jj h.ss]) zS rfl zS (by simpa using ev144 t.s h.sn h.ss) ?_;unfold jdy;cases c:YM t.s h.ss.length;simp;exact j4 rfl zS rfl;by_cases a:1<=t.f;by_cases b:t.f<=3;simp[j0,a,b];exact j4 rfl zP rfl;simp[j0,a,b];exact j4 rfl zS rfl;simp[j0,a];exact j4 rfl zS rfl
def jq6 (v:Val'):Bool:=v.kind==1||((v.kind==0||v.kind==2)&&v.n==0)
def ev130 (v:Val'):Ev E 130 [.agg (J9 v)] (.bool (jq6 v)):=by
 refine jV rfl ?_;unfold jq6;cases a:v.kind==1
 ·cases b:v.kind==0
  ·cases c:v.kind==2
   ·conv in(occs:=*)F130=>all_goals cbv
    simp[J9,j0,a,b,c];exact j4 rfl zS rfl
   ·conv in(occs:=*)F130=>all_goals cbv
    simp[J9,j0,a,b,c];exact j4 rfl zS rfl
  ·conv in(occs:=*)F130=>all_goals cbv
   simp[J9,j0,a,b];exact j4 rfl zS rfl
 ·conv in(occs:=*)F130=>all_goals cbv
  simp[J9,j0,a];exact j4 rfl zS rfl
def jda (v:Val'):V:=if v.kind=1 then .iface 2 (.int .i64 v.n) else if v.kind=2 then .iface 320 (.agg []) else .nilif
def ev208 (v:Val'):Ev E 208 [.agg (J9 v)] (.agg [jda v]):=by
 refine jV rfl ?_;unfold jda;by_cases b:v.kind=1
 ·conv in(occs:=*)F208=>all_goals cbv
  simp[J9,j0,b];exact JS rfl (l:=[.agg [.iface 2 (.int .i64 v.n)]]) (by simp[jy,j0]) rfl rfl
 ·have b1:(v.kind==1)=false:=by simpa using b
  by_cases a:v.kind=2
  ·conv in(occs:=*)F208=>all_goals cbv
   simp[J9,j0,a];exact JS rfl (l:=[.agg [.iface 320 (.agg [])]]) (by simp[jy,j0]) rfl rfl
  ·have b2:(v.kind==2)=false:=by simpa using a
   conv in(occs:=*)F208=>all_goals cbv
   simp[J9,j0,b,a,b1,b2];exact JS rfl (l:=[.agg [.nilif]]) (by simp[jy,j0]) rfl rfl
def jtb (v:Val'):Val':=if v.kind=1 then ⟨1,v.n⟩ else if v.kind=2 then ⟨2,0⟩ else ⟨0,0⟩
def ev207 (v:Val'):Ev E 207 [.agg [jda v]] (.tup [.agg (J9 (jtb v)),.int .i64 0]):=by
 refine jV rfl ?_;unfold jda jtb;by_cases a:v.kind=1
 ·conv in(occs:=*)F207=>all_goals cbv
  simp[J9,j0,a,jyn,eqV,jjl,j2];exact JS rfl (l:=[.agg [.int .i64 1,.int .i64 v.n],.int .i64 0]) (by simp[jy,j0]) rfl rfl
 ·by_cases b:v.kind=2
  ·conv in(occs:=*)F207=>all_goals cbv
   simp[J9,j0,b,jyn,eqV,jjl,j2];exact JS rfl (l:=[.agg [.int .i64 2,.int .i64 0],.int .i64 0]) (by simp[jy,j0]) rfl rfl
  ·conv in(occs:=*)F207=>all_goals cbv
   simp[J9,j0,a,b,jyn,eqV];exact JS rfl (l:=[.agg [.int .i64 0,.int .i64 0],.int .i64 0]) (by simp[jy,j0]) rfl rfl
def jt0 (v:Val'):jq6 v=((jtb v).kind==v.kind&&(jtb v).n==v.n):=by obtain⟨k,n⟩:=v;unfold jq6 jtb;by_cases a:k=1;simp[a];by_cases b:k=2;rw[za a,zb b,bu];simp only[bD,aj,zh];omega;rw[za a,za b,bu];simp only[bD,aj,zh];omega
def jh5 (v:Val'):(jda v).pureLeaf=true:=by unfold jda;split;rfl;split<;>rfl
def jdr (v:Val'):(jda v).strip1=jda v:=by unfold jda;split;rfl;split<;>rfl
def ev146 (v:Val'):Ev E 146 [.agg (J9 v)] (.bool (jq6 v)):=by
 refine jV rfl ?_;conv in(occs:=*)F146=>all_goals cbv
 simp[J9,j0];refine Xo (vs:=[.agg (J9 v)]) (by simp[J9]) rfl (by simp[J9]) (by simpa[J9] using ev208 v) ?_;simp[JI (v:=.agg [jda v]) (by simp[V.plain,jh5])];refine Xo (vs:=[.agg [jda v]]) zS rfl (by simp[jh5,jdr]) (by simpa[jdr] using ev207 v) ?_;rw[jt0];generalize jtb v=b;rw[Jn (by simp[V.plain,J9])];simp[J9,j0];exact j4 rfl zS rfl
def opB (h:Hist') (o:Op'):Bool:=YM o.key h.ks.length&&(jq6 o.v&&(!o.w||o.v.kind==1))
def ev92 (h:Hist') (o:Op'):Ev E 92 [.agg (ya h),.agg (yP o)] (.bool (opB h o)):=by
 refine jV rfl ?_;conv in(occs:=*)F92=>all_goals cbv
 simp[ya,yP,j0];refine Xo (vs:=[.int .i64 o.key,yj h.kn Jj h.ks]) zS rfl zS (by simpa using ev144 o.key h.kn h.ks) ?_;unfold opB;cases b:YM o.key h.ks.length;simp;exact j4 rfl zS rfl;simp[j0];refine Xo (vs:=[.agg (J9 o.v)]) (by simp[J9]) rfl (by simp[J9]) (by simpa[J9] using ev146 o.v) ?_;cases a:jq6 o.v;simp;exact j4 rfl zS rfl;cases c:o.w;simp[j0];exact j4 rfl zS rfl;simp[j0];exact j4 rfl zS rfl
@[simp] theorem j9o (args:List V) (ob:ZO) (tk:Nat->Bool) (ro base ub n:Nat):(Ju args ob tk ro base ub).tm n=args.getD n jl:=rfl
@[simp] theorem j9r (args:List V) (ob:ZO) (tk:Nat->Bool) (ro base ub:Nat):(Ju args ob tk ro base ub).ob=ob:=rfl
@[simp] theorem j9p (args:List V) (ob:ZO) (tk:Nat->Bool) (ro base ub:Nat):(Ju args ob tk ro base ub).tk=tk:=rfl
@[simp] theorem j9q (args:List V) (ob:ZO) (tk:Nat->Bool) (ro base ub:Nat):(Ju args ob tk ro base ub).ro=ro:=rfl
@[simp] theorem j9s (args:List V) (ob:ZO) (tk:Nat->Bool) (ro base ub:Nat):(Ju args ob tk ro base ub).nx=ub:=rfl
@[simp] theorem j9t (args:List V) (ob:ZO) (tk:Nat->Bool) (ro base ub:Nat):(Ju args ob tk ro base ub).fb=base:=rfl
@[simp] theorem j9u (args:List V) (ob:ZO) (tk:Nat->Bool) (ro base ub:Nat):(Ju args ob tk ro base ub).df=[]:=rfl
def ji {n:Int}(h:-9223372036854775808<=n) (a:n<=9223372036854775807):IntKind.i64.wrap n=n:=by rw[IntKind.wrap_i64];omega
section
variable {α:Type}{f:α->List V}{k:Nat}
def j3 (b:∀a,(f a).length=k):∀(l:List α),(l.flatMap f).length=l.length*k
 |[]=>by simp
 |a::l=>by rw[ba,au,b,j3 b l,bg,cX];omega
def Xs (b:∀a,(f a).length=k):∀(l:List α) (i:Nat) (h:i<l.length),((l.flatMap f).drop (i*k)).take k=f l[i]
 |a::l,0,_=>by rw[ba,dk,dq,gx (by rw[b];omega),aM (by rw[b];omega)];rfl
 |a::l,i+1,h=>by rw[ba,cX,List.drop_append,bB (by rw[b];omega),dK,b,eM];exact Xs b l i (zU h)
def j6 (b:∀a,(f a).length=k) (nl:Bool) (l:List α) (kk:IntKind) {i:Nat}(h:i<l.length):J0 k (yj nl f l) (.int kk i)=some (.eptr (l.flatMap f) (i*k)):=by simp only[yj,Jo,j3 b];rw[zb zP];rfl
def jh (b:∀a,(f a).length=k) (ob:ZO) (l:List α) {i:Nat}(h:i<l.length):WG ob (some k) (.eptr (l.flatMap f) (i*k))=some (.agg (f l[i])):=by
 have:i*k+k<=l.length*k:=by rw[<- cX];exact aW k h
 rw[jc3,WB,zb (by rw[j3 b];exact this),Xs b l i h]
end
@[simp] theorem j9 (t:Txn'):(jt t).length=3:=rfl
@[simp] theorem jH (t:Op'):(yP t).length=4:=rfl
@[simp] theorem YR (t:List UInt8):(Jj t).length=1:=rfl
def WH {E:Env}{Yf:YF}{q:A}{xs:List A}{st:St}{ub:Nat}{K:St->Nat->Prop}{d:Option Nat}{nm:Bool}{f:FuncId}{first captured:List V}(e:yc E st.tm q=.fn (.func f) first captured) (c:E.sh nm f=false)
 (hp:((first++xs.map (yc E st.tm)++captured).all λv=>v.strip.pureTop)=false) {v:V}(i:EvO E f (first++xs.map (yc E st.tm)++captured) st.ob st.tk ((st.fb+d.getD 0+1)*1024) ub v) (h:wpD (Xd ub v) (Q6 K st d ub)) :
 j5 E Yf ⟨d,.callV q xs,none,nm⟩ st ub K:=by
 have a:j8 E nm (yc E st.tm) (.callV q xs)=some (f,first++xs.map (yc E st.tm)++captured):=by simp only[j8,e,c,hp,cu,cp,ak,zc]
 simp only[j5,yH,jb,e,a];obtain⟨g,b,j⟩:=h;exact .inr ⟨c,v,i,g,b,j⟩
def jP {E:Env}{Yf:YF}{f:FuncId}{xs:List A}{st:St}{ub:Nat}{K:St->Nat->Prop}{d:Option Nat}{nm:Bool}{vs:List V}(a:xs.map (yc E st.tm)=vs) (c:E.sh nm f=false) (hp:(vs.all λv=>v.strip.pureTop)=false) {v:V}
 (b:EvO E f vs st.ob st.tk ((st.fb+d.getD 0+1)*1024) ub v) (h:wpD (Xd ub v) (Q6 K st d ub)):j5 E Yf ⟨d,.call f xs,none,nm⟩ st ub K :=
 jtu c (by rw[a];exact hp) ⟨v,by rw[a];exact b,h⟩
def jo {E:Env}{f:FuncId}{af:AF}{args:List V}{ob:ZO}{tk:Nat->Bool}{base ub:Nat}{r:V}(a:E.fs f=some af) (h:wpC E YO af.body (Ju args ob (λ_=>false) ub base ub) (j3d af.res r)) (b:E.fz f=false:=by rfl):EvO E f args ob tk base ub r:=EvO_wp a h b
def HistAt (h:Hist') (ob:ZO) (l u:Nat):Prop:=l % 2=0/\ob l=some ⟨u,.cells (ya h)⟩
def ev89 {h:Hist'}{ob:ZO}{l u:Nat}(c:HistAt h ob l u) (t:Txn') (tk:Nat->Bool) (base ub:Nat):EvO E 89 [.agg (jt t),.ptr l u 0] ob tk base ub (.bool (!jdy h t)):=by
 obtain⟨d,b⟩:=c;refine jo rfl ?_;have a:¬l=2*ub+1:=zO;conv in(occs:=*)S89=>all_goals cbv
 simp[j0,a,b,jt,ya];refine Xo (vs:=[.agg (ya h),.agg (jt t)]) (by simp[ya,jt]) rfl (by simp[ya,jt]) (by simpa[ya,jt] using ev90 h t) ?_;simp;exact j4 rfl zS rfl
def Yj {α:Type}(p:α->Bool) (l:List α):Int:=match l.findIdx? p with
 |some i=>i
 |none=>-1
def YB {α:Type}{p:α->Bool}{l:List α}{i:Nat}(h:i<l.length) (c:p l[i]=true) (b:∀j (a:j<l.length),j<i->p l[j]=false):Yj p l=i:=by
 unfold Yj;have:l.findIdx? p=some i:=by rw[ee];exact⟨h,c,λj a=>by rw[b j zO a];decide⟩
 rw[this]
def Yi {α:Type}{p:α->Bool}{l:List α}(b:∀j (a:j<l.length),p l[j]=false):Yj p l = -1:=by
 unfold Yj;have:l.findIdx? p=none:=by rw[eW];intro x c;obtain⟨j,a,e⟩:=bo c;rw[<- e];exact b j a
 rw[this]
def Qq {α:Type}(p:α->Bool) (l:List α):decide (0<=Yj p l)=l.any p:=by
 unfold Yj;cases h:l.findIdx? p with
 |none=>rw[eW]at h;simp;intro x c;simpa using h x c
 |some i=>rw[ee]at h;obtain⟨b,a,_⟩:=h;simp;exact⟨_,av b,a⟩
def ev143 {p:Txn'->Bool}{g:FuncId}{cap:V}{ob:ZO}(y:E.sh true g=false) (d:cap.strip.pureTop=false) (hp:∀(t:Txn') (tk:Nat->Bool) (base ub:Nat),EvO E g [.agg (jt t),cap] ob tk base ub (.bool (p t)))
 (nl:Bool) (l:List Txn') (z:l.length<=140737488355328) (tk:Nat->Bool) (base ub:Nat):EvO E 143 [yj nl jt l,.fn (.func g) [] [cap]] ob tk base ub (.int .i64 (Yj p l)):=by
 refine jo rfl ?_;conv in(occs:=*)S143=>all_goals cbv
 simp;refine WV (n:=l.length) (λk s=>∃i,k=l.length-i/\i<=l.length/\s.df=[]/\s.ob=ob/\s.tm 0=yj nl jt l/\s.tm 1=.fn (.func g) [] [cap]/\s.tm 7=.int .i64 l.length/\s.tm 8=.int .i64 i/\∀j (c:j<l.length),j<i->p l[j]=false)
  ⟨0,zS⟩ ?_
 rintro k s ⟨i,rfl,B,e,u,w,x,q,m,o⟩;by_cases a:i<l.length;simp[w,x,q,m,a,j6 j9,jh j9];refine WH (f:=g) (first:=[]) (captured:=[cap]) zS y (by simp[d]) (v:=.bool (p l[i])) (by simpa[u] using hp l[i] _ _ _) ?_;cases b:p l[i];simp[w,x,q,m,e];refine⟨l.length-(i+1),zO,i+1,rfl,zO,u,by rw[ji zO zO];simp,?_⟩;intro j c r;rcases bz.1 r with h|rfl;exact o j c h;exact b;simp;refine j4 (zU e) ?_ rfl;simp;rw[YB a b o];have:i=l.length:=zO;subst this;simp[q,m];refine j4 (zU e) ?_ rfl;simp[Yi (λj c=>o j c c)]
def ev88 {p:Txn'->Bool}{g:FuncId}{ob:ZO}{a b c:Nat}(e:E.sh true g=false) (hp:∀(t:Txn') (tk:Nat->Bool) (base ub:Nat),EvO E g [.agg (jt t),.ptr a b c] ob tk base ub (.bool (p t)))
 (nl:Bool) (l:List Txn') (d:l.length<=140737488355328) (tk:Nat->Bool) (base ub:Nat):EvO E 88 [yj nl jt l,.fn (.func g) [] [.ptr a b c]] ob tk base ub (.bool (l.any p)):=by
 refine jo rfl ?_;conv in(occs:=*)S88=>all_goals cbv
 simp;refine jP (vs:=[yj nl jt l,.fn (.func g) [] [.ptr a b c]]) zS rfl rfl (ev143 e rfl hp nl l d _ _ _) ?_;simp;exact j4 rfl (by simp[Qq]) rfl
def Fr (ub:Nat) (ob ob':ZO):Prop:=∀key,(∀m,ub<=m->key≠2*m+1)->ob' key=ob key
def Fr.refl (ub:Nat) (ob:ZO):Fr ub ob ob:=λ_ _=>rfl
def Jd (res:List ARes) (P:V×(ZO)×(Nat->Bool)×Nat->Prop):Ex->St->Prop:=λe s=>∃r,endS res (e,s)=some r/\P r
def jn (st:St) (d:Option Nat) (v:V) (obs:List (Nat×Obj')):(st.app d { v:=v,obs:=obs }).tk=st.tk:=by funext u;simp[jx]
def Fr.two {ub m:Nat}{ob ob':ZO}(h:∀a,a≠2*m+1->ob' a=ob a) (b:ub<=m):Fr ub ob ob':=λa c=>h a (c m b)
def jov {E:Env}{Yf:YF}{o:AOpr}{st:St}{ub:Nat}{K:St->Nat->Prop}(h:∀a,a=st->j5 E Yf o a ub K):j5 E Yf o st ub K:=h st rfl
def j25 {Yf:YF}(h:Hist') (hn:h.ts.length<=1000) (hm:∀t∈h.ts,t.ops.length<=1000000) {l u lh uh:Nat}{ob0:ZO}{tk0:Nat->Bool}{ro base ub0:Nat}(hh:ob0 lh=some ⟨uh,.cells (ya h)⟩) (c0:ro<=ub0)
 (J:Nat->Nat->(ZO)->(Nat->Bool)->Nat->Prop) (P:V×(ZO)×(Nat->Bool)×Nat->Prop)
 (f:∀i k ob o g e q,J i k ob g e->e<=q->Fr e ob o->J i k o g q)
 (H:∀i (hi:i<h.ts.length) ob g e,J i (h.ts[i]).ops.length ob g e->J (i+1) 0 ob g e)
 (F:∀i (hi:i<h.ts.length) k (S:k<(h.ts[i]).ops.length) ob g e,J i k ob g e->ro<=e->∃r,EvY Yf l u [.agg [.int .i64 i,.int .i64 k],.agg (yP (h.ts[i]).ops[k])] ob g ro e r/\ro<=r.2.2.2 /\
  ((r.1=.bool true/\J i (k+1) r.2.1 r.2.2.1 r.2.2.2)\/(r.1=.bool false/\∀o q,r.2.2.2<=q->Fr r.2.2.2 r.2.1 o->P (.tup [],o,r.2.2.1,q))))
 (M:∀ob g e,J h.ts.length 0 ob g e->P (.tup [],ob,g,e))
 (w:J 0 0 ob0 tk0 ub0):∃r,EvS E Yf.y 145 [.yld l u,.ptr lh uh 0] ob0 tk0 ro base ub0 r/\P r:=by
 refine J7 rfl zQ ?_;show wpC E Yf S145.body _ (Jd S145.res P);conv in(occs:=*)S145=>all_goals cbv
 simp[j0,hh,ya];refine WV (n:=h.ts.length) (λk s=>∃i,k=h.ts.length-i/\i<=h.ts.length/\s.df=[]/\s.fb=base/\s.ro=ro/\ro<=s.nx/\s.tm 0=.yld l u/\s.tm 8=yj h.tn jt h.ts/\s.tm 9=.int .i64 h.ts.length/\s.tm 10=.int .i64 i/\J i 0 s.ob s.tk s.nx)
  ⟨0,by simp;exact⟨zO,f _ _ _ _ _ _ _ w zO (Fr.refl _ _)⟩⟩ ?_
 rintro k s ⟨i,rfl,hi,L,p,c,Q,w,I,G,d,K⟩;by_cases v:i<h.ts.length;simp[I,G,d,v,j6 j9,jh j9,jt,j0,c];refine⟨zO,?_⟩;refine WV (n:=(h.ts[i]).ops.length) (λk s=>∃j,k=(h.ts[i]).ops.length-j/\j<=(h.ts[i]).ops.length/\s.df=[]/\s.fb=base/\s.ro=ro/\ro<=s.nx/\s.tm 0=.yld l u/\s.tm 8=yj h.tn jt h.ts/\s.tm 9=.int .i64 h.ts.length/\s.tm 10=.int .i64 i /\
  s.tm 3=.int .i64 i/\s.tm 16=yj (h.ts[i]).nl yP (h.ts[i]).ops/\s.tm 17=.int .i64 (h.ts[i]).ops.length/\s.tm 18=.int .i64 j/\J i j s.ob s.tk s.nx) ⟨0,?_⟩ ?_
 simp[L,p,c,w,I,G,d];refine⟨zO,?_⟩;rw[jn,jmo,jn];refine f _ _ _ _ _ _ _ K (by omega:s.nx<=_) (Fr.two (m:=s.nx+64+64+64+64) (λb5 S=>?_) zO);simp[S];clear L p c Q w I G d K s;rintro k s ⟨j,rfl,hj,L,p,c,Q,w,I,G,d,h3,N,x,B,K⟩;by_cases O:j<(h.ts[i]).ops.length;simp[w,h3,N,x,B,O,j6 jH,jh jH,yP,j0,c,j2];refine⟨zO,jov λb a=>?_⟩;have b7:b.tm 23=.yld l u:=by rw[a];simp
 have b6:b.tm 26=.agg [.int .i64 i,.int .i64 j]:=by rw[a];simp
 have Z:b.tm 27=.agg (yP (h.ts[i]).ops[j]):=by rw[a];simp[yP]
 have e0:b.tm 0=.yld l u:=by rw[a];simp[w]
 have e8:b.tm 8=yj h.tn jt h.ts:=by rw[a];simp[I]
 have e9:b.tm 9=.int .i64 h.ts.length:=by rw[a];simp[G]
 have X:b.tm 10=.int .i64 i:=by rw[a];simp[d]
 have e3:b.tm 3=.int .i64 i:=by rw[a];simp[h3]
 have b0:b.tm 16=yj (h.ts[i]).nl yP (h.ts[i]).ops:=by rw[a];simp[N]
 have b8:b.tm 17=.int .i64 (h.ts[i]).ops.length:=by rw[a];simp[x]
 have T:b.tm 18=.int .i64 j:=by rw[a];simp[B]
 have ed:b.df=[]:=by rw[a];simp[L]
 have ef:b.fb=base:=by rw[a];simp[p]
 have er:b.ro=ro:=by rw[a];simp[c]
 have et:b.tk=s.tk:=by rw[a];simp only[jmo,juh,jn]
 have eo:Fr s.nx s.ob b.ob:=by rw[a];exact Fr.two (m:=s.nx+64+64+64+64) (λb5 S=>by simp[S]) zO
 clear a;obtain⟨r,hr,b9,D⟩:=F i v j O b.ob s.tk (s.nx+64+64+64+64+64+64+64+64+64+64+64+64) (f _ _ _ _ _ _ _ K zO eo) zO;refine jjw (l:=l) (u:=u) (zU b7) ⟨r,by simpa[b6,Z,et,er] using hr,?_⟩;rcases D with⟨z,a0⟩|⟨z,hP⟩;simp[z,put,yf,T];have hb:=hm h.ts[i] (av v);refine⟨(h.ts[i]).ops.length-(j+1),zO,j+1,rfl,zO,ed,ef,er,zO,e0,e8,e9,X,e3,b0,b8,by rw[ji zO zO];simp,?_⟩;exact f _ _ _ _ _ _ _ a0 zO (Fr.refl _ _);simp[z,put];refine⟨(.tup [],r.2.1,r.2.2.1,r.2.2.2+64),?_,hP _ _ zO (Fr.refl _ _)⟩;simp[endS,ed];have:j=(h.ts[i]).ops.length:=zO;subst this;have U:=H i v _ _ _ K;simp[x,B,w,I,G,d,L,p,c];refine⟨h.ts.length-(i+1),zO,i+1,rfl,zO,zO,by rw[ji zO zO];simp,?_⟩;exact f _ _ _ _ _ _ _ U zO (Fr.refl _ _);have:i=h.ts.length:=zO;subst this;simp[G,d];refine⟨(.tup [],s.ob,s.tk,s.nx+64),?_,M _ _ _ (f _ _ _ _ _ _ _ K (Nat.le_add_right _ _) (Fr.refl _ _))⟩;simp[endS,L]
def jb3 {E:Env}{Yf:YF}{f:FuncId}{xs:List A}{st:St}{ub:Nat}{K:St->Nat->Prop}{d:Option Nat}{nm:Bool}{vs:List V}(g:xs.map (yc E st.tm)=vs) (b:E.sh nm f=true)
 (h:∃r,EvS E Yf.y f vs st.ob st.tk st.ro ((st.fb+d.getD 0+1)*1024) ub r/\K { st with tm:=put st.tm d r.1,ob:=r.2.1,tk:=r.2.2.1 } r.2.2.2):j5 E Yf ⟨d,.call f xs,none,nm⟩ st ub K:=by
 have a:j8 E nm (yc E st.tm) (.call f xs)=some (f,vs):=by simp only[j8,b,g,cl,bZ,ak,zc]
 simp only[j5,yH,jb,a];obtain⟨r,c,e⟩:=h;exact .inl ⟨b,EvS.list ⟨r,c,e⟩⟩
def ev91 {Yf:YF}(h:Hist') (ob:ZO) (tk:Nat->Bool) (ro base ub:Nat):∃r,EvS E Yf.y 91 [.agg (ya h)] ob tk ro base ub r /\
 r.1=.fn (.func 145) [] [.ptr (2*ub+1) ub 0]/\(∀a,r.2.1 a=if a=2*ub+1 then some ⟨ub,.cells (ya h)⟩ else ob a)/\r.2.2.1=tk/\r.2.2.2=ub+256:=by
 refine J7 rfl zQ ?_;show wpC E Yf S91.body _ (Jd S91.res _);conv in(occs:=*)S91=>all_goals cbv
 simp[ya];refine⟨(.fn (.func 145) [] [.ptr (2*ub+1) ub 0],_,_,_),rfl,?_⟩;simp[jn]
def jcw (h:Hist'):List Op':=h.ts.flatMap (·.ops)
def j3i (h:Hist') (i k:Nat):Prop:=∀i' (hi:i'<h.ts.length) k' (hk:k'<(h.ts[i']).ops.length),(i'<i\/i'=i/\k'<k)->opB h (h.ts[i']).ops[k']=true
def AS70:C:=.region [
 ⟨(some 4),.alloc [(.bool false),(.int .i64 0),(.int .i64 0),(.int .i64 0)],none,false⟩,
 ⟨none,.store 4 (.t 4) (.t 17),none,false⟩]
def BD70:C:=.block 1 (.seq (.region [
            ⟨(some 18),.load (some 3) (.t 1),none,false⟩,
            ⟨(some 19),.load (some 4) (.t 4),none,false⟩,
            ⟨(some 20),.call 92 [(.t 18),(.t 19)],none,false⟩,
            ⟨(some 21),.un .not (.t 20),none,false⟩])
 (.cond (.t 21) (.seq (.region [
  ⟨none,.store 1 (.t 2) (.c (.int .i64 4)),none,false⟩])
  (.ret))
  (.skip)))
def jss {h:Hist'}(f:j3i h h.ts.length 0):(jcw h).all (opB h)=true:=by rw[ap];intro o d;obtain⟨t,e,a⟩:=ct.1 d;obtain⟨i,b,rfl⟩:=bo e;obtain⟨k,c,rfl⟩:=bo a;exact f i b k c (Or.inl b)
def jf {E:Env}{Yf:YF}{c:C}{st:St}{Q:Ex->St->Prop}(h:∀a,a=st->wpC E Yf c a Q):wpC E Yf c st Q:=h st rfl
def j3x {l k:Nat}(ob:ZO) (h:k≠l):(if Nat.beq l k then none else ob k)=ob k:=by
 cases a:Nat.beq l k with
 |false=>rfl
 |true=>exact zf (bk a).symm h
def j5g (h:Hist') (hn:h.ts.length<=1000) (v:∀t∈h.ts,t.ops.length<=1000000) {st:St}{lh uh:Nat}(U:Nat) (hU:st.nx=U) (b8:64<=U) (a0:st.tm 15=.fn (.func 145) [] [.ptr lh uh 0]) (hl:∃m,lh=2*m+1/\m<U)
 (h1:st.tm 1=.ptr 2 0 0) (h2:st.tm 2=.ptr 4 64 0) (K:st.ro=0) (I:st.fb=0) (o2:st.ob 2=some ⟨0,.cells (ya h)⟩) (o4:st.ob 4=some ⟨64,.cells [.int .i64 0]⟩) (oh:st.ob lh=some ⟨uh,.cells (ya h)⟩) {Q:Ex->St->Prop}
 (hQ:∀(e:Ex) (ob:ZO) (tk:Nat->Bool) (ub:Nat) (c:Int),ob 2=some ⟨0,.cells (ya h)⟩->ob 4=some ⟨64,.cells [.int .i64 c]⟩->ob (2*U+3)=some ⟨U+1,.dfr⟩->U+64<=ub ->
  ((jcw h).all (opB h)=true/\e=.nrm/\c=0\/(jcw h).all (opB h)=false/\e=.ret/\c=4)->Q e { st with ob:=ob,tk:=tk,nx:=ub,df:=(2*U+3,U+1)::st.df }) :
 wpC E YO (.rangeFunc (.t 15) [16,17] AS70 BD70) st Q:=by
 obtain⟨m,rfl,b5⟩:=hl
 subst hU
 refine WX (g:=145) (first:=[]) (captured:=[.ptr (2*m+1) uh 0]) (zU a0) ?_
 have:=j25 (Yf:=jg0 E YO AS70 BD70 st [16,17] (2*st.nx+1) st.nx) h hn v (l:=2*st.nx+1) (u:=st.nx) (lh:=2*m+1) (uh:=uh)
  (ob0:=upd (upd st.ob (2*st.nx+3) (some ⟨st.nx+1,.dfr⟩)) (2*st.nx+1) (some ⟨st.nx,.loop .ready none⟩)) (tk0:=st.tk) (ro:=st.ro) (base:=(st.fb+1023)*1024) (ub0:=st.nx+64)
  (by have H :¬ 2 * m+1=2 * st.nx+1:=by omega
      have F:¬2*m+1=2*st.nx+3:=zO
      simp only[yf,H,F,zc,oh]) zO
  (λi k ob tk ub=>j3i h i k/\ob (2*st.nx+1)=some ⟨st.nx,.loop .ready none⟩/\ob (2*st.nx+3)=some ⟨st.nx+1,.dfr⟩/\ob 2=some ⟨0,.cells (ya h)⟩/\ob 4=some ⟨64,.cells [.int .i64 0]⟩/\st.nx+64<=ub)
  (λr=>∃s w,r.2.1 (2*st.nx+1)=some ⟨st.nx,.loop s w⟩/\s≠.busy/\st.ro<=st.nx/\Q (w.getD .nrm) { st with ob:=λk=>if Nat.beq (2*st.nx+1) k then none else r.2.1 k,tk:=r.2.2.1,nx:=r.2.2.2,df:=(2*st.nx+3,st.nx+1)::st.df })
  ?_ ?_ ?_ ?_ ?_
 ·obtain⟨r,hr,hP⟩:=this
  exact⟨r,hr,hP⟩
 ·-- what J says stands behind what is new
  rintro i k ob j tk ub L ⟨q,D,P,G,N,g6⟩ b6 y
  have f:∀n,(∀m,ub<=m->n≠2*m+1)->j n=ob n:=y
  exact⟨q,by rw[f _ (λm v=>by omega)];exact D,by rw[f _ (λm v=>by omega)];exact P,by rw[f _ (λm v=>by omega)];exact G,by rw[f _ (λm v=>by omega)];exact N,zO⟩
 ·rintro i hi ob tk ub ⟨q,g⟩
  refine⟨λO d B b p=>?_,g⟩
  rcases p with z|⟨_,z⟩
  ·rcases bz.1 z with h''|rfl
   ·exact q O d B b (Or.inl h'')
   ·exact q O d B b (Or.inr ⟨rfl,b⟩)
  ·omega
 ·rintro i hi k hk ob tk ub ⟨q,D,P,G,N,g6⟩ b7
  refine jga (asg:=AS70) (bd:=BD70) (xs:=[.agg [.int .i64 i,.int .i64 k],.agg (yP (h.ts[i]).ops[k])]) rfl zO D zQ zQ ?_
  simp[AS70,jes,j0,I,yP,K]
  refine⟨by rw[za zO,za zO];exact D,jf λo a=>?_⟩
  have f1:o.tm 1=.ptr 2 0 0:=by rw[a];simp[yf,h1]
  have f2:o.tm 2=.ptr 4 64 0:=by rw[a];simp[yf,h2]
  have f4:o.tm 4=.ptr 8 ub 0:=by rw[a];simp
  have Z:¬2=2*st.nx+1:=zO
  have X:¬4=2*st.nx+1:=zO
  have n8:¬8=2*st.nx+1:=zO
  have S:¬2*st.nx+3=2*st.nx+1:=zO
  have b0:¬2*st.nx+3=8:=zO
  have p2:o.ob 2=some ⟨0,.cells (ya h)⟩:=by rw[a];simp only[yf,Z,zc,X3];simp[G]
  have p4:o.ob 4=some ⟨64,.cells [.int .i64 0]⟩:=by rw[a];simp only[yf,X,zc,X3];simp[N]
  have p8:o.ob 8=some ⟨ub,.cells (yP (h.ts[i]).ops[k])⟩:=by rw[a];simp only[yf,n8,zc,X3];simp[yP]
  have p3:o.ob (2*st.nx+3)=some ⟨st.nx+1,.dfr⟩:=by rw[a];simp only[yf,S,b0,zc,X3];exact P
  have p1:o.ob (2*st.nx+1)=some ⟨st.nx,.loop .busy none⟩:=by rw[a];simp
  have fr:o.ro=0:=by rw[a]
  have fn:ub<=o.nx:=by rw[a];simp;omega
  clear a
  simp[BD70,f1,f4,p2,p8,j0,yP,ya]
  refine Xo (vs:=[.agg (ya h),.agg (yP (h.ts[i]).ops[k])]) (by simp[ya,yP]) rfl (by simp[ya,yP]) (by simpa[ya,yP] using ev92 h (h.ts[i]).ops[k]) ?_
  have m1:¬2*st.nx+1=4:=zO
  have m3:¬2*st.nx+3=4:=zO
  cases hb:opB h (h.ts[i]).ops[k]
  ·simp[f2,p4,j0,fr,m1,p1,We,j2]
   intro j L b9 y
   have T:∀n,(∀m,o.nx+64+64+64+64+64<=m->n≠2*m+1)->j n=_:=y
   have M:(jcw h).all (opB h)=false:=by
    rw[gi]
    exact⟨_,ct.2 ⟨_,av hi,av hk⟩,by rw[hb];decide⟩
   have x:∀{k:Nat},k≠2*st.nx+1->(if 2*st.nx+1=k then none else j k)=j k:=λhk=>za λe=>hk e.symm
   refine⟨.done,some .ret,?_,zS,?_⟩
   ·rw[T _ (λm v=>by omega)]
    simp
   ·have:=hQ .ret (λk=>if 2*st.nx+1=k then none else j k) o.tk L 4 (by rw[x Z,T _ (λm v=>by omega)];simp only[yf,Z,zc,X3];simp[p2]) (by rw[x X,T _ (λm v=>by omega)];simp only[yf,X,zc,X3];simp)
     (by rw[x S,T _ (λm v=>by omega)];simp only[yf,S,m3,zc,X3];exact p3) zO (Or.inr ⟨M,rfl,rfl⟩)
    rw[K,I]at this
    exact this
  ·simp[p1,We]
   refine⟨λO d B b p=>?_,?_,?_,?_,zO⟩
   ·rcases p with z|⟨rfl,z⟩
    ·exact q O d B b (Or.inl z)
    ·rcases bz.1 z with h''|rfl
     ·exact q _ d B b (Or.inr ⟨rfl,h''⟩)
     ·exact hb
   ·rw[yf,za S];exact p3
   ·rw[yf,za Z];exact p2
   ·rw[yf,za X];exact p4
 ·rintro ob tk ub ⟨q,D,P,G,N,g6⟩
  refine⟨.ready,none,D,zS,zO,?_⟩
  exact hQ .nrm _ _ _ 0 ((j3x ob zO).trans G) ((j3x ob zO).trans N) ((j3x ob zO).trans P) g6 (Or.inl ⟨jss q,rfl,rfl⟩)
 ·refine⟨λO d B b p=>by omega,?_,?_,?_,?_,zO⟩
  ·simp
  ·simp[yf]
  ·have H:¬2=2*st.nx+1:=zO
   have F:¬2=2*st.nx+3:=zO
   simp only[yf,H,F,zc,o2]
  ·have H:¬4=2*st.nx+1:=zO
   have F:¬4=2*st.nx+3:=zO
   simp only[yf,H,F,zc,o4]
def rc (l:List Op'):Nat:=(l.filter λo=>!o.w).length
def rcT (l:List Txn'):Nat:=rc (l.flatMap (·.ops))
def rc_le (l:List Op'):rc l<=l.length:=bR _ _
def rc_app (a b:List Op'):rc (a++b)=rc a+rc b:=by simp[rc]
section
variable {E:Env}{Yf:YF}{st:St}{ub:Nat}{K:St->Nat->Prop}{d:Option Nat}{nm:Bool}
def YS {sz a u n:Nat}{nl:Bool}{cs ys:List V}{s x:A}(j:yc E st.tm s=.sl (some (u,sz)) nl n cs) (e:st.tk u=true) (k:jE st.ob sz (yc E st.tm x)=some ys) (c:ys≠[]) (b:cs.length=n*sz) (g:0<sz)
 (hp:ys.all V.pureLeaf=true) (i:(n+ys.length/sz)*a<=140737488355328) (f:n+ys.length/sz<=140737488355328) (h:Q6 K st d ub { v:=.sl (some (ub,sz)) false (n+ys.length/sz) (cs++ys),del:=some u,add:=[ub] }) :
 j5 E Yf ⟨d,.append false sz a s x,none,nm⟩ st ub K:=by
 rw[jR _ rfl rfl];simp only[yR,j,k,am,za c,bZ,ak,zc];rw[zb ⟨b,g,hp,i,f⟩,zb (by simp[e]),jJ];exact h
def ji9 {sz a:Nat}{ys:List V}{s x:A}(g:yc E st.tm s=.sl none true 0 []) (i:jE st.ob sz (yc E st.tm x)=some ys) (b:ys≠[]) (e:0<sz)
 (hp:ys.all V.pureLeaf=true) (f:(0+ys.length/sz)*a<=140737488355328) (c:0+ys.length/sz<=140737488355328) (h:Q6 K st d ub { v:=.sl (some (ub,sz)) false (0+ys.length/sz) ([]++ys),add:=[ub] }) :
 j5 E Yf ⟨d,.append false sz a s x,none,nm⟩ st ub K:=by
 rw[jR _ rfl rfl];simp only[yR,g,i,am,za b,bZ,ak,zc];rw[zb ⟨zS,e,hp,f,c⟩,zb trivial,jJ];exact h
def jU {sz n:Nat}{zero:List V}{a:List (Nat×Nat×A)}{cs:List V}(b:fill zero (jw (yc E st.tm) a)=some cs) (c:cs.length=n*sz) (hp:(cs.map V.strip1).all V.pureLeaf=true)
 (h:Q6 K st d ub { v:=.sl (some (ub,sz)) false n (cs.map V.strip1),add:=[ub] }):j5 E Yf ⟨d,.buildSl false sz zero a n,none,nm⟩ st ub K:=by
 rw[jR _ rfl rfl];simp only[yR,b,am,ak,zc];rw[zb ⟨c,hp⟩,jJ];exact h
end
def jk {b:Type}{f:b->List V}{k:Nat}(c:∀a,(f a).length=k) (l:List b) {i o:Nat}(h:i<l.length) (e:o<k):(l.flatMap f)[i*k+o]? = (f l[i])[o]?:=by have:=Xs c l i h;rw[<- this,cI,zb e,bt]
def yq (p:Txn'->Bool) (l:List Txn'):Nat->List Int
 |0=>[]
 |i+1=>yq p l i++(match l[i]? with|some t=>if p t then [(i:Int)] else []|none=>[])
def JX (p:Txn'->Bool) (l:List Txn'):∀i,(yq p l i).length<=i
 |0=>by simp[yq]
 |i+1=>by have:=JX p l i;simp only[yq,au];split;split<;>simp<;>omega;simp;omega
def ye (n:Int):List V:=[.int .i64 n]
def Jw {p:Txn'->Bool}{l:List Txn'}{i:Nat}(h:i<l.length):yq p l (i+1)=yq p l i++(if p l[i] then [(i:Int)] else []):=by simp[yq,aa h]
@[simp] theorem jA (n:Int):(ye n).length=1:=rfl
def jls {n u m:Nat}{st:St}{cs:List V}(a:st.df=[]) (h:st.tm n=.sl (some (u,1)) false m cs) (b:st.tk u=true):jcj [.t n] (.ret,st)=some (.sl (some (0,1)) false m cs):=by simp only[jcj,W4 a,W0 a,zd,bJ,fT,jy,h];simp[WE,JR,X7,jr,V.toks,V.tok,yG,b]
def X9 (t:Txn'):Bool:=t.f==3
def Xg (h:Hist'):List Int:=yq X9 h.ts h.ts.length
def ev49 (h:Hist') (t:h.ts.length<=1000):Ev E 49 [.agg (ya h)] (.sl (some (0,1)) false (Xg h).length ((Xg h).flatMap ye)):=by
 refine jV rfl ?_;conv in(occs:=*)F49=>all_goals cbv
 simp[ya];refine jU (cs:=[]) rfl rfl rfl ?_;simp;refine WV (n:=h.ts.length) (λk s=>∃i u,k=h.ts.length-i/\i<=h.ts.length/\s.df=[]/\s.fb=0/\s.ro=0/\s.tm 1=.ptr 2 0 0/\s.ob 2=some ⟨0,.cells (ya h)⟩/\s.tm 4=.int .i64 i/\s.tk u=true /\
  s.tm 3=.sl (some (u,1)) false (yq X9 h.ts i).length ((yq X9 h.ts i).flatMap ye))
  ⟨0,128,by simp[yq,ya]⟩ ?_
 rintro k s ⟨i,u,rfl,r,l,b,c,g,j,e,m,o⟩;by_cases a:i<h.ts.length;simp[g,j,e,j0,ya,a,j6 j9,jk j9,jt];have q:=JX X9 h.ts i;cases p:h.ts[i].f==3;simp[e];refine⟨h.ts.length-(i+1),zO,i+1,⟨rfl,zO,l,b,c,g,by simpa[ya] using j,by rw[ji zO zO];simp,u,m,?_⟩⟩;rw[o,Jw a,X9,p];simp;simp[o,e];refine jU (cs:=[.int .i64 i]) (by simp[j2]) rfl rfl ?_;simp;refine YS (u:=u) (nl:=false) (n:=(yq X9 h.ts i).length) (cs:=(yq X9 h.ts i).flatMap ye) (ys:=[.int .i64 i]) zS (by simp[jx,m]) (by simp[jE]) zS (by rw[j3 jA]) zQ rfl zP zP ?_;simp[e,l,b,c,g,j,ya];refine⟨h.ts.length-(i+1),zO,i+1,rfl,zO,by rw[ji zO zO];simp,Or.inl ?_⟩;rw[Jw a,X9,p];simp[ye];have:i=h.ts.length:=zO;subst this;simp[g,j,e,j0,ya];exact jls (u:=u) (zU l) (by simp[o,Xg]) (zU m)
def WP (r:Int):Bool:=decide (48<=r)&&decide (r<=57)
def ev200 (r:Int):Ev E 200 [.int .i32 r] (.bool (WP r)):=by
 refine jV rfl ?_;unfold WP;by_cases h:48<=r
 ·conv in(occs:=*)F200=>all_goals cbv
  simp[h];exact j4 rfl zS rfl
 ·conv in(occs:=*)F200=>all_goals cbv
  simp[h];exact j4 rfl zS rfl
def ev321 (r:Int):Ev E 321 [.int .i32 r] (.bool false):=by
 refine jV rfl ?_;conv in(occs:=*)F321=>all_goals cbv
 simp;exact j4 rfl zS rfl
def jyo (a b:Int):Int:=if a<b then -1 else if b<a then 1 else 0
def ev314 (a b:Int):Ev E 314 [.int .i32 a,.int .i32 b] (.int .i64 (jyo a b)):=by
 refine jV rfl ?_;conv in(occs:=*)F314=>all_goals cbv
 simp;refine Xo (vs:=[.int .i32 a]) zS rfl rfl (ev321 a) ?_;simp;refine Xo (vs:=[.int .i32 b]) zS rfl rfl (ev321 b) ?_;unfold jyo;by_cases h:a<b;simp[h];exact j4 rfl zS rfl;by_cases c:b<a;simp[h,c];exact j4 rfl zS rfl;simp[h,c];exact j4 rfl zS rfl
def jcs (r:Int):List V:=[.int .i32 r]
@[simp] theorem jex (n:Int):(jcs n).length=1:=rfl
def jlw:List Int->List Int->Int
 |[],[]=>0
 |[],_::_=>-1
 |_::_,[]=>1
 |a::x,b::y=>if jyo a b=0 then jlw x y else jyo a b
def jmr (l:List Int) {i:Nat}(h:i<l.length):(l.flatMap jcs)[i]? = some (.int .i32 l[i]):=by have:=jk (f:=jcs) jex l h (by decide:0<1);rw[bE,br]at this;rw[this];rfl
def ev290 (nx q:Bool) (x y:List Int) (u:x.length<=140737488355328):Ev E 290 [yj nx jcs x,yj q jcs y] (.int .i64 (jlw x y)):=by
 refine jV rfl ?_;conv in(occs:=*)F290=>all_goals cbv
 simp;refine WV (n:=x.length) (λk s=>∃i,k=x.length-i/\i<=x.length/\i<=y.length/\s.df=[]/\s.tm 0=yj nx jcs x/\s.tm 1=yj q jcs y/\s.tm 9=yj nx jcs x/\s.tm 10=.int .i64 x.length/\s.tm 11=.int .i64 i/\jlw (x.drop i) (y.drop i)=jlw x y)
  ⟨0,zS⟩ ?_
 rintro k s ⟨i,rfl,t,r,h,m,j,o,d,f,b⟩;by_cases c:i<x.length;rw[bj c]at b;by_cases a:i<y.length;rw[bj a,jlw]at b;have g:¬(y.length:Int)<=i:=zO;simp[j,o,d,f,c,g,a,j6 jex,jmr x c,jmr y a];refine Xo (vs:=[.int .i32 x[i],.int .i32 y[i]]) zS rfl rfl (ev314 x[i] y[i]) ?_;by_cases l:jyo x[i] y[i]=0;rw[zb l]at b;simp[l,m,j,o,d,f,h];exact⟨x.length-(i+1),zO,i+1,rfl,zO,zO,by rw[ji zO zO];simp,b⟩;rw[za l]at b;have p:(jyo x[i] y[i] != 0)=true:=by simpa using l
 simp[p];exact j4 (zU h) (by simp[b]) rfl;have g:(y.length:Int)<=i:=zO;have e:y.drop i=[]:=bB zO;rw[e,jlw]at b;simp[j,o,d,f,c,g,j6 jex,jmr x c];exact j4 (zU h) (by simp[b]) rfl;have:i=x.length:=zO;subst this;rw[fD]at b;by_cases a:x.length<y.length;rw[bj a,jlw]at b;simp[m,j,d,f,a];exact j4 (zU h) (by simp[b]) rfl;have e:y.drop x.length=[]:=bB zO;rw[e,jlw]at b;simp[m,j,d,f,a];exact j4 (zU h) (by simp[b]) rfl
def JK (s:List UInt8):List Int:=(XQ s s.length 0).map λr=>((r:Nat):Int)
def jp1 {E:Env}{Yf:YF}{st:St}{ub:Nat}{K:St->Nat->Prop}{d:Option Nat}{nm:Bool}{x:A}{s:List UInt8}(f:yc E st.tm x=.str s) (c:(JK s).length<=70368744177664)
 (h:Q6 K st d ub { v:=.sl (some (ub,1)) false (JK s).length ((JK s).flatMap jcs),add:=[ub] }):j5 E Yf ⟨d,.runesOfStr x,none,nm⟩ st ub K:=by
 have e:(XQ s s.length 0).map (λr=>V.int .i32 (r:Nat))=(JK s).flatMap jcs:=by
  rw[JK,List.flatMap_map];generalize XQ s s.length 0=l;induction l with
  |nil=>rfl
  |cons r l b=>simp only[bi,ba,b,jcs];rfl
 have a:(JK s).length=(XQ s s.length 0).length:=by simp[JK]
 rw[jR _ rfl rfl];simp only[yR,f];rw[<- a,zb c,jJ,e];exact h
def ev253 (a b:List UInt8) (c:(JK a).length<=1000000) (d:(JK b).length<=1000000):Ev E 253 [.str a,.str b] (.int .i64 (jlw (JK a) (JK b))):=by
 refine jV rfl ?_;conv in(occs:=*)F253=>all_goals cbv
 simp;refine jp1 (s:=a) zS zO ?_;simp;refine jp1 (s:=b) zS zO ?_;simp;refine Xo (vs:=[.sl (some (128,1)) false (JK a).length ((JK a).flatMap jcs),.sl (some (256,1)) false (JK b).length ((JK b).flatMap jcs)]) zS rfl rfl (ev290 false false _ _ zO) ?_;simp;exact j4 rfl zS rfl
def ev206 (a b:List UInt8) (c:(JK a).length<=1000000) (d:(JK b).length<=1000000):Ev E 206 [.str a,.str b] (.bool (decide (jlw (JK a) (JK b)<0))):=by
 refine jV rfl ?_;conv in(occs:=*)F206=>all_goals cbv
 simp;refine Xo (vs:=[.str a,.str b]) zS rfl rfl (ev253 a b c d) ?_;simp;exact j4 rfl zS rfl
def j5b (s:List UInt8):Bool:=s==[98,101,103,105,110]||s==[114,101,97,100]||s==[119,114,105,116,101]||s==[111,107]||s==[102,97,105,108]||s==[105,110,102,111]||s==[110,105,108]
def ev197 (s:List UInt8):Ev E 197 [.str s] (.bool (j5b s)):=by
 refine jV rfl ?_;unfold j5b;generalize a:(s==[98,101,103,105,110])=b1;generalize b:(s==[114,101,97,100])=b2;generalize c:(s==[119,114,105,116,101])=b3;generalize d:(s==[111,107])=b4;generalize e:(s==[102,97,105,108])=b5;generalize f:(s==[105,110,102,111])=b6;generalize g:(s==[110,105,108])=b7;cases b1
 ·cases b2
  ·cases b3
   ·cases b4
    ·cases b5
     ·cases b6
      ·cases b7;all_goals (simp[F197,a,b,c,d,e,f,g];exact j4 rfl zS rfl)
      simp[F197,a,b,c,d,e,f];exact j4 rfl zS rfl
     simp[F197,a,b,c,d,e];exact j4 rfl zS rfl
    simp[F197,a,b,c,d];exact j4 rfl zS rfl
   simp[F197,a,b,c];exact j4 rfl zS rfl
  simp[F197,a,b];exact j4 rfl zS rfl
 simp[F197,a];exact j4 rfl zS rfl
def ev189 (s:List UInt8):Ev E 189 [.str s] (.bool (j5b s)):=by
 refine jV rfl ?_;unfold j5b;generalize a:(s==[98,101,103,105,110])=b1;generalize b:(s==[114,101,97,100])=b2;generalize c:(s==[119,114,105,116,101])=b3;generalize d:(s==[111,107])=b4;generalize e:(s==[102,97,105,108])=b5;generalize f:(s==[105,110,102,111])=b6;generalize g:(s==[110,105,108])=b7;cases b1
 ·cases b2
  ·cases b3
   ·cases b4
    ·cases b5
     ·cases b6
      ·cases b7;all_goals (simp[F189,a,b,c,d,e,f,g];exact j4 rfl zS rfl)
      simp[F189,a,b,c,d,e,f];exact j4 rfl zS rfl
     simp[F189,a,b,c,d,e];exact j4 rfl zS rfl
    simp[F189,a,b,c,d];exact j4 rfl zS rfl
   simp[F189,a,b,c];exact j4 rfl zS rfl
  simp[F189,a,b];exact j4 rfl zS rfl
 simp[F189,a];exact j4 rfl zS rfl
def jcv (r:Int):Bool:=decide (127<r)||(r==95)||WP r||(decide (97<=r)&&decide (r<=122))||(decide (65<=r)&&decide (r<=90))
def ev199 (r:Int):Ev E 199 [.int .i32 r] (.bool (jcv r)):=by
 refine jV rfl ?_;unfold jcv;by_cases c:127<r
 ·conv in(occs:=*)F199=>all_goals cbv
  simp[c];exact j4 rfl zS rfl
 cases d:(r==95)
 ·conv in(occs:=*)F199=>all_goals cbv
  simp[c,d];refine Xo (vs:=[.int .i32 r]) zS rfl rfl (ev200 r) ?_;cases g:WP r;by_cases b:97<=r;by_cases e:r<=122;simp[b,e];exact j4 rfl zS rfl;have a:65<=r:=zO;have f:¬r<=90:=zO;simp[b,e,a,f];exact j4 rfl zS rfl;by_cases a:65<=r;simp[b,a];exact j4 rfl zS rfl;simp[b,a];exact j4 rfl zS rfl;simp;exact j4 rfl zS rfl
 ·conv in(occs:=*)F199=>all_goals cbv
  simp[c,d];exact j4 rfl zS rfl
end Go.Pv.T
