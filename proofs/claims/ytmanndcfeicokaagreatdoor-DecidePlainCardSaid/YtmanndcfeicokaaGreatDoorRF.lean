/- Part. -/
import Derived.Test.YtmanndcfeicokaaGreatDoorRE
import Derived.Sort.AssemblyPlain
import Derived.Laws.Bits64
set_option maxRecDepth 100000
set_option maxHeartbeats 8000000
set_option linter.all false
namespace Go.Pv.T
open Go Go.Pv
def Grow {α:Type}(tk:Nat->Bool) (lo nx:Nat) (f:α->List V) (sz:Nat) (l:List α) (v:V):Prop :=
 (l=[]/\v=.sl none true 0 [])\/(l≠[]/\∃u,v=.sl (some (u,sz)) false l.length (l.flatMap f)/\tk u=true/\lo<=u/\u<nx)
def Grow.nil {a:Type}(tk:Nat->Bool) (lo nx:Nat) (f:a->List V) (sz:Nat):Grow tk lo nx f sz [] (.sl none true 0 []):=.inl ⟨rfl,rfl⟩
def Grow.form {c:Type}{tk:Nat->Bool}{lo nx:Nat}{f:c->List V}{sz:Nat}{l:List c}{v:V}(h:Grow tk lo nx f sz l v):∃t,v=.sl t l.isEmpty l.length (l.flatMap f):=by
 rcases h with⟨rfl,rfl⟩|⟨b,u,rfl,_⟩;exact⟨none,rfl⟩;cases l with
 |nil=>exact zf rfl b
 |cons a l=>exact⟨_,rfl⟩
def Grow.mono {e:Type}{tk a:Nat->Bool}{lo nx nx':Nat}{f:e->List V}{sz:Nat}{l:List e}{v:V}(h:Grow tk lo nx f sz l v) (g:∀u,lo<=u->u<nx->tk u=true->a u=true) (m:nx<=nx'):Grow a lo nx' f sz l v:=by rcases h with h|⟨b,u,j,k,c,i⟩;exact .inl h;exact .inr ⟨b,u,j,g u c i k,c,zO⟩
section
variable {E:Env}{Yf:YF}{st:St}{ub:Nat}{K:St->Nat->Prop}{d:Option Nat}{nm:Bool}
def Xo {j:Type}{f:j->List V}{sz b lo hi:Nat}{l:List j}{a:j}{v:V}{s x:A}(r:Grow st.tk lo hi f sz l v) (o:ye E st.tm s=v) (p:yp st.ob sz (ye E st.tm x)=some (f a)) (i:∀a,(f a).length=sz) (k:0<sz)
 (hp:(f a).all V.pureLeaf=true) (n:(l.length+1)*b<=140737488355328) (m:l.length+1<=140737488355328)
 (h:∀del:Option Nat,(∀u,del=some u->lo<=u/\u<hi)->QP K st d ub { v:=.sl (some (ub,sz)) false (l.length+1) ((l++[a]).flatMap f),del:=del,add:=[ub] }):j8 E Yf ⟨d,.append false sz b s x,none,nm⟩ st ub K:=by
 have g:f a≠[]:=λe=>by have:=i a;rw[e]at this;simp at this;omega
 have c:(f a).length/sz=1:=by rw[i];exact gD k
 rcases r with⟨rfl,rfl⟩|⟨y,u,rfl,t,q,w⟩;refine jkq o p g k hp (by rw[c];simpa using n) (by rw[c];simp) ?_;rw[c];have:=h none (λu e=>by cases e);simpa using this;refine Jm o t p g (by rw[j1 i]) k hp (by rw[c];exact n) (by rw[c];exact m) ?_;rw[c];have:=h (some u) (λz e=>by cases e;exact⟨q,w⟩);simpa using this
end
def Qh {b:Type}{f:b->List V}{k:Nat}(c:∀a,(f a).length=k) (ob:ZO) (nl:Bool) (l:List b):yp ob k (yl nl f l)=some (l.flatMap f):=by simp only[yl,yp,j1 c,zd]
def WQ (res:List ARes) (P:V->Prop):Ex->St->Prop:=λe s=>∃r,jb4 res (e,s)=some r/\P r
def JX {f:FuncId}{af:AF}{args:List V}{P:V->Prop}(b:E.fc f=some af) (e:af.body.one=true) (h:wpC E YT af.body (ja4 args) (WQ af.res P)):∃r,Ev E f args r/\P r:=by obtain⟨n,x,g,r,d,c⟩:=jmg e h λ_=>rfl;refine⟨r,⟨n+1,?_⟩,c⟩;simp only[yL,b,ah];rw[show ji E (yL E n) noY n af.body (ja4 args)=some [x] from g];exact jkd (cY _ _) (λy a=>by rw[ae]at a;subst a;exact d)
end Go.Pv.T
namespace Go.Pv.T
open Go Go.Pv
end Go.Pv.T
namespace Go.Pv.T
open Go Go.Pv
section
variable {E:Env}{st:St}{ub:Nat}{K:List FP->St->Prop}{d:Option Nat}{nm:Bool}{r:List AOpr}
def jdz {sz n:Nat}{zero:List V}{a:List (Nat×Nat×A)}{cs:List V}(b:fill zero (JE (ye E st.tm) a)=some cs) (c:cs.length=n*sz) (hp:(cs.map V.strip1).all V.pureLeaf=true)
 (h:YW E r K (ye E st.tm) (.buildSl false sz zero a n) st d ub { v:=.sl (some (ub,sz)) false n (cs.map V.strip1),add:=[ub] }):jE E (⟨d,.buildSl false sz zero a n,none,nm⟩::r) st ub K:=by
 rw[jw rfl];simp only[yU,b,ah,ag,zc];rw[zb ⟨c,hp⟩,jG];exact h
end
@[simp] theorem str_strip1 (s:List UInt8):(V.str s).strip1=.str s:=rfl
def endH1 {st:St}{p l u:Nat}{x y z:V}{g:Hist'}(k:st.df=[]) (hp:st.tm p=.ptr l u 0) (m:st.ob l=some ⟨u,.cells [x,y,z]⟩)
 (q:jdd st x g.sn g.ss.length (g.ss.flatMap X2)) (n:jdd st y g.kn g.ks.length (g.ks.flatMap X2)) (w:jdd st z g.tn g.ts.length (g.ts.flatMap jf)):∃r,jb4 [.cell p (some 3)] (.ret,st)=some r/\jvw r g:=by
 have t:(ya st.ob l u)=some [x,y,z]:=by simp[ya,m]
 have d:[ARes.cell p (some 3)].mapM (ju st)=some [.agg [x,y,z]]:=by simp[ju,hp,t]
 obtain⟨a,s,i⟩:=q (yJ (List.flatMap V.toks [.agg [x,y,z]])) 0;obtain⟨b,o,f⟩:=n (yJ (List.flatMap V.toks [.agg [x,y,z]])) 1;obtain⟨c,v,h⟩:=w (yJ (List.flatMap V.toks [.agg [x,y,z]])) 2;refine⟨.agg [.sl a g.sn g.ss.length (g.ss.flatMap X2),.sl b g.kn g.ks.length (g.ks.flatMap X2),.sl c g.tn g.ts.length (g.ts.flatMap jf)],?_,a,b,c,rfl,?_⟩;simp only[jb4,Yk k,Yg k,zd,d,ah,W6];generalize yJ (List.flatMap V.toks [.agg [x,y,z]])=keep at *;simp only[Jd,XF,Xv,s,o,v,bL,ah,aU];have j:yJ (List.flatMap V.toks [.agg [.sl a g.sn g.ss.length (g.ss.flatMap X2),.sl b g.kn g.ks.length (g.ks.flatMap X2),.sl c g.tn g.ts.length (g.ts.flatMap jf)]])=true:=by
  have e:∀x y z:V,List.flatMap V.toks [.agg [x,y,z]]=x.tok++(y.tok++z.tok):=λx y z=>by simp[V.toks]
  rw[e,jdi,jdi,jdi];rcases i with rfl|⟨_,rfl⟩<;>rcases f with rfl|⟨_,rfl⟩<;>rcases h with rfl|⟨_,rfl⟩<;>rfl
 show(if yJ (List.flatMap V.toks [.agg [.sl a g.sn g.ss.length (g.ss.flatMap X2),.sl b g.kn g.ks.length (g.ks.flatMap X2),.sl c g.tn g.ts.length (g.ts.flatMap jf)]])=true then some (V.agg [.sl a g.sn g.ss.length (g.ss.flatMap X2),.sl b g.kn g.ks.length (g.ks.flatMap X2),.sl c g.tn g.ts.length (g.ts.flatMap jf)]) else none)=_;rw[zb j];intro p hp;simp only[aQ]at hp;rcases hp with(hp|hp)|hp;rcases i with rfl|⟨_,rfl⟩;simp at hp;simp at hp;subst hp;simp;rcases f with rfl|⟨_,rfl⟩;simp at hp;simp at hp;subst hp;simp;rcases h with rfl|⟨_,rfl⟩;simp at hp;simp at hp;subst hp;simp
def jt8 {ub:Nat}{r:V}{g:Hist'}(h:jvw r g):∃a b c add,Xq ub r=some { v:=.agg [.sl a g.sn g.ss.length (g.ss.flatMap X2),.sl b g.kn g.ks.length (g.ks.flatMap X2),.sl c g.tn g.ts.length (g.ts.flatMap jf)],add:=add }:=by
 obtain⟨a,b,c,rfl,l⟩:=h;have e:∀x y z:V,yy (.agg [x,y,z])=x.tok++(y.tok++z.tok):=λx y z=>by simp[yy,V.toks]
 have j:(yy (.agg [.sl a g.sn g.ss.length (g.ss.flatMap X2),.sl b g.kn g.ks.length (g.ks.flatMap X2),.sl c g.tn g.ts.length (g.ts.flatMap jf)])).all (λi=>Nat.blt i 64)=true:=by
  rw[e,aw];intro i o;have:∃p∈a.toList++b.toList++c.toList,p.1=i:=by rw[aQ,aQ,tokm,tokm,tokm]at o;rcases o with⟨p,d,h⟩|⟨p,d,h⟩|⟨p,d,h⟩;exact⟨p,by simp[d],h⟩;exact⟨p,by simp[d],h⟩;exact⟨p,by simp[d],h⟩
  obtain⟨p,d,rfl⟩:=this;rw[dr];exact l p d
 have f:∀(t:Option (Nat×Nat)) (m:Bool) (n:Nat) (cs:List V),∃s,Xz ub (.sl t m n cs)=.sl s m n cs:=λt m n cs=>by
  cases t with
  |none=>exact⟨none,rfl⟩
  |some p=>exact⟨_,rfl⟩
 obtain⟨D,B⟩:=f a g.sn g.ss.length (g.ss.flatMap X2);obtain⟨u,w⟩:=f b g.kn g.ks.length (g.ks.flatMap X2);obtain⟨q,F⟩:=f c g.tn g.ts.length (g.ts.flatMap jf);refine⟨D,u,q,(yy (.agg [.sl a g.sn g.ss.length (g.ss.flatMap X2),.sl b g.kn g.ks.length (g.ks.flatMap X2),.sl c g.tn g.ts.length (g.ts.flatMap jf)])).map (ub + ·),?_⟩;rw[Xq,zb j];have k:Qw ub (.agg [.sl a g.sn g.ss.length (g.ss.flatMap X2),.sl b g.kn g.ks.length (g.ks.flatMap X2),.sl c g.tn g.ts.length (g.ts.flatMap jf)]) =
  .agg [Xz ub (.sl a g.sn g.ss.length (g.ss.flatMap X2)),Xz ub (.sl b g.kn g.ks.length (g.ks.flatMap X2)),Xz ub (.sl c g.tn g.ts.length (g.ts.flatMap jf))]:=rfl
 rw[k,B,w,F]
def kS_evV {E:Env}{Yf:YF}{st:St}{ub:Nat}{K:St->Nat->Prop}{d:Option Nat}{nm:Bool}{q:A}{xs:List A}{f:FuncId}{first captured args:List V}{v:V}(a:Ev E f args v) (e:ye E st.tm q=.fn (.func f) first captured)
 (b:(first++xs.map (ye E st.tm)++captured).map V.strip=args) (c:E.sh nm f=false) (hp:args.all V.pureTop=true) (h:wpD (Xq ub v) (QP K st d ub)):j8 E Yf ⟨d,.callV q xs,none,nm⟩ st ub K:=by
 refine jv8 e ⟨⟨c,?_⟩,v,by rw[b];exact a,h⟩;rw[<- b,dN]at hp;exact hp
@[simp] theorem fn_strip0 (f:Fn):(V.fn f [] []).strip=.fn f [] []:=rfl
@[simp] theorem j92 (f:Fn):(V.fn f [] []).pureTop=true:=rfl
def SlR (v:V) (nl:Bool) (n:Nat) (cs:List V):Prop:=∃t:Option (Nat×Nat),v=.sl t nl n cs/\∀p∈t.toList,p.1<64
def j5t {st:St}{n k:Nat}{t:Option (Nat×Nat)}{nl:Bool}{cs:List V}(g:st.df=[]) (h:st.tm n=.sl t nl k cs):∃r,jb4 [.t n] (.ret,st)=some r/\SlR r nl k cs:=by
 have b:[ARes.t n].mapM (ju st)=some [.sl t nl k cs]:=by simp[ju,h]
 obtain⟨a,i,c⟩:=ja st t nl k cs (yJ (List.flatMap V.toks [.sl t nl k cs])) 0;refine⟨.sl a nl k cs,?_,a,rfl,?_⟩;simp only[jb4,Yk g,Yg g,zd,b,ah,W6];generalize yJ (List.flatMap V.toks [.sl t nl k cs])=keep at *;have e:XF st keep 0 (.sl t nl k cs)=some (.sl a nl k cs):=i;simp only[Jd,e,ah,aU];have f:yJ (List.flatMap V.toks [.sl a nl k cs])=true:=by rcases c with rfl|⟨_,rfl⟩<;>rfl
 show(if yJ (List.flatMap V.toks [.sl a nl k cs])=true then some (V.sl a nl k cs) else none)=_;rw[zb f];intro p d;rcases c with rfl|⟨_,rfl⟩;simp at d;simp at d;subst d;simp
def jj5 {ub:Nat}{v:V}{nl:Bool}{n:Nat}{cs:List V}(h:SlR v nl n cs):∃t add,Xq ub v=some { v:=.sl t nl n cs,add:=add }:=by
 obtain⟨t,rfl,a⟩:=h;cases t with
 |none=>exact⟨none,[],rfl⟩
 |some p=>have:=a p zS;refine⟨some (ub+p.1,p.2),[ub+p.1],?_⟩;rw[Xq,zb (by simp[yy,V.toks,V.tok,dr,this])];rfl
def slE {st:St}{n k:Nat}{t:Option (Nat×Nat)}{nl:Bool}{cs:List V}{P:V->Prop}(b:∀r,SlR r nl k cs->P r) (a:st.df=[]) (h:st.tm n=.sl t nl k cs):WQ [.t n] P .ret st:=by obtain⟨r,d,c⟩:=j5t a h;exact⟨r,d,b r c⟩
def j09 (l:List Int) (v:V):Prop:=∃nl,SlR v nl l.length (l.flatMap yf)
def ev95 (t:Txn'):Ev E 95 [.agg (jf t)] (.bool (XU t)):=by
 refine jT rfl ?_;conv in(occs:=*)F95=>all_goals cbv
 simp[jf,ya];exact j3 rfl (by simp[XU]) rfl
def W8 {g:Hist'}(a:Yt g=true):errH g=0:=by unfold errH;rw[a];rfl
def ev94 {g:Hist'}(B:Small g) (J:Yt g=true):∃v,Ev E 94 [.agg (yb g),.fn (.func 95) [] []] v/\j09 (Y5 g) v:=by
 have n:=ev53 B;rw[W8 J]at n;have I:=B.ts;refine JX rfl zQ ?_;conv in(occs:=*)F94=>all_goals cbv
 simp[yb,ya];refine jH n zI rfl zI ?_;simp[ya];refine j5 [(4,7),(14,26)] g.ts.length (λi s=>s.tm 14=.int .i64 i/\Grow s.tk 0 s.nx yf 1 (yu XU g.ts i) (s.tm 5)) rfl rfl ⟨zS,by simp[yu];exact Grow.nil _ _ _ _ _⟩ ?_;rintro i s hi ⟨j,y⟩ f;have K:s.tm 1=.fn (.func 95) [] []:=by rw[f.t 1 zS];simp
 have x:s.tm 12=yl g.tn jf g.ts:=by rw[f.t 12 zS];simp
 have m:s.tm 13=.int .i64 g.ts.length:=by rw[f.t 13 zS];simp
 have F:s.df=[]:=by rw[f.d];simp
 have H:s.fb=0:=by rw[f.b];simp
 have fr:s.ro=0:=by rw[f.r];simp
 clear f;by_cases e:i<g.ts.length;have z:=jR e zO;have c:=Jn (p:=XU) e;obtain⟨t,q⟩:∃t,g.ts[i]=t:=⟨_,rfl⟩;rw[q]at c;have G:=Jk XU g.ts i;simp[j,x,m,e,j4 j7,jd j7,q,jf,ya,H,fr,j2,K];refine kS_evV (f:=95) (first:=[]) (captured:=[]) (ev95 t) zS (by simp[jf]) rfl (by simp[jf]) ?_;cases hi:XU t;rw[hi]at c;simp only[ag,zc,aL]at c;simp[j,z];exact⟨e,by rw[c];exact y.mono (λu _ _ h=>by simpa[jk] using h) zO⟩;rw[hi]at c;simp only[zd]at c;simp;refine jF (cs:=[.int .i64 i]) (by simp[j2]) rfl rfl ?_;simp;refine Xo (f:=yf) (lo:=0) (hi:=s.nx) (l:=yu XU g.ts i) (a:=(i:Int)) (v:=s.tm 5) (y.mono (λu _ _ h=>by simp[jb,h]) zK) zS (by simp[yp,yf]) j6 zQ rfl zO zO (λL D=>?_);have w:yu XU g.ts (i+1)≠[]:=by rw[c];simp
 have o:(yu XU g.ts i).length+1=(yu XU g.ts (i+1)).length:=by rw[c];simp
 rw[<- c,o];simp[j,z];exact⟨e,.inr ⟨w,_,rfl,by simp[jb],cw _,zO⟩⟩;have:i=g.ts.length:=zO;subst this;obtain⟨t,q⟩:=y.form;simp[j,m];exact slE (t:=t) (nl:=(yu XU g.ts g.ts.length).isEmpty) (k:=(Y5 g).length) (cs:=(Y5 g).flatMap yf) (λr h=>⟨_,h⟩) (by simp[F]) (by simp[q,Y5])
def ev54 {g:Hist'}(e:Small g) (b:Yt g=true):∃v,Ev E 54 [.agg (yb g)] v/\j09 (Y5 g) v:=by
 obtain⟨v,a,nl,c⟩:=ev94 e b;refine JX rfl zQ ?_;conv in(occs:=*)F54=>all_goals cbv
 simp[yb,ya];refine jH a zI rfl zI ?_;obtain⟨t,add,d⟩:=jj5 (ub:=192) c;rw[d];simp;exact slE (t:=t) (nl:=nl) (k:=(Y5 g).length) (cs:=(Y5 g).flatMap yf) (λr h=>⟨_,h⟩) rfl zS
def slE_df {st:St}{n k l u:Nat}{t:Option (Nat×Nat)}{nl:Bool}{cs:List V}{P:V->Prop}(c:∀r,SlR r nl k cs->P r) (a:st.df=[(l,u)]) (b:st.ob l=some ⟨u,.dfr⟩) (e:st.ro<=u) (h:st.tm n=.sl t nl k cs):WQ [.t n] P .ret st:=by obtain⟨r,f,d⟩:=j5t (st:={ st with ob:=λk=>if Nat.beq l k then none else st.ob k,df:=[] }) rfl h;exact⟨r,jac a b e f,c r d⟩
def jC (p:Int×Int):List V:=[.int .i64 p.1,.int .i64 p.2]
@[simp] theorem jS (p:Int×Int):(jC p).length=2:=rfl
def jgk (i:Nat) (ops:List Op'):Nat->List (Int×Int)
 |0=>[]
 |k+1=>jgk i ops k++(match ops[k]? with|some o=>if o.v.kind==2 then [((i:Int),(k:Int))] else []|none=>[])
def jgj (ts:List Txn'):Nat->List (Int×Int)
 |0=>[]
 |i+1=>jgj ts i++(match ts[i]? with|some t=>jgk i t.ops t.ops.length|none=>[])
def XT (h:Hist') (i k:Nat):List (Int×Int):=jgj h.ts i++(match h.ts[i]? with|some t=>jgk i t.ops k|none=>[])
def jdw (h:Hist'):List (Int×Int):=jgj h.ts h.ts.length
def jdv (i:Nat) (ops:List Op'):∀k,(jgk i ops k).length<=k
 |0=>dG _
 |k+1=>by have:=jdv i ops k;simp only[jgk,ap];split;split<;>simp<;>omega;simp;omega
def jdu {ts:List Txn'}(h:∀t∈ts,t.ops.length<=1000):∀i,(jgj ts i).length<=i*1000
 |0=>cw _
 |i+1=>by have:=jdu h i;simp only[jgj,ap];rw[show(i+1)*1000=i*1000+1000 by omega];split;rename_i t a;have b:=jdv i t.ops t.ops.length;have c:=h t (aJ a);omega;simp only[cC];omega
def jgm {h:Hist'}{i k:Nat}(hi:i<h.ts.length) (a:k<(h.ts[i]).ops.length):XT h i (k+1)=XT h i k++(if (h.ts[i]).ops[k].v.kind==2 then [((i:Int),(k:Int))] else []):=by simp only[XT,aa hi,jgk,aa a,aY]
def jgn {h:Hist'}{i:Nat}(hi:i<h.ts.length):XT h i (h.ts[i]).ops.length=XT h (i+1) 0:=by simp only[XT,aa hi,jgj];cases h.ts[i+1]?<;>simp[jgk]
def jiz (h:Hist'):XT h h.ts.length 0=jdw h:=by simp[XT,jdw]
def jgl (h:Hist'):XT h 0 0=[]:=by unfold XT;cases h.ts[0]?<;>rfl
def jiy {h:Hist'}(a:Small h) {i k:Nat}(hi:i<h.ts.length) (b:k<=(h.ts[i]).ops.length):(XT h i k).length<=1001000:=by have e:=jdu a.os i;have c:=a.ts;have f:=jdv i (h.ts[i]).ops k;have d:=a.os _ (au hi);simp only[XT,aa hi,ap];have:i*1000<=1000*1000:=bi _ zO;omega
def PlR (l:List (Int×Int)) (v:V):Prop:=∃nl,SlR v nl l.length (l.flatMap jC)
def ev55 {g:Hist'}(D:Small g) (hm:Yt g=true):∃v,Ev E 55 [.agg (yb g)] v/\PlR (jdw g) v:=by
 have s:=ev53 D;rw[W8 hm]at s;have K:=D.ts;refine JX rfl zQ ?_;conv in(occs:=*)F55=>all_goals cbv
 simp[yb,ya];refine jH s zI rfl zI ?_;simp[ya];refine jcx (vs:=[.agg (yb g)]) zI rfl ?_;obtain⟨r,T,Z,B,e3,e4⟩:=ev91 (Yf:=YT) g _ _ 0 _ _;refine⟨r,T,?_⟩;simp;refine jQ λc d=>?_;obtain⟨m,b5,a0,L,p2,I,pl⟩:∃m,m % 64=0/\m<c.nx/\c.tm 10=.fn (.func 145) [] [.ptr (2*m+1) m 0]/\c.ob 2=some ⟨0,.cells (yb g)⟩/\(∃u,c.tm 3=.ptr 6 u 0/\c.ob 6=some ⟨u,.cells [.sl none true 0 []]⟩)/\c.ob (2*m+1)=some ⟨m,.cells (yb g)⟩:=by refine⟨_,?_,?_,by rw[d];simp only[jos,put,WU];exact Z,?_,⟨320,?_,?_⟩,?_⟩;decide;rw[d,jjy,e4];omega;rw[d];simp only[Ja];rw[B];simp[yb];rw[d];simp[put,yg];rw[d];simp only[Ja];rw[B];simp;rw[d];simp only[Ja];rw[B];simp
 obtain⟨u6,M,I⟩:=I;have gd:c.df=[]:=by rw[d];simp
 have gb:c.fb=0:=by rw[d];simp
 have X:c.ro=0:=by rw[d];simp
 clear d Z B e3 e4 T;refine jii g K (λt ht=>by have:=D.os t ht;omega) rfl rfl rfl (zU L) pl zO zO X
  (λi k ob w q=>∃j,ob 6=some ⟨u6,.cells [j]⟩/\Grow w 0 q jC 2 (XT g i k) j) ?_ ?_ ?_ ?_ ?_
 rintro i k ob b9 w q b7 ⟨j,n,e⟩ p G;exact⟨j,(G 6 (λm _=>by omega)).trans n,e.mono (λ_ _ _ h=>h) p⟩;rintro i hi ob w q ⟨j,n,e⟩;exact⟨j,n,by rw[<- jgn hi];exact e⟩;rintro i hi k N ob w q ⟨j,n,e⟩ w1 z p;have r1:¬2*c.nx+1=8:=zO;have r3:¬2*c.nx+1=10:=zO;have r5:¬2*c.nx+1=6:=zO;have P:¬2*c.nx+3=8:=zO;have Q:¬2*c.nx+3=10:=zO;have q5:¬2*c.nx+3=6:=zO;have q7:¬2*c.nx+3=2*c.nx+1:=zO;have b8:¬8=2*c.nx+1:=zO;have J:¬10=2*c.nx+1:=zO;have H:¬6=2*c.nx+1:=zO;have b:=jgm hi N;have b0:=jiy D hi (gC N);obtain⟨o,ho⟩:∃o,(g.ts[i]).ops[k]=o:=⟨_,rfl⟩;rw[ho]at b ⊢;obtain⟨U,y⟩:=e.form;simp[jfu,yg,yS,ya,gb,j2,r1,r3,w1,J];cases S:(o.v.kind==2);rw[S]at b;simp only[ag,zc,aL]at b;simp[yg,P,Q,z,H,n];exact⟨zO,by rw[b];exact e.mono (λu _ _ h=>by simpa[jk] using h) zO⟩;rw[S]at b;simp only[zd]at b;simp[M,yg,H,n,ya,b8];refine jF (cs:=jC (i,k)) (by simp[j2,jC]) rfl rfl ?_;simp;refine Xo (f:=jC) (lo:=0) (hi:=q) (l:=XT g i k) (a:=((i:Int),(k:Int))) (v:=j) (e.mono (λu _ _ h=>by simp[jk,jb,h]) zK) zS (by simp[yp,jC]) jS zQ rfl zO zO (λc0 O=>?_);have F:XT g i (k+1)≠[]:=by rw[b];simp
 have x:(XT g i k).length+1=(XT g i (k+1)).length:=by rw[b];simp
 rw[<- b,x];simp[M,yg,H,n,ya,j2,r5,q5,P,Q,z];exact⟨zO,.inr ⟨F,_,rfl,by simp[jk,jb],cw _,zO⟩⟩;exact⟨_,I,by rw[jgl];exact Grow.nil _ _ _ _ _⟩;rintro ob w q ⟨j,n,e⟩ z p;rw[jiz]at e;obtain⟨U,y⟩:=e.form;simp[M,ya,n,y];exact slE_df (l:=2*c.nx+3) (u:=c.nx+1) (t:=U) (nl:=(jdw g).isEmpty) (k:=(jdw g).length) (cs:=(jdw g).flatMap jC) (λr h=>⟨_,h⟩) (by simp[gd]) (by simp[z]) (by simp[X]) zS
def GrowT {α:Type}(tk:Nat->Bool) (nx:Nat) (f:α->List V) (sz:Nat) (l:List α) (v:V):Prop:=∃u,v=.sl (some (u,sz)) false l.length (l.flatMap f)/\tk u=true/\u<nx
def GrowT.mono {b:Type}{tk a:Nat->Bool}{nx nx':Nat}{f:b->List V}{sz:Nat}{l:List b}{v:V}(h:GrowT tk nx f sz l v) (g:∀u,u<nx->tk u=true->a u=true) (i:nx<=nx'):GrowT a nx' f sz l v:=by obtain⟨u,c,e,d⟩:=h;exact⟨u,c,g u d e,zO⟩
def Y9 {E:Env}{Yf:YF}{st:St}{ub:Nat}{K:St->Nat->Prop}{d:Option Nat}{nm:Bool}{i:Type}{f:i->List V}{sz b hi:Nat}{l:List i}{a:i}{v:V}{s x:A}(q:GrowT st.tk hi f sz l v) (p:ye E st.tm s=v) (r:yp st.ob sz (ye E st.tm x)=some (f a)) (c:∀a,(f a).length=sz) (m:0<sz)
 (hp:(f a).all V.pureLeaf=true) (o:(l.length+1)*b<=140737488355328) (j:l.length+1<=140737488355328)
 (h:∀del:Option Nat,(∀u,del=some u->u<hi)->QP K st d ub { v:=.sl (some (ub,sz)) false (l.length+1) ((l++[a]).flatMap f),del:=del,add:=[ub] }):j8 E Yf ⟨d,.append false sz b s x,none,nm⟩ st ub K:=by
 have g:f a≠[]:=λe=>by have:=c a;rw[e]at this;simp at this;omega
 have k:(f a).length/sz=1:=by rw[c];exact gD m
 obtain⟨u,rfl,n,t⟩:=q;refine Jm p n r g (by rw[j1 c]) m hp (by rw[k];exact o) (by rw[k];exact j) ?_;rw[k];have:=h (some u) (λw e=>by cases e;exact t);simpa using this
def ev50 {g:Hist'}(I:Small g):∃v,Ev E 50 [.agg (yb g)] v/\PlR (jdw g) v:=by
 have S:=I.ts;refine JX rfl zQ ?_;conv in(occs:=*)F50=>all_goals cbv
 simp[yb];refine jF (cs:=[]) rfl rfl rfl ?_;simp;refine j5 [(3,5),(7,42)] g.ts.length (λi s=>s.tm 4=.int .i64 i/\s.ob 2=some ⟨0,.cells (yb g)⟩/\GrowT s.tk s.nx jC 2 (XT g i 0) (s.tm 3)) rfl rfl ⟨zS,zI,by rw[jgl];exact⟨128,zS,by simp[jb],zS⟩⟩ ?_;rintro i s hi ⟨H,D,J⟩ f;have G:s.tm 1=.ptr 2 0 0:=by rw[f.t 1 zS];simp
 have M:s.df=[]:=by rw[f.d];simp
 clear f;by_cases c:i<g.ts.length;have Q:=jR c zO;simp[H,G,D,ya,yb,c];refine j5 [(3,3),(5,5),(14,42)] (g.ts[i]).ops.length (λk j=>j.tm 5=.int .i64 k/\j.ob=s.ob/\GrowT j.tk j.nx jC 2 (XT g i k) (j.tm 3)) rfl rfl ⟨zS,zS,by simp;exact J.mono (λ_ _ h=>h) zO⟩ ?_;rintro k j Z ⟨B,m,p⟩ f;have K:j.tm 1=.ptr 2 0 0:=by rw[f.t 1 zS];simp[G]
 have L:j.tm 4=.int .i64 i:=by rw[f.t 4 zS];simp[H]
 have ed:j.df=[]:=by rw[f.d];simp[M]
 clear f;have w:j.ob 2=some ⟨0,.cells (yb g)⟩:=by rw[m];exact D
 obtain⟨t,z⟩:∃t,g.ts[i]=t:=⟨_,rfl⟩;have U:=I.os t (z▸au c);have n:(g.ts.flatMap jf)[i*3+2]? = some (yl t.nl yS t.ops):=by rw[jO j7 g.ts c (by decide:2<3),z];rfl
 by_cases e:k<(g.ts[i]).ops.length;have b:=jgm c e;have P:=jiy I c (gC e);obtain⟨o,O⟩:∃o,(g.ts[i]).ops[k]=o:=⟨_,rfl⟩;rw[O]at b;subst z;have q:=jR e zO;have y:((g.ts[i]).ops.flatMap yS)[k*4+2]? = some (.int .i64 o.v.kind):=by rw[jO jD (g.ts[i]).ops e (by decide:2<4),O];rfl
 cases F:(o.v.kind==2);rw[F]at b;simp only[ag,zc,aL]at b;simp[B,K,L,ya,yb,c,j4 j7,n,e,j4 jD,y,F,q,m,D];rw[b];exact p.mono (λ_ _ h=>h) zO;rw[F]at b;simp only[zd]at b;simp[B,K,L,w,ya,yb,c,j4 j7,n,e,j4 jD,y,F,j2];refine jF (cs:=jC (i,k)) (by simp[j2,jC]) rfl rfl ?_;simp;refine Y9 (f:=jC) (hi:=j.nx) (l:=XT g i k) (a:=((i:Int),(k:Int))) (v:=j.tm 3) (p.mono (λu _ h=>by simp[jb,h]) zK) zS (by simp[yp,jC]) jS zQ rfl zO zO (λT N=>?_);have x:(XT g i k).length+1=(XT g i (k+1)).length:=by rw[b];simp
 rw[<- b,x];simp[B,q,m];exact⟨e,_,rfl,by simp[jb],zO⟩;have:k=(g.ts[i]).ops.length:=zO;subst this;subst z;simp[B,K,L,w,ya,yb,c,j4 j7,n,Q];rw[<- jgn c];exact p.mono (λ_ _ h=>h) zO;have:i=g.ts.length:=zO;subst this;rw[jiz]at J;obtain⟨u,X,_,_⟩:=J;simp[H,G,D,ya,yb];exact slE (t:=some (u,2)) (nl:=false) (k:=(jdw g).length) (cs:=(jdw g).flatMap jC) (λr h=>⟨_,h⟩) (by simp[M]) (by simp[X])
def wkB (k:Int) (o:Op'):Bool:=o.w&&o.key==k
def wrB (k:Int) (t:Txn'):Bool:=t.f != 2&&t.ops.any (wkB k)
def KeyAt (k:Int) (ob:ZO) (l u:Nat):Prop:=l % 2=0/\ob l=some ⟨u,.cells [.int .i64 k]⟩
def evo263 {k:Int}{ob:ZO}{l u:Nat}(c:KeyAt k ob l u) (o:Op') (tk:Nat->Bool) (base ub:Nat):EvO E 263 [.agg (yS o),.ptr l u 0] ob tk base ub (.bool (wkB k o)):=by
 obtain⟨e,d⟩:=c;refine jr rfl ?_;have a:¬l=2*ub+1:=zO;unfold wkB;cases b:o.w
 ·conv in(occs:=*)S263=>all_goals cbv
  simp[yS,ya,b];exact j3 rfl zS rfl
 ·conv in(occs:=*)S263=>all_goals cbv
  simp[yS,ya,b,a,d];exact j3 rfl zS rfl
def evo293 {p:Op'->Bool}{g:FuncId}{cap:V}{ob:ZO}(y:E.sh true g=false) (e:cap.strip.pureTop=false) (hp:∀(t:Op') (tk:Nat->Bool) (base ub:Nat),EvO E g [.agg (yS t),cap] ob tk base ub (.bool (p t)))
 (nl:Bool) (l:List Op') (w:l.length<=1000000000) (tk:Nat->Bool) (base ub:Nat):EvO E 293 [yl nl yS l,.fn (.func g) [] [cap]] ob tk base ub (.int .i64 (WG p l)):=by
 refine jr rfl ?_;conv in(occs:=*)S293=>all_goals cbv
 simp;refine j5 [(4,5),(8,18)] l.length (λi s=>s.tm 8=.int .i64 i/\s.ob=ob/\∀j (c:j<l.length),j<i->p l[j]=false) rfl rfl ⟨zS,zS,λ_ _ h=>by omega⟩ ?_;rintro i s B ⟨k,q,m⟩ f;have x:s.tm 0=yl nl yS l:=by rw[f.t 0 zS];simp
 have z:s.tm 1=.fn (.func g) [] [cap]:=by rw[f.t 1 zS];simp
 have r:s.tm 7=.int .i64 l.length:=by rw[f.t 7 zS];simp
 have o:s.df=[]:=by rw[f.d];simp
 clear f;by_cases a:i<l.length;have u:=jR a w;simp[x,z,r,k,a,j4 jD,jd jD];refine Wy (f:=g) (first:=[]) (captured:=[cap]) zS y (by simp[e]) (v:=.bool (p l[i])) (by simpa[q] using hp l[i] _ _ _) ?_;cases b:p l[i];simp[k,u];refine⟨a,q,?_⟩;intro j c n;rcases bj.1 n with h|rfl;exact m j c h;exact b;simp;refine j3 (zU o) ?_ rfl;simp;rw[Ya a b m];have:i=l.length:=zO;subst this;simp[r,k];refine j3 (zU o) ?_ rfl;simp[WE (λj c=>m j c c)]
def evo262 {p:Op'->Bool}{g:FuncId}{ob:ZO}{a b c:Nat}(e:E.sh true g=false) (hp:∀(t:Op') (tk:Nat->Bool) (base ub:Nat),EvO E g [.agg (yS t),.ptr a b c] ob tk base ub (.bool (p t)))
 (nl:Bool) (l:List Op') (d:l.length<=1000000000) (tk:Nat->Bool) (base ub:Nat):EvO E 262 [yl nl yS l,.fn (.func g) [] [.ptr a b c]] ob tk base ub (.bool (l.any p)):=by
 refine jr rfl ?_;conv in(occs:=*)S262=>all_goals cbv
 simp;refine jN (vs:=[yl nl yS l,.fn (.func g) [] [.ptr a b c]]) zS rfl rfl (evo293 e rfl hp nl l d _ _ _) ?_;simp;exact j3 rfl (by simp[jav]) rfl
def evo261 {k:Int}{ob:ZO}{l u:Nat}(c:KeyAt k ob l u) (t:Txn') (i:t.ops.length<=1000000) (tk:Nat->Bool) (base ub:Nat):EvO E 261 [.agg (jf t),.ptr l u 0] ob tk base ub (.bool (wrB k t)):=by
 have a:¬l=2*ub+1:=by have:=c.1;omega
 refine jr rfl ?_;unfold wrB;cases d:(t.f != 2)
 ·conv in(occs:=*)S261=>all_goals cbv
  simp[jf,ya,d];exact j3 rfl zS rfl
 ·conv in(occs:=*)S261=>all_goals cbv
  simp[jf,ya,d];refine jN (vs:=[yl t.nl yS t.ops,.fn (.func 263) [] [.ptr l u 0]]) zS rfl rfl (evo262 (p:=wkB k) rfl (λh tk base b=>evo263 ?_ h tk base b) t.nl t.ops zO _ _ _) ?_;obtain⟨g,e⟩:=c;exact⟨g,by simp[a,e]⟩;simp;exact j3 rfl zS rfl
def yP (g:Hist') (k:Int):List Int:=yu (wrB k) g.ts g.ts.length
def ev218 {g:Hist'}(y:Small g) (L:Yt g=true) (k:Int):∃v,Ev E 218 [.agg (yb g),.int .i64 k] v/\j09 (yP g k) v:=by
 have o:=ev53 y;rw[W8 L]at o;have K:=y.ts;refine JX rfl zQ ?_;conv in(occs:=*)F218=>all_goals cbv
 simp[yb,ya];refine jH o zI rfl zI ?_;simp[ya];refine j5 [(4,4),(6,8),(16,28)] g.ts.length (λi s=>s.tm 16=.int .i64 i/\s.ob 6=some ⟨64,.cells [.int .i64 k]⟩/\Grow s.tk 0 s.nx yf 1 (yu (wrB k) g.ts i) (s.tm 6)) rfl rfl ⟨zS,zS,by simp[yu];exact Grow.nil _ _ _ _ _⟩ ?_;rintro i s hi ⟨j,x,z⟩ f;have I:s.tm 5=.fn (.func 261) [] [.ptr 6 64 0]:=by rw[f.t 5 zS];simp
 have B:s.tm 14=yl g.tn jf g.ts:=by rw[f.t 14 zS];simp
 have n:s.tm 15=.int .i64 g.ts.length:=by rw[f.t 15 zS];simp
 have G:s.df=[]:=by rw[f.d];simp
 have J:s.fb=0:=by rw[f.b];simp
 have fr:s.ro=0:=by rw[f.r];simp
 clear f;by_cases e:i<g.ts.length;have D:=jR e zO;have c:=Jn (p:=wrB k) e;obtain⟨t,m⟩:∃t,g.ts[i]=t:=⟨_,rfl⟩;rw[m]at c;have M:=y.os t (m▸au e);have H:=Jk (wrB k) g.ts i;simp[j,B,n,e,j4 j7,jd j7,m,jf,ya,J,fr,j2,I];refine Wy (f:=261) (first:=[]) (captured:=[.ptr 6 64 0]) zS rfl (by simp;rfl) (evo261 (k:=k) (l:=6) (u:=64) ⟨rfl,by simp[x]⟩ t zO _ _ _) ?_;cases hi:wrB k t;rw[hi]at c;simp only[ag,zc,aL]at c;simp[j,D,x];exact⟨e,by rw[c];exact z.mono (λu _ _ h=>by simpa[jk] using h) zO⟩;rw[hi]at c;simp only[zd]at c;simp;refine jF (cs:=[.int .i64 i]) (by simp[j2]) rfl rfl ?_;simp;refine Xo (f:=yf) (lo:=0) (hi:=s.nx) (l:=yu (wrB k) g.ts i) (a:=(i:Int)) (v:=s.tm 6) (z.mono (λu _ _ h=>by simp[jb,h]) zK) zS (by simp[yp,yf]) j6 zQ rfl zO zO (λN F=>?_);have w:yu (wrB k) g.ts (i+1)≠[]:=by rw[c];simp
 have q:(yu (wrB k) g.ts i).length+1=(yu (wrB k) g.ts (i+1)).length:=by rw[c];simp
 rw[<- c,q];simp[j,D,x];exact⟨e,.inr ⟨w,_,rfl,by simp[jb],cw _,zO⟩⟩;have:i=g.ts.length:=zO;subst this;obtain⟨t,m⟩:=z.form;simp[j,n];exact slE (t:=t) (nl:=(yu (wrB k) g.ts g.ts.length).isEmpty) (k:=(yP g k).length) (cs:=(yP g k).flatMap yf) (λr h=>⟨_,h⟩) (by simp[G]) (by simp[m,yP])
def jr4 (g:Hist'):Nat->Nat
 |0=>0
 |i+1=>max (jr4 g i) (yP g i).length
def mostH (g:Hist'):Nat:=jr4 g g.ks.length
def jmw {g:Hist'}(a:Small g):∀i,jr4 g i<=1000
 |0=>cw _
 |i+1=>by have b:=jmw a i;have d:=Jk (wrB i) g.ts g.ts.length;have c:=a.ts;simp only[jr4,yP];omega
def JH (k:Int) (ops:List Op'):Nat->Val'×Bool
 |0=>(⟨0,0⟩,false)
 |i+1=>match ops[i]? with
  |some o=>if wkB k o then (o.v,true) else JH k ops i
  |none=>JH k ops i
def jal {k:Int}{ops:List Op'}{i:Nat}(h:i<ops.length):JH k ops (i+1)=if wkB k ops[i] then (ops[i].v,true) else JH k ops i:=by simp[JH,aa h]
def Qm (k:Int) (ops:List Op'):∀i,i<=ops.length->(JH k ops i).2=(ops.take i).any (wkB k)
 |0,_=>by simp[JH]
 |i+1,h=>by rw[jal zO,av zO,eY,<- Qm k ops i zO];cases a:wkB k ops[i]<;>simp[a]
def ev107 (t:Txn') (J:t.ops.length<=1000000) (k:Int):Ev E 107 [.agg (jf t),.int .i64 t.ops.length,.int .i64 k] (.tup [.agg (J7 (JH k t.ops t.ops.length).1),.bool (JH k t.ops t.ops.length).2]):=by
 refine jT rfl ?_;conv in(occs:=*)F107=>all_goals cbv
 simp[jf,ya,j2];refine j5 [(9,10),(12,45)] t.ops.length (λi s=>s.tm 10=.int .i64 i/\s.ob 6=some ⟨0,.cells (jf t)⟩/\s.ob 12=some ⟨64,.cells [.int .i64 0,.int .i64 0]⟩/\s.ob 16=some ⟨256,.cells (J7 (JH k t.ops i).1)⟩/\s.tm 9=.bool (JH k t.ops i).2) rfl rfl
  ⟨zS,by simp[jf],zS,by simp[JH,J7],by simp[JH]⟩ ?_
 rintro i s K ⟨m,x,g,h,z⟩ f;have q:s.tm 1=.int .i64 t.ops.length:=by rw[f.t 1 zS];simp
 have G:s.tm 2=.int .i64 k:=by rw[f.t 2 zS];simp
 have B:s.tm 3=.ptr 6 0 0:=by rw[f.t 3 zS];simp
 have F:s.tm 6=.ptr 12 64 0:=by rw[f.t 6 zS];simp
 have D:s.tm 8=.ptr 16 256 0:=by rw[f.t 8 zS];simp
 have H:s.df=[]:=by rw[f.d];simp
 have fr:s.ro=0:=by rw[f.r];simp
 clear f;by_cases a:i<t.ops.length;have u:=jR a zO;have c:=jal (k:=k) a;obtain⟨o,p⟩:∃o,t.ops[i]=o:=⟨_,rfl⟩;rw[p]at c;have y:(t.ops.flatMap yS)[i*4]? = some (.bool o.w):=by have:=jO jD t.ops a (by decide:0<4);rw[bl,p]at this;rw[this];rfl
 have a1:(t.ops.flatMap yS)[i*4+1]? = some (.int .i64 o.key):=by rw[jO jD t.ops a (by decide:1<4),p];rfl
 have a2:∀ob,W9 ob (some 2) (.eptr (t.ops.flatMap yS) (i*4+2))=some (.agg (J7 o.v)):=λob=>by
  have I:i*4+4<=t.ops.length*4:=zO;rw[jdy,Wu,zb (by rw[j1 jD];omega)];have:=XS jD t.ops i a;rw[p]at this;have e:((t.ops.flatMap yS).drop (i*4+2)).take 2=((((t.ops.flatMap yS).drop (i*4)).take 4).drop 2):=by rw[gj,dQ]
  rw[e,this];rfl
 cases b:o.w;have n:wkB k o=false:=by unfold wkB;rw[b];rfl
 rw[n]at c;simp only[ag,zc]at c;simp[m,q,B,x,ya,jf,a,j4 jD,y,b,u,g,h,z];exact⟨by rw[c],by rw[c]⟩;cases j:(o.key==k);have n:wkB k o=false:=by unfold wkB;rw[b,j];rfl
 rw[n]at c;simp only[ag,zc]at c;simp[m,q,G,B,x,ya,jf,a,j4 jD,y,a1,b,j,u,g,h,z];exact⟨by rw[c],by rw[c]⟩;have n:wkB k o=true:=by unfold wkB;rw[b,j];rfl
 rw[n]at c;simp only[zd]at c;simp[m,q,G,B,D,x,ya,jf,a,j4 jD,y,a1,a2,b,j,u,g,h,J7,fr,j2];rw[c];simp;have:i=t.ops.length:=zO;subst this;simp[m,q,D,h,ya,z,F,g,J7,fr,j2];exact JI (by simp[H]) (l:=[.agg (J7 (JH k t.ops t.ops.length).1),.bool (JH k t.ops t.ops.length).2]) (by simp[ju,ya,F,J7]) rfl rfl
section
variable {E:Env}{Yf:YF}{st:St}{ub:Nat}{K:St->Nat->Prop}{d:Option Nat}{nm:Bool}
def jsf {sz a n:Nat}{zero:List V}{x y:A}(b:ye E st.tm x=.int .i64 (n:Int)) (g:ye E st.tm y=.int .i64 (n:Int)) (c:0<n) (f:n*a<=140737488355328) (j:n<=140737488355328) (i:zero.length=sz) (e:0<sz)
 (h:QP K st d ub { v:=.osl (jI d nm st.fb ub) ub 0 n sz,obs:=[(jI d nm st.fb ub,⟨ub,.cells (ja6 n zero)⟩)] }):j8 E Yf ⟨d,.mkSl false sz a zero x y,none,nm⟩ st ub K:=by
 rw[jU _ rfl rfl];simp only[yU,b,g];rw[zb (by refine⟨zO,zO,?_,zO,i,e⟩;rw[<- fZ];exact gN.2 f),za (by intro h;omega),Jo,jG];simp only[ba,Je];exact h
end
def jwv {st:St}{L u n:Nat}{cs:List V}(f:st.ob L=some ⟨u,.cells cs⟩) (m:cs.length=n) (e:st.ro<=u) (hp:cs.all V.pureLeaf=true):JY st 6 (.osl L u 0 n 1)=some (.sl none false n cs):=by
 have b:ya st.ob L u=some cs:=by simp[ya,f]
 have g:∀(k:Nat) (l:List V),l.all V.pureLeaf=true->l.mapM (JY st (k+1))=some l:=by
  intro k l;induction l with
  |nil=>intro _;rfl
  |cons a l j=>
   intro h;simp only[bN,aj]at h;rw[bR,j h.2];have:JY st (k+1) a=some a:=by
    have:=YS (st:=st) (keep:=false) (i:=0) h.1;cases a with
    |sl t o n cs=>cases t with
     |none=>rfl
     |some t=>cases h.1
    |osl=>cases h.1
    |_=>simp only[JY,h.1,zd]
   rw[this];rfl
 show((ya st.ob L u).bind λcs=>if Nat.ble st.ro u=true/\0+n*1<=cs.length then (((cs.drop 0).take (n*1)).mapM (JY st 5)).map λc=>V.sl none false n c else none)=_;rw[b,ah,zb ⟨bT▸e,zO⟩,dt,bx,aH zO,g 4 cs hp];rfl
def jce {st:St}{L u n:Nat}{cs:List V}(c:st.ob L=some ⟨u,.cells cs⟩) (e:cs.length=n) (b:st.ro<=u) (hp:cs.all V.pureLeaf=true):jdd st (.osl L u 0 n 1) false n cs:=by
 intro keep i;have a:ya st.ob L u=some cs:=by simp[ya,c]
 have f:=jwv c e b hp;refine⟨_,by simp only[jt,f,ah,a,aU];rfl,?_⟩;split;exact .inr ⟨_,rfl⟩;exact .inl rfl
end Go.Pv.T
namespace Go.Pv.T
open Go Go.Pv
end Go.Pv.T
namespace Go.Pv.T
open Go Go.Pv
end Go.Pv.T
namespace Go.Pv.T
open Go Go.Pv
def ju9 (l:List Int):(l.flatMap yf).all V.pureLeaf=true:=by rw[aw];intro y c;obtain⟨a,_,b⟩:=cq.1 c;simp[yf]at b;subst b;rfl
def jxf {l:List Txn'}(h:∀t∈l,t.ops.length<=1000):rcT l<=l.length*1000:=by
 induction l with
 |nil=>simp[rcT,rc]
 |cons t l a=>
  have e:=a (λt b=>h t (aV _ b));have c:=h t (aM ..);have d:=rc_le t.ops;have:rcT (t::l)=rc t.ops+rcT l:=by rw[rcT,bk,rc_app];rfl
  rw[this,bg,cW];omega
structure Bnd (g:Hist'):Prop where
 i:(Y5 g).length<=1000
 l:(jdw g).length<=1000000
 r:rcT g.ts<=1000000
 m:mostH g<=1000
 t:g.ts.length<=1000
def bnd_of {g:Hist'}(a:Small g):Bnd g:=by have b:=a.ts;refine⟨?_,?_,?_,jmw a _,b⟩;have:=Jk XU g.ts g.ts.length;show(yu XU g.ts g.ts.length).length<=1000;omega;have:=jdu a.os g.ts.length;show(jgj g.ts g.ts.length).length<=1000000;have:g.ts.length*1000<=1000*1000:=bi _ b;omega;have:=jxf a.os;have:g.ts.length*1000<=1000*1000:=bi _ b;omega
def jj4 {ub n:Nat}{cs:List V}:Xq ub (.sl (some (0,1)) false n cs)=some { v:=.sl (some (ub,1)) false n cs,add:=[ub] }:=by rw[Xq,zb (by rfl)];rfl
end Go.Pv.T
namespace Go.Pv.T
open Go Go.Pv
end Go.Pv.T
namespace Go.Pv.T
open Go Go.Pv
end Go.Pv.T
namespace Go.Pv.T
open Go Go.Pv
def WO (n:Nat) (l:List (List UInt8)):List (List UInt8):=(l.take n).map (·.take 100)
def fewT (t:Txn'):Txn':={ t with nl:=false,ops:=t.ops.take 25 }
def jeq (h:Hist'):Hist':={ sn:=(WO 25 h.ss).isEmpty,ss:=WO 25 h.ss,kn:=(WO 45 h.ks).isEmpty,ks:=WO 45 h.ks,tn:=((h.ts.take 45).map fewT).isEmpty,ts:=(h.ts.take 45).map fewT }
def jsv (n:Nat) (l:List (List UInt8)):WO n (WO n l)=WO n l:=by simp[WO,<- List.map_take,cM,ew,Function.comp_def]
def jww (h:Hist'):Small (jeq h):=by refine⟨?_,?_,?_,?_,?_,?_⟩;show(WO 25 h.ss).length<=1000;simp[WO];omega;intro s b;obtain⟨a,_,rfl⟩:=aI.1 (show s∈WO 25 h.ss from b);simp;omega;show(WO 45 h.ks).length<=1000;simp[WO];omega;intro s b;obtain⟨a,_,rfl⟩:=aI.1 (show s∈WO 45 h.ks from b);simp;omega;show((h.ts.take 45).map fewT).length<=1000;simp;omega;intro t c;obtain⟨a,_,rfl⟩:=aI.1 (show t∈(h.ts.take 45).map fewT from c);simp[fewT];omega
def jnn {n i:Nat}{l:List (List UInt8)}(hi:i<l.length) (_:i<n):WO (i+1) l=WO i l++[(l[i]).take 100]:=by rw[WO,av hi,bE];rfl
def jsw {n:Nat}{l:List (List UInt8)}{i:Nat}(hi:i<=l.length) (b:i<=n) (h:¬(i<l.length/\i<n)):WO i l=WO n l:=by unfold WO;congr 1;by_cases a:i<l.length;have:i=n:=zO;rw[this];rw[aH zO,aH zO]
def tlC:C->C
 | .seq _ b=>b
 |c=>c
def hdC:C->C
 | .seq a _=>a
 |c=>c
def jki (n m:Nat):jbv false [.int .i64 (n:Int),.int .i64 (m:Int)]=some (.int .i64 ((min n m:Nat):Int)):=by simp only[jbv,QN];by_cases h:n<=m;rw[cE h];simp[jgi];omega;rw[fN (Nat.le_of_not_le h)];simp[jgi];omega
def jfp (c:List UInt8):c.take (min c.length 100)=c.take 100:=by rcases iv c.length 100 with h'|h';rw[cE h',aH zK,aH h'];rw[fN h']
def jsu (n:Nat) (l:List (List UInt8)):(WO n l).length<=n:=by simp[WO];omega
def jq9 {l:List UInt8}{kk:IntKind}{k:Nat}(h:k<=l.length):Y4 none (some (.int kk (k:Int))) (.str l)=some (.str (l.take k)):=by simp[Y4,X0,h]
def joq {cs:List V}{kk:IntKind}{t:Option (Nat×Nat)}{nl:Bool}{sz n k:Nat}(h:k<=n) (a:cs.length=n*sz):W1 sz none (some (.int kk (k:Int))) (.sl t nl n cs)=some (.sl none nl k (cs.take (k*sz))):=by simp[W1,X0,h,a]
end Go.Pv.T
namespace Go.Pv.T
open Go Go.Pv
end Go.Pv.T
namespace Go.Pv.T
open Go Go.Pv
def j93 {h:Hist'}{i:Nat}(hi:i<=h.ts.length) (c:i<=45) (b:¬(i<h.ts.length/\i<45)):(h.ts.take i).map fewT=(h.ts.take 45).map fewT:=by congr 1;by_cases a:i<h.ts.length;have:i=45:=zO;rw[this];rw[aH zO,aH zO]
def j1s (l:List Op') (k:Nat):(l.flatMap yS).take (k*4)=(l.take k).flatMap yS:=by
 induction l generalizing k with
 |nil=>simp
 |cons a l b=>
  cases k with
  |zero=>simp
  |succ k=>rw[bk,eE,bk,cW,<- b k];show(V.bool a.w::V.int .i64 a.key::V.int .i64 a.v.kind::V.int .i64 a.v.n::l.flatMap yS).take (k*4+4)=_;simp[yS]
def kE1 {st:St}{p l u:Nat}{x y z:V}{g:Hist'}(a:st.df=[]) (hp:st.tm p=.ptr l u 0) (b:st.ob l=some ⟨u,.cells [x,y,z]⟩)
 (e:jdd st x g.sn g.ss.length (g.ss.flatMap X2)) (c:jdd st y g.kn g.ks.length (g.ks.flatMap X2)) (d:jdd st z g.tn g.ts.length (g.ts.flatMap jf)):WQ [.cell p (some 3)] (λr=>jvw r g) .ret st:=endH1 a hp b e c d
def run217 {Yf:YF}(nl:Bool) (ops:List Op') (hm:ops.length<=1000000) {l u lh uh:Nat}{ob0:ZO}{tk0:Nat->Bool}{ro base ub0:Nat}(J:Nat->(ZO)->(Nat->Bool)->Nat->Prop) (P:V×(ZO)×(Nat->Bool)×Nat->Prop)
 (m:∀k ob g h b c,J k ob h b->b<=c->Fr b ob g->J k g h c) (n:∀k ob h b,J k ob h b->ob lh=some ⟨uh,.cells [yl nl yS ops]⟩) (N:ro<=ub0)
 (p:∀k (_:k<ops.length) ob h b,J k ob h b->ro<=b->∃r,EvY Yf l u [.int .i64 (ops.length-1-k:Nat),.agg (yS (ops.getD (ops.length-1-k) ⟨false,0,0,0⟩))] ob h ro b r/\ro<=r.2.2.2 /\
  ((r.1=.bool true/\J (k+1) r.2.1 r.2.2.1 r.2.2.2)\/(r.1=.bool false/\∀g c,r.2.2.2<=c->Fr r.2.2.2 r.2.1 g->P (.tup [],g,r.2.2.1,c))))
 (w:∀ob h b,J ops.length ob h b->P (.tup [],ob,h,b)) (M:J 0 ob0 tk0 ub0):∃r,EvS E Yf.y 217 [.yld l u,.ptr lh uh 0] ob0 tk0 ro base ub0 r/\P r:=by
 refine J6 rfl zQ ?_;show wpC E Yf S217.body _ (Jh S217.res P);have hh:=n 0 ob0 tk0 ub0 M;have Q:IntKind.i64.wrap ((ops.length:Int)-1)=(ops.length:Int)-1:=jg zO zO;conv in(occs:=*)S217=>all_goals cbv
 simp[ya,hh,Q];refine j5 [(3,3),(7,18)] ops.length (λk s=>s.tm 3=.int .i64 ((ops.length:Int)-1-k)/\ro<=s.nx/\J k s.ob s.tk s.nx) rfl rfl ⟨zS,by simp;omega,m _ _ _ _ _ _ M zP (Fr.refl _ _)⟩ ?_;rintro k s hk ⟨B,a0,I⟩ f;have U:s.tm 0=.yld l u:=by rw[f.t 0 zS];simp
 have Z:s.tm 1=.ptr lh uh 0:=by rw[f.t 1 zS];simp
 have L:s.df=[]:=by rw[f.d];simp
 have fr:s.ro=ro:=by rw[f.r];simp
 clear f;have hc:=n _ _ _ _ I;by_cases v:k<ops.length;obtain⟨j,hj⟩:∃j,j=ops.length-1-k:=⟨_,rfl⟩;have z:j<ops.length:=zO;have e:(ops.length:Int)-1-k=(j:Int):=zO;rw[e]at B;have w2:IntKind.i64.wrap ((j:Int)-1)=(ops.length:Int)-1-(k+1):=by rw[jg zO zO];omega
 have D:ops.getD j ⟨false,0,0,0⟩=ops[j]:=by rw[ay,aa z];rfl
 simp[B,U,Z,ya,hc,z,j4 jD,jd jD];refine jq6 λi a=>?_;have F:i.tm 11=.yld l u:=by rw[a];simp
 have K:i.tm 12=.int .i64 j:=by rw[a];simp
 have H:i.tm 16=.agg (yS ops[j]):=by rw[a];simp
 have e3:i.tm 3=.int .i64 j:=by rw[a];simp[B]
 have ed:i.df=[]:=by rw[a];simp[L]
 have S:i.ro=ro:=by rw[a];simp[fr]
 have et:i.tk=s.tk:=by rw[a];simp
 have eo:i.ob=s.ob:=by rw[a];simp
 clear a;obtain⟨r,O,b0,o⟩:=p k v i.ob s.tk (s.nx+64+64+64+64+64+64+64+64) (m _ _ _ _ _ _ I zO (by rw[eo];exact Fr.refl _ _)) zO;rw[<- hj,D]at O;refine jli (l:=l) (u:=u) (zU F) ⟨r,by simpa[K,H,et,S] using O,?_⟩;rcases o with⟨q,G⟩|⟨q,hP⟩;simp[q,put,yg,e3,w2];exact⟨v,zO,m _ _ _ _ _ _ G zO (Fr.refl _ _)⟩;simp[q,put];refine⟨(.tup [],r.2.1,r.2.2.1,r.2.2.2+64),?_,hP _ _ zO (Fr.refl _ _)⟩;simp[endS,ed];have:k=ops.length:=zO;subst this;obtain⟨X,T⟩:∃x:Int,x=(ops.length:Int)-1-ops.length:=⟨_,rfl⟩;rw[<- T]at B;have c1:¬0<=X:=zO;simp[B,c1];refine⟨(.tup [],s.ob,s.tk,s.nx+64+64),?_,w _ _ _ (m _ _ _ _ _ _ I zO (Fr.refl _ _))⟩;simp[endS,L]
def j5m:C:=.region [⟨some 7,.alloc [(.bool false),(.int .i64 0),(.int .i64 0),(.int .i64 0)],none,false⟩,⟨none,.store 4 (.t 7) (.t 11),none,false⟩]
def jvx:C:=.block 1 (.seq (.region [⟨some 12,.fieldAddr 0 (.t 7),none,false⟩,⟨some 13,.load none (.t 12),none,false⟩,⟨some 14,.mov (.t 13),none,false⟩,⟨some 15,.fieldAddr 1 (.t 7),(some (14,true)),false⟩,⟨some 16,.load none (.t 15),(some (14,true)),false⟩,⟨some 17,.load none (.t 3),(some (14,true)),false⟩,⟨some 18,.bin .eql (.t 16) (.t 17),(some (14,true)),false⟩,⟨some 19,.pick (.t 14) (.t 18) (.c (.bool false)),none,false⟩])
 (.cond (.t 19) (.seq (.region [⟨some 20,.fieldAddr 2 (.t 7),none,false⟩,⟨some 21,.load (some 2) (.t 20),none,false⟩,⟨none,.store 2 (.t 4) (.t 21),none,false⟩,⟨none,.store 1 (.t 5) (.c (.bool true)),none,false⟩]) (.ret)) (.skip)))
def j2g (nl:Bool) (ops:List Op') (x:ops.length<=1000000) (d:Int) {st:St}{lh uh:Nat}(U:Nat) (hU:st.nx=U) (d2:64<=U) (h9:st.tm 9=.fn (.func 217) [] [.ptr lh uh 0]) (hl:∃m,lh=2*m+1/\m<U)
 (h3:st.tm 3=.ptr 6 0 0) (h4:st.tm 4=.ptr 8 64 0) (h5:st.tm 5=.ptr 10 128 0) (b0:st.ro=0) (a0:st.fb=0) (o6:st.ob 6=some ⟨0,.cells [.int .i64 d]⟩) (o8:st.ob 8=some ⟨64,.cells [.int .i64 0,.int .i64 0]⟩) (c6:st.ob 10=some ⟨128,.cells [.bool false]⟩)
 (oh:st.ob lh=some ⟨uh,.cells [yl nl yS ops]⟩) {Q:Ex->St->Prop}
 (hQ:∀(e:Ex) (ob:ZO) (tk:Nat->Bool) (ub:Nat) (v:Val') (b:Bool),ob 8=some ⟨64,.cells (J7 v)⟩->ob 10=some ⟨128,.cells [.bool b]⟩->ob (2*U+3)=some ⟨U+1,.dfr⟩->U+64<=ub ->
  JH d ops ops.length=(v,b)->(e=.nrm/\v=⟨0,0⟩/\b=false\/e=.ret)->Q e { st with ob:=ob,tk:=tk,nx:=ub,df:=(2*U+3,U+1)::st.df }) :
 wpC E YT (.rangeFunc (.t 9) [10,11] j5m jvx) st Q:=by
 obtain⟨m,rfl,c9⟩:=hl;subst hU;refine QB (g:=217) (first:=[]) (captured:=[.ptr (2*m+1) uh 0]) (zU h9) ?_;have e1:¬2*m+1=2*st.nx+1:=zO;have e2:¬2*m+1=2*st.nx+3:=zO;have b9:¬2*m=2*st.nx:=zO;have c1:¬2*m=2*st.nx+2:=zO;have:=run217 (Yf:=jib E YT j5m jvx st [10,11] (2*st.nx+1) st.nx) nl ops x (l:=2*st.nx+1) (u:=st.nx) (lh:=2*m+1) (uh:=uh)
  (ob0:=upd (upd st.ob (2*st.nx+3) (some ⟨st.nx+1,.dfr⟩)) (2*st.nx+1) (some ⟨st.nx,.loop .ready none⟩)) (tk0:=st.tk) (ro:=st.ro) (base:=(st.fb+1023)*1024) (ub0:=st.nx+64)
  (λk ob tk ub=>JH d ops ops.length=JH d ops (ops.length-k)/\ob (2*st.nx+1)=some ⟨st.nx,.loop .ready none⟩/\ob (2*st.nx+3)=some ⟨st.nx+1,.dfr⟩/\ob 6=some ⟨0,.cells [.int .i64 d]⟩/\ob 8=some ⟨64,.cells [.int .i64 0,.int .i64 0]⟩/\ob 10=some ⟨128,.cells [.bool false]⟩/\ob (2*m+1)=some ⟨uh,.cells [yl nl yS ops]⟩/\st.nx+64<=ub)
  (λr=>∃s z,r.2.1 (2*st.nx+1)=some ⟨st.nx,.loop s z⟩/\s≠.busy/\st.ro<=st.nx/\Q (z.getD .nrm) { st with ob:=λk=>if Nat.beq (2*st.nx+1) k then none else r.2.1 k,tk:=r.2.2.1,nx:=r.2.2.2,df:=(2*st.nx+3,st.nx+1)::st.df })
  ?_ ?_ zO ?_ ?_ ?_
 obtain⟨r,hr,hP⟩:=this;exact⟨r,hr,hP⟩;rintro k ob i tk ub b7 ⟨p,J,N,T,M,L,K,g8⟩ d0 H;have f:∀n,(∀m,ub<=m->n≠2*m+1)->i n=ob n:=H;exact⟨p,by rw[f _ (λm x=>by omega)];exact J,by rw[f _ (λm x=>by omega)];exact N,by rw[f _ (λm x=>by omega)];exact T,by rw[f _ (λm x=>by omega)];exact M,by rw[f _ (λm x=>by omega)];exact L,by rw[f _ (λm x=>by omega)];exact K,zO⟩;rintro k ob tk ub ⟨p,J,N,T,M,L,K,g8⟩;exact K
 ·rintro k hk ob tk ub ⟨p,J,N,T,M,L,K,g8⟩ d1;obtain⟨j,hj⟩:∃j,j=ops.length-1-k:=⟨_,rfl⟩;have P:j<ops.length:=zO;have c0:ops.getD j ⟨false,0,0,0⟩=ops[j]:=by rw[ay,aa P];rfl
  have B:=jal (k:=d) P;rw[<- hj,c0];obtain⟨o,ho⟩:∃o,ops[j]=o:=⟨_,rfl⟩;rw[ho]at B ⊢;rw[show ops.length-k=j+1 by omega]at p;rw[B]at p;refine jhn (asg:=j5m) (bd:=jvx) (xs:=[.int .i64 (j:Nat),.agg (yS o)]) rfl zO J zQ zQ ?_;simp[j5m,jfu,ya,a0,yS,b0,j2];refine⟨by rw[za zO,za zO];exact J,jQ λc a=>?_⟩;have f3:c.tm 3=.ptr 6 0 0:=by rw[a];simp[yg,h3]
  have f4:c.tm 4=.ptr 8 64 0:=by rw[a];simp[yg,h4]
  have f5:c.tm 5=.ptr 10 128 0:=by rw[a];simp[yg,h5]
  have f7:c.tm 7=.ptr 14 ub 0:=by rw[a];simp
  have n6:¬6=2*st.nx+1:=zO;have Z:¬8=2*st.nx+1:=zO;have q:¬10=2*st.nx+1:=zO;have c5:¬14=2*st.nx+1:=zO;have n3:¬2*st.nx+3=2*st.nx+1:=zO;have X:¬2*st.nx+3=14:=zO;have O:¬2*m+1=14:=zO;have p6:c.ob 6=some ⟨0,.cells [.int .i64 d]⟩:=by rw[a];simp[yg,n6,T]
  have p8:c.ob 8=some ⟨64,.cells [.int .i64 0,.int .i64 0]⟩:=by rw[a];simp[yg,Z,M]
  have F:c.ob 10=some ⟨128,.cells [.bool false]⟩:=by rw[a];simp[yg,q,L]
  have I:c.ob 14=some ⟨ub,.cells (yS o)⟩:=by rw[a];simp[yg,c5,yS]
  have p3:c.ob (2*st.nx+3)=some ⟨st.nx+1,.dfr⟩:=by rw[a];simp[yg,X,N]
  have p1:c.ob (2*st.nx+1)=some ⟨st.nx,.loop .busy none⟩:=by rw[a];simp
  have ph:c.ob (2*m+1)=some ⟨uh,.cells [yl nl yS ops]⟩:=by rw[a];simp[yg,b9,O,K]
  have fr:c.ro=0:=by rw[a]
  have fn:ub<=c.nx:=by rw[a];simp;omega
  clear a;have c3:¬2*st.nx+1=8:=zO;have S:¬2*st.nx+1=10:=zO;have c8:¬2*st.nx+3=8:=zO;have b5:¬2*st.nx+3=10:=zO;have skip:wkB d o=false->JH d ops ops.length=JH d ops (ops.length-(k+1)):=λD=>by rw[D]at p;rw[p,show ops.length-(k+1)=j by omega];rfl
  have done:wkB d o=false->(c4:True)->JH d ops ops.length=JH d ops (ops.length-(k+1))/\upd c.ob (2*st.nx+1) (some ⟨st.nx,.loop .ready none⟩) (2*st.nx+3)=some ⟨st.nx+1,.dfr⟩:=λD _=>⟨skip D,by rw[yg,za n3];exact p3⟩;cases h:o.w;have D:=skip (by unfold wkB;rw[h];rfl);simp[jvx,f7,I,ya,yS,h,p1,QH];exact⟨D,by rw[yg,za n3];exact p3,by rw[yg,za n6];exact p6,by rw[yg,za Z];exact p8,by rw[yg,za q];exact F,by rw[yg,za e1];exact ph,zO⟩;cases y:(o.key==d);have D:=skip (by unfold wkB;rw[h,y];rfl);simp[jvx,f7,I,ya,yS,h,f3,p6,y,p1,QH];exact⟨D,by rw[yg,za n3];exact p3,by rw[yg,za n6];exact p6,by rw[yg,za Z];exact p8,by rw[yg,za q];exact F,by rw[yg,za e1];exact ph,zO⟩;have c7:wkB d o=true:=by unfold wkB;rw[h,y];rfl
  rw[c7]at p;simp only[zd]at p;simp[jvx,f7,I,ya,yS,h,f3,p6,y,f4,f5,p8,F,fr,j2,c3,S,p1,QH];intro i b7 d4 H;have fk:∀n,(∀m,c.nx+64+64+64+64+64+64+64+64+64+64+64+64<=m->n≠2*m+1)->i n=_:=H;have G:∀{k:Nat},k≠2*st.nx+1->(if 2*st.nx+1=k then none else i k)=i k:=λhk=>za λe=>hk e.symm;refine⟨.done,some .ret,?_,zS,?_⟩;rw[fk _ (λm x=>by omega)];simp;have:=hQ .ret (λk=>if 2*st.nx+1=k then none else i k) c.tk b7 o.v true (by rw[G Z,fk _ (λm x=>by omega)];simp[yg,Z,J7]) (by rw[G q,fk _ (λm x=>by omega)];simp[yg,q])
   (by rw[G n3,fk _ (λm x=>by omega)];simp[yg,c8,b5,p3]) zO p (Or.inr rfl)
  rw[b0,a0]at this;simpa[jk] using this
 rintro ob tk ub ⟨p,J,N,T,M,L,K,g8⟩;refine⟨.ready,none,J,zS,zO,?_⟩;rw[fU]at p;exact hQ .nrm _ _ _ ⟨0,0⟩ false ((j6q ob zO).trans M) ((j6q ob zO).trans L) ((j6q ob zO).trans N) g8 p (Or.inl ⟨rfl,rfl,rfl⟩);have d3:¬2*st.nx+3=2*st.nx+1:=zO;have a6:¬6=2*st.nx+1:=zO;have b6:¬6=2*st.nx+3:=zO;have a8:¬8=2*st.nx+1:=zO;have b8:¬8=2*st.nx+3:=zO;have a10:¬10=2*st.nx+1:=zO;have c2:¬10=2*st.nx+3:=zO;exact⟨by rw[Nat.sub_zero],zS,by simp[yg],by simp[yg,a6,b6,o6],by simp[yg,a8,b8,o8],by simp[yg,a10,c2,c6],by simp[yg,b9,c1,oh],zO⟩
end Go.Pv.T
namespace Go.Pv.T
open Go Go.Pv
end Go.Pv.T
namespace Go.Pv.T
open Go Go.Pv
def Qs {g:Hist'}(a:Yt g=false):errH g=4:=by unfold errH;rw[a];rfl
end Go.Pv.T
namespace Go.Pv.T
open Go Go.Pv Go.Sort
def arr {α:Type}(f:α->List V) (d:Array α):List V:=d.toList.flatMap f
def j0x {α:Type}{f:α->List V}{sz:Nat}(b:∀a,(f a).length=sz) (d:Array α):(arr f d).length=d.size*sz:=by unfold arr;rw[j1 b,aO]
def jau {α:Type}{f:α->List V}{sz:Nat}(b:∀a,(f a).length=sz) (a:α):∀(l:List α) (i:Nat),i<l.length->j2 (l.flatMap f) (i*sz) (f a)=(l.set i a).flatMap f
 |[],_,h=>by simp at h
 |x::l,0,_=>by simp[j2,b]
 |x::l,i+1,h=>by
  have c:=jau b a l i (zU h);have e:(i+1)*sz=(f x).length+i*sz:=by rw[b,cW,fV]
  unfold j2 at c ⊢;rw[List.set_cons_succ,bk,bk,<- c,e,fm,aA,ie];simp
section
variable {α:Type}[Inhabited α] {f:α->List V}{sz:Nat}{d:Array α}
def idxA {l u n:Nat}{kk:IntKind}{x:Int}(b:0<=x) (a:x<n):jv sz (.osl l u 0 n sz) (.int kk x)=some (.ptr l u (x.toNat*sz)):=by simp[jv,b,a]
end
@[simp] theorem arrI_len (d:Array Int):(arr yf d).length=d.size:=by rw[j0x (sz:=1) j6,bx]
def At (l u:Nat) (cs:List V) (ob:ZO) (tk:Nat->Bool) (ub:Nat) (ob':ZO) (tk':Nat->Bool) (ub':Nat):Prop :=
 ob' l=some ⟨u,.cells cs⟩/\(∀key,key≠l->(∀m,ub<=m->key≠2*m+1)->ob' key=ob key)/\tk'=tk/\ub<=ub'
def jfg {st:St}{P:V×(ZO)×(Nat->Bool)×Nat->Prop}{e:Ex}(b:e=.nrm\/e=.ret) (a:st.df=[]) (h:P (.tup [],st.ob,st.tk,st.nx)):Jh [] P e st:=by refine⟨_,?_,h⟩;rcases b with rfl|rfl<;>simp[endS,a]
def wrapN {x:Int}(a:-1000000000<=x) (b:x<=1000000000):IntKind.i64.wrap x=x:=jg zO zO
def j4j {l u n x:Nat}{kk:IntKind}{X:Int}(a:X=(x:Nat)) (b:x<n):jv 1 (.osl l u 0 n 1) (.int kk X)=some (.ptr l u x):=by subst a;have:=idxA (sz:=1) (l:=l) (u:=u) (n:=n) (kk:=kk) (x:=(x:Int)) zO zO;simpa using this
def At.swap {l u:Nat}{k:Array Int}{cs:List V}{ob:ZO}{tk:Nat->Bool}{ub:Nat}{e:ZO}{f:Nat->Bool}{j:Nat}{d:ZO}{g:Nat->Bool}{i:Nat}(h:At l u (arr yf k) ob tk ub e f j)
 (p:d l=some ⟨u,.cells cs⟩) (m:∀c,c≠l->d c=e c) (n:g=f) (o:j<=i):At l u cs ob tk ub d g i :=
 ⟨p,λc a b=>(m c a).trans (h.2.1 c a b),n.trans h.2.2.1,bI h.2.2.2 o⟩
def jt7 (st:St) (d:Option Nat) (v:V) (ob:ZO) (tk:Nat->Bool):St:={ st with tm:=put st.tm d v,ob:=ob,tk:=tk }
section
variable {st:St}{d:Option Nat}{v:V}{ob:ZO}{tk:Nat->Bool}
@[simp] theorem retS_tm (e n:Nat):(jt7 st (some e) v ob tk).tm n=if n=e then v else st.tm n:=by simp[jt7,put,yg]
@[simp] theorem retS_tm0 (n:Nat):(jt7 st none v ob tk).tm n=st.tm n:=rfl
@[simp] theorem jj2:(jt7 st d v ob tk).ob=ob:=rfl
@[simp] theorem retS_tk:(jt7 st d v ob tk).tk=tk:=rfl
@[simp] theorem retS_ro:(jt7 st d v ob tk).ro=st.ro:=rfl
@[simp] theorem retS_nx:(jt7 st d v ob tk).nx=st.nx:=rfl
@[simp] theorem retS_fb:(jt7 st d v ob tk).fb=st.fb:=rfl
@[simp] theorem retS_df:(jt7 st d v ob tk).df=st.df:=rfl
end
@[simp] theorem j27 (l u o:Nat):jcq (.ptr l u o)=some (.ptr l u o):=rfl
def jJ {Yf:YF}{f:FuncId}{xs:List A}{st:St}{ub:Nat}{K:St->Nat->Prop}{d:Option Nat}{nm:Bool}{vs:List V}{P:V×(ZO)×(Nat->Bool)×Nat->Prop}(i:xs.map (ye E st.tm)=vs) (g:E.sh nm f=true)
 (j:∃r,EvS E Yf.y f vs st.ob st.tk st.ro ((st.fb+d.getD 0+1)*1024) ub r/\P r) (h:∀v c a b,P (v,c,a,b)->K (jt7 st d v c a) b):j8 E Yf ⟨d,.call f xs,none,nm⟩ st ub K:=by
 obtain⟨r,e,k⟩:=j;exact jcx i g ⟨r,e,h r.1 r.2.1 r.2.2.1 r.2.2.2 k⟩
def Yb {st:St}{x y:Nat}{P:V×(ZO)×(Nat->Bool)×Nat->Prop}(a:st.df=[]) (h:P (.tup [st.tm x,st.tm y],st.ob,st.tk,st.nx)):Jh [.t x,.t y] P .ret st:=⟨_,by simp[endS,a,ju],h⟩
def JN {st:St}{x:Nat}{P:V×(ZO)×(Nat->Bool)×Nat->Prop}(a:st.df=[]) (h:P (st.tm x,st.ob,st.tk,st.nx)):Jh [.t x] P .ret st:=⟨_,by simp[endS,a,ju],h⟩
def At.refl {l u:Nat}{cs:List V}{ob:ZO}{tk:Nat->Bool}{ub:Nat}(h:ob l=some ⟨u,.cells cs⟩):At l u cs ob tk ub ob tk ub:=⟨h,λ_ _ _=>rfl,rfl,zK⟩
def At.trans {l u:Nat}{cs f:List V}{ob g j:ZO}{tk i k:Nat->Bool}{ub o c n:Nat}(h:At l u cs ob tk ub g i o) (p:At l u f g i c j k n) (q:o<=c):At l u f ob tk ub j k n :=
 ⟨p.1,λe a b=>(p.2.1 e a (λm r=>b m (by have:=h.2.2.2;omega))).trans (h.2.1 e a b),p.2.2.1.trans h.2.2.1,by have:=h.2.2.2;have:=p.2.2.2;omega⟩
def At.same {l u:Nat}{cs:List V}{ob e a:ZO}{tk f b:Nat->Bool}{ub g c:Nat}(h:At l u cs ob tk ub e f g) (j:a=e) (i:b=f) (k:g<=c):At l u cs ob tk ub a b c:=by subst j i;exact⟨h.1,h.2.1,h.2.2.1,bI h.2.2.2 k⟩
end Go.Pv.T
namespace Go.Pv.T
open Go Go.Pv Go.Sort
end Go.Pv.T
namespace Go.Pv.T
open Go Go.Pv Go.Sort
def j9c {Yf:YF}{a b:C}{st:St}{Q:Ex->St->Prop}{c:Bool}(h:∀s,s=st->kIf E Yf a b s Q c):kIf E Yf a b st Q c:=h st rfl
end Go.Pv.T
namespace Go.Pv.T
open Go Go.Pv Go.Sort
end Go.Pv.T
namespace Go.Pv.T
open Go Go.Pv Go.Sort
end Go.Pv.T
namespace Go.Pv.T
open Go Go.Pv Go.Sort
end Go.Pv.T
namespace Go.Pv.T
open Go Go.Pv Go.Sort
@[simp] theorem convV_int (k a:IntKind) (n:Int):Y1 k (.int a n)=some (.int k (k.wrap n)):=rfl
end Go.Pv.T
namespace Go.Pv.T
open Go Go.Pv Go.Sort
end Go.Pv.T
namespace Go.Pv.T
open Go Go.Pv Go.Sort
end Go.Pv.T
namespace Go.Pv.T
open Go Go.Pv Go.Sort
def sv167n {Yf:YF}{ob:ZO}{tk:Nat->Bool}{ro base ub:Nat}:∃r,EvS E Yf.y 167 [.sl none true 0 []] ob tk ro base ub r/\r.2.1=ob/\r.2.2.1=tk/\ub<=r.2.2.2 :=
 ⟨(.tup [],ob,tk,ub),jld (m:=none) rfl rfl rfl,rfl,rfl,zK⟩
def jnd:∀L:List Int,(L.flatMap yf).mapM int64? = some L
 |[]=>rfl
 |x::L=>by rw[bk];show(V.int .i64 x::L.flatMap yf).mapM int64? = _;simp only[bR,jnd L];rfl
def sv167 {Yf:YF}{l u:Nat}{L T:List Int}(hp:L.Perm T) (f:T.Pairwise (·<=·)) (j:L.length<=1000000000) {ob:ZO}{tk:Nat->Bool}{ro base ub:Nat}(e:ob l=some ⟨u,.cells (L.flatMap yf)⟩) (b:ro<=u) (_:∀m,ub<=m->l≠2*m+1) (_:ro<=ub) :
 ∃r,EvS E Yf.y 167 [.osl l u 0 L.length 1] ob tk ro base ub r/\At l u (T.flatMap yf) ob tk ub r.2.1 r.2.2.1 r.2.2.2:=by
 have g:jop L=T:=jj8 ((jag L).trans hp) (jjw L) f;have c:(L.flatMap yf).length=L.length:=by rw[j1 j6,bx]
 have a:∀T:List Int,T.map (V.int .i64)=T.flatMap yf:=λT=>by induction T<;>simp_all [yf]
 refine⟨(.tup [],upd ob l (some ⟨u,.cells (T.flatMap yf)⟩),tk,ub),jld (m:=none) rfl ?_ rfl,zS,λd h _=>by simp[JV _ _ h],rfl,zK⟩;have i:ya ob l u=some (L.flatMap yf):=by simp[ya,e]
 simp only[jty,jlr,jhp,jq7,Qb,i,ah,bx,zd];rw[zb ⟨bT▸b,trivial,zO,j⟩,dt,aH zO,jnd,ah,g,a];have:(T.flatMap yf).length=(L.flatMap yf).length:=by rw[j1 j6,j1 j6,hp.length_eq]
 rw[j2,dP,dK,bB zO,aL]
end Go.Pv.T
namespace Go.Pv.T
open Go Go.Pv
def sv164 {Yf:YF}{b:V}(d:b.cells=[b]) (c:b.leaf=true) {ob:ZO}{tk:Nat->Bool}{ro base ub:Nat}:∃r,EvS E Yf.y 164 [b] ob tk ro base ub r /\
 r.1=.fn (.func 217) [] [.ptr (2*ub+1) ub 0]/\(∀a,r.2.1 a=if a=2*ub+1 then some ⟨ub,.cells [b]⟩ else ob a)/\r.2.2.1=tk/\r.2.2.2=ub+256:=by
 refine J6 rfl zQ ?_;show wpC E Yf S164.body _ (Jh S164.res _);conv in(occs:=*)S164=>all_goals cbv
 simp[d,c];exact JN zS ⟨zS,λa=>by simp,by simp[jk],zS⟩
def Yu (ops:List Op') (key:Int):Val'×Bool:=JH key ops ops.length
def ev111 (nl:Bool) (ops:List Op') (H:ops.length<=1000000) (key:Int):Ev E 111 [yl nl yS ops,.int .i64 key] (.tup [.agg (J7 (Yu ops key).1),.bool (Yu ops key).2]):=by
 refine jT rfl ?_;conv in(occs:=*)F111=>all_goals cbv
 simp;refine jJ (vs:=[yl nl yS ops]) zS rfl (sv164 zS zS) ?_;rintro v F t B ⟨p,f,I,q⟩;simp only at p f I q;subst p q;simp;refine jQ λc a=>?_;have K:c.tm 3=.ptr 6 0 0:=by rw[a];simp
 have i:c.tm 4=.ptr 8 64 0:=by rw[a];simp
 have j:c.tm 5=.ptr 10 128 0:=by rw[a];simp
 have s:c.tm 9=.fn (.func 217) [] [.ptr 513 256 0]:=by rw[a];simp
 have o:c.df=[]:=by rw[a];simp
 have y:c.fb=0:=by rw[a];simp
 have m:c.ro=0:=by rw[a];simp
 have G:c.nx=512:=by rw[a];simp
 have x:c.ob 6=some ⟨0,.cells [.int .i64 key]⟩:=by rw[a];simp only[Ja,jj2];rw[f];simp
 have z:c.ob 8=some ⟨64,.cells [.int .i64 0,.int .i64 0]⟩:=by rw[a];simp only[Ja,jj2];rw[f];simp
 have k:c.ob 10=some ⟨128,.cells [.bool false]⟩:=by rw[a];simp only[Ja,jj2];rw[f];simp
 have J:c.ob 513=some ⟨256,.cells [yl nl yS ops]⟩:=by rw[a];simp only[Ja,jj2];rw[f];simp
 clear a f;refine j2g nl ops H key 512 G zO s ⟨256,rfl,zO⟩ K i j m y x z k J ?_;intro e ob L M v b r h n w g d;have D:Yu ops key=(v,b):=g;rw[D];rcases d with⟨rfl,rfl,rfl⟩|rfl;simp[i,j,ya,r,h,m,j2,J7];refine jac (l:=1027) (u:=513) (by simp[o]) (by simp[n]) zS (JI rfl (l:=[.agg (J7 ⟨0,0⟩),.bool false]) (by simp[ju,ya,i,j,J7]) rfl rfl);simp;refine jac (l:=1027) (u:=513) (by simp[o]) (by simp[n]) (by simp[m]) (JI rfl (l:=[.agg (J7 v),.bool b]) (by simp[ju,ya,i,j,r,h,J7]) rfl rfl)
def Js (h:Hist') (i:Int):Bool×List Op':=if Yt h&&(decide (0<=i)&&decide (i<h.ts.length)) then ((h.ts.getD i.toNat ⟨0,0,true,[]⟩).nl,(h.ts.getD i.toNat ⟨0,0,true,[]⟩).ops) else (true,[])
def ev110 {h:Hist'}(k:Small h) (i:Int):Ev E 110 [.agg (yb h),.int .i64 i] (yl (Js h i).1 yS (Js h i).2):=by
 have f:=ev53 k;have l:=k.ts;refine jT rfl ?_;obtain⟨R,a⟩:∃R,Js h i=R:=⟨_,rfl⟩;rw[a];unfold Js at a;conv in(occs:=*)F110=>all_goals cbv
 simp[yb,ya];refine jH f zI rfl zI ?_;cases b:Yt h;rw[Qs b];rw[b]at a;subst a;simp;exact j3 rfl (by simp[yl]) rfl;rw[b]at a;rw[W8 b];by_cases c:i<0;rw[za zP]at a;subst a;simp[c];exact j3 rfl (by simp[yl]) rfl;by_cases g:(h.ts.length:Int)<=i;rw[za zP]at a;subst a;simp[c,g,ya];exact j3 rfl (by simp[yl]) rfl;rw[zb zP]at a;obtain⟨j,rfl⟩:∃j:Nat,i=j:=⟨i.toNat,zO⟩;have d:j<h.ts.length:=zO;have e:(h.ts.flatMap jf)[j*3+2]? = some (yl (h.ts[j]).nl yS (h.ts[j]).ops):=by rw[jO j7 h.ts d (by decide:2<3)];rfl
 rw[ba,XC d]at a;subst a;simp[c,g,ya,d,j4 j7,e];exact j3 rfl zS rfl
def jmf {h:Hist'}(b:Small h) (i:Int):(Js h i).2.length<=1000:=by unfold Js;split;rename_i c;simp only[aj,ze]at c;have a:i.toNat<h.ts.length:=zO;rw[XC a];exact b.os _ (au a);simp
def ev169 {h:Hist'}(c:Small h) (i key:Int):Ev E 169 [.agg (yb h),.int .i64 i,.int .i64 key] (.tup [.agg (J7 (Yu (Js h i).2 key).1),.bool (Yu (Js h i).2 key).2]):=by
 have b:=ev110 c i;have a:=ev111 (Js h i).1 (Js h i).2 (by have:=jmf c i;omega) key;refine jT rfl ?_;generalize (Js h i).1=nl at *;generalize (Js h i).2=ops at *;obtain⟨R,d⟩:∃R,Yu ops key=R:=⟨_,rfl⟩;rw[d]at a ⊢;conv in(occs:=*)F169=>all_goals cbv
 simp[yb,ya];refine jH b zI rfl zI ?_;rw[JZ (show(yl nl yS ops).plain=true from rfl)];simp;refine jH a zS rfl zS ?_;rw[Jc (by simp[V.plain,J7])];simp[ya,j2,J7];exact JI zS (l:=[.agg (J7 R.1),.bool R.2]) (by simp[ju,ya,J7]) rfl rfl
def opAt (h:Hist') (a b:Int):Option Op' :=
 if Yt h&&(decide (0<=a)&&(decide (a<h.ts.length)&&(decide (0<=b)&&decide (b<((h.ts.getD a.toNat ⟨0,0,true,[]⟩).ops.length:Nat))))) then (h.ts.getD a.toNat ⟨0,0,true,[]⟩).ops[b.toNat]? else none
def op0:Op':=⟨false,0,0,0⟩
def ev165 {h:Hist'}(v:Small h) (a b:Int):Ev E 165 [.agg (yb h),.agg (jC (a,b))] (.tup [.agg (yS ((opAt h a b).getD op0)),.bool ((opAt h a b).any λo=>!o.w)]):=by
 have x:=ev53 v;have I:=v.ts;refine jT rfl ?_;obtain⟨R,c⟩:∃R,opAt h a b=R:=⟨_,rfl⟩;rw[c];unfold opAt at c;conv in(occs:=*)F165=>all_goals cbv
 simp[yb,ya,jC];generalize u:jvy E YT (C.seq (C.draw _ _) _) (j54 _ _)=K;have d:∀s:St,j54 [.cell 4 (some 4),.t 5] (.tup [.agg (yS (R.getD op0)),.bool (R.any λo=>!o.w)]) .ret s->K .ret s:=λs h=>by rw[<- u,jsc];exact h
 refine X5 x zI rfl zI ?_;cases n:Yt h;rw[Qs n];rw[n]at c;subst c;simp[ya,j2];exact d _ (JI zS (l:=[.agg (yS op0),.bool false]) (by simp[ju,ya,yS,op0]) rfl rfl);rw[n]at c;rw[W8 n];by_cases k:a<0;rw[za zP]at c;subst c;simp[k,ya,j2];exact d _ (JI zS (l:=[.agg (yS op0),.bool false]) (by simp[ju,ya,yS,op0]) rfl rfl);by_cases m:(h.ts.length:Int)<=a;rw[za zP]at c;subst c;simp[k,m,ya,j2];exact d _ (JI zS (l:=[.agg (yS op0),.bool false]) (by simp[ju,ya,yS,op0]) rfl rfl);obtain⟨i,rfl⟩:∃i:Nat,a=i:=⟨a.toNat,zO⟩;have f:i<h.ts.length:=zO;rw[ba,XC f]at c;obtain⟨t,p⟩:∃t,h.ts[i]=t:=⟨_,rfl⟩;rw[p]at c;have Q:=v.os t (p▸au f);have e:(h.ts.flatMap jf)[i*3+2]? = some (yl t.nl yS t.ops):=by rw[jO j7 h.ts f (by decide:2<3),p];rfl
 by_cases q:b<0;rw[za zP]at c;subst c;simp[k,m,q,ya,j2];exact d _ (JI zS (l:=[.agg (yS op0),.bool false]) (by simp[ju,ya,yS,op0]) rfl rfl);by_cases B:(t.ops.length:Int)<=b;rw[za zP]at c;subst c;simp[k,m,q,B,ya,j2,f,j4 j7,e];exact d _ (JI zS (l:=[.agg (yS op0),.bool false]) (by simp[ju,ya,yS,op0]) rfl rfl);obtain⟨j,rfl⟩:∃j:Nat,b=j:=⟨b.toNat,zO⟩;have z:j<t.ops.length:=zO;rw[zb zP,ba,aa z]at c;obtain⟨o,y⟩:∃o,t.ops[j]=o:=⟨_,rfl⟩;rw[y]at c;subst c;have O:¬t.ops.length<=j:=zO;have L:¬h.ts.length<=i:=zO;have g:∀s:St,s.tm 2=.ptr 4 0 0->s.tm 3=.ptr 6 64 0->s.tm 4=.ptr 8 128 0->s.ob 4=some ⟨0,.cells (yb h)⟩->s.ob 6=some ⟨64,.cells [.int .i64 i,.int .i64 j]⟩->s.ob 8=some ⟨128,.cells [.bool false,.int .i64 0,.int .i64 0,.int .i64 0]⟩->s.df=[]->s.ro=0->s.fb=0->K .nrm s:=by intro s F H r P G M J D N;rw[<- u,jko];simp[F,H,P,G,ya,yb,f,j4 j7,e,z,j4 jD,jd jD,y,yS,j2,N,D];refine⟨by simp[JR,YY,Wn,QS,yz,yB,yR,Delta.wo,Delta.wt];try decide,?_⟩;simp[r,M,ya,D,j2];refine⟨by simp[JR,YY,Wn,QS,yz,yB,yR,Delta.wo,Delta.wt,r];try decide,?_⟩;exact JI (by simp[J]) (l:=[.agg (yS o),.bool !o.w]) (by simp[ju,ya,yS,r]) rfl (by simp[j7c,yS])
 clear u;simp[k,m,q,B,ya,f,j4 j7,e];exact g _ zS zS zS zI zS zS zS zS zS
end Go.Pv.T
