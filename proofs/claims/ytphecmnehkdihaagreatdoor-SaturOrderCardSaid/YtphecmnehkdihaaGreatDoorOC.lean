/- What code does, as a condition that is reckoned: for proofs about whatever input. -/
import Derived.Test.YtphecmnehkdihaaGreatDoorOB
import Derived.KernelRfl
import Derived.Test.YtphecmnehkdihaaGreatDoorRows
import Derived.Laws.BitsLemmas
import Derived.Lib.ValidLaws
import Derived.Laws.Bits64
set_option maxRecDepth 100000
set_option maxHeartbeats 8000000
set_option linter.all false
namespace Go.Pv
open Go
def EvO (E:Env) (f:FuncId) (args:List V) (ob:ZO) (tk:Nat->Bool) (base ub:Nat) (r:V):Prop:=∃n,(callers E n noY).o f args ob tk base ub=some r
def EvS (E:Env) (y:Nat->Y) (f:FuncId) (args:List V) (ob:ZO) (tk:Nat->Bool) (ro base ub:Nat) (r:V × (ZO) × (Nat->Bool) × Nat):Prop:=∃n,(callers E n (y n)).s f args ob tk ro base ub=some [r]
def EvSL (E:Env) (y:Nat->Y) (f:FuncId) (args:List V) (ob:ZO) (tk:Nat->Bool) (ro base ub:Nat) (Q:V × (ZO) × (Nat->Bool) × Nat->Prop):Prop:=∃n l,(callers E n (y n)).s f args ob tk ro base ub=some l/\l≠[]/\∀r∈l,Q r
theorem EvS.list {E:Env}{y:Nat->Y}{f:FuncId}{args:List V}{ob:ZO}{tk:Nat->Bool}{ro base ub:Nat}{Q:V × (ZO) × (Nat->Bool) × Nat->Prop}(h:∃r,EvS E y f args ob tk ro base ub r/\Q r):EvSL E y f args ob tk ro base ub Q:=by obtain⟨r,⟨n,c⟩,b⟩:=h;exact⟨n,[r],c,zS,λx a=>by rw[ae]at a;exact a▸b⟩
structure YF where
 y:Nat->Y
 mono:∀ {n m:Nat},n<=m->YLe (y n) (y m)
def YC:YF:=⟨λ_=>noY,λ_=>YLe.refl _⟩
def EvY (Yf:YF) (l u:Nat) (xs:List V) (ob:ZO) (tk:Nat->Bool) (ro ub:Nat) (r:V × (ZO) × (Nat->Bool) × Nat):Prop:=∃n,Yf.y n l u xs ob tk ro ub=some r
def WY (E:Env) (Yf:YF) (c:C) (st:St) (Q:Ex->St->Prop):Prop:=∃n l,je E (callers E n) (Yf.y n) n c st=some l/\l≠[]/\∀x∈l,Q x.1 x.2
def Qq (E:Env) (f:FuncId) (xs:List V) (st:St) (dst:Option Nat) (ub:Nat) (K:St->Nat->Prop):Prop :=
 xs.all V.pureTop=true/\∃v,Ev E f xs v/\∃δ,Xf ub v=some δ/\K (st.app dst δ) (ub+64)
def j8 (E:Env) (Yf:YF) (o:AOpr) (st:St) (ub:Nat) (K:St->Nat->Prop):Prop :=
 match wanted o st.tm with
 | none=>False
 | some false=>K { st with tm:=put st.tm o.dst ju } ub
 | some true=>match jk (eval E st.tm) o.op with
  | some (l,u,xs)=>∃r,EvY Yf l u xs st.ob st.tk st.ro ub r/\K { st with tm:=put st.tm o.dst r.1,ob:=r.2.1,tk:=r.2.2.1 } r.2.2.2
  | none=>match jB E o.nm (eval E st.tm) o.op with
   | some (f,xs)=>(E.sh o.nm f=true/\EvSL E Yf.y f xs st.ob st.tk st.ro ((st.fb+o.dst.getD 0+1)*1024) ub λr=>K { st with tm:=put st.tm o.dst r.1,ob:=r.2.1,tk:=r.2.2.1 } r.2.2.2) \/
    (E.sh o.nm f=false/\∃v,EvO E f xs st.ob st.tk ((st.fb+o.dst.getD 0+1)*1024) ub v/\∃δ,Xf ub v=some δ/\K (st.app o.dst δ) (ub+64))
   | none=>match o.op with
    | .call f xs=>Qq E f (xs.map λx=>(eval E st.tm x).strip) st o.dst ub K
    | .callV q xs=>∃f first captured,eval E st.tm q=.fn (.func f) first captured/\Qq E f ((first++xs.map (eval E st.tm)++captured).map V.strip) st o.dst ub K
    | .nextMap x=>∃l,jm7 st.ob st.ro (eval E st.tm x)=some l/\∀δ∈l,K (st.app o.dst δ) (ub+64)
    | op=>∃δ,aop (λ_ _=>none) (eval E st.tm) st.ob st.tk st.ro (o.name st.fb ub) ub op=some δ/\K (st.app o.dst δ) (ub+64)
def Ws (E:Env) (Yf:YF):List AOpr->St->Nat->(St->Prop)->Prop
 | [],st,ub,K=>K { st with nx:=ub }
 | o::r,st,ub,K=>j8 E Yf o st ub λst ub=>Ws E Yf r st ub K
def jF (E:Env):List AOpr->St->Nat->(List FP->St->Prop)->Prop
 | [],st,ub,K=>K [] { st with nx:=ub }
 | o::r,st,ub,K=>
  match wanted o st.tm with
  | none=>False
  | some false=>jF E r (st.app o.dst { v:=ju }) (ub+64) λfs s=>K ({}::fs) s
  | some true=>match jB E o.nm (eval E st.tm) o.op with
   | some (f,xs)=>(E.sh o.nm f=false/\∃v,EvO E f xs st.ob st.tk ((st.fb+o.dst.getD 0+1)*1024) (ub+64*(r.length+1)) v/\∃δ,Xf ub v=some δ /\
    jF E r (st.app o.dst δ) (ub+64) λfs s=>K ({ wt:=δ.wt,all:=true,seen:=λl=>(st.ob l).isSome }::fs) s) \/
    (E.sh o.nm f=true/\E.tw f=true/\∃a' v,xs.mapM (WL st.ob)=some a'/\Ev E f a' v/\∃δ,Qj (o.name st.fb ub) ub v=some δ /\
    jF E r (st.app o.dst δ) (ub+64) λfs s=>K ({ wo:=δ.wo,all:=true,seen:=λl=>(st.ob l).isSome,nw:=true }::fs) s) \/
    (E.sh o.nm f=true/\E.tw f=false/\∃δ,mkD E f xs (o.name st.fb ub) ub=some δ/\jF E r (st.app o.dst δ) (ub+64) λfs s=>K ({ wo:=δ.wo,nw:=true }::fs) s)
   | none=>o.op.far=false/\match o.op with
    | .call f xs=>(xs.all λx=>(eval E st.tm x).strip.pureTop)=true/\∃v,Ev E f (xs.map λx=>(eval E st.tm x).strip) v/\∃δ,Xf ub v=some δ/\jF E r (st.app o.dst δ) (ub+64) λfs s=>K (jb6 (eval E st.tm) o.op δ::fs) s
    | .callV q xs=>∃f first captured,eval E st.tm q=.fn (.func f) first captured/\((first++xs.map (eval E st.tm)++captured).map V.strip).all V.pureTop=true/\∃v,Ev E f ((first++xs.map (eval E st.tm)++captured).map V.strip) v/\∃δ,Xf ub v=some δ /\
     jF E r (st.app o.dst δ) (ub+64) λfs s=>K (jb6 (eval E st.tm) o.op δ::fs) s
    | op=>∃δ,aop (λ_ _=>none) (eval E st.tm) st.ob st.tk st.ro (o.name st.fb ub) ub op=some δ/\jF E r (st.app o.dst δ) (ub+64) λfs s=>K (jb6 (eval E st.tm) o.op δ::fs) s
def YW (W:St->(Ex->St->Prop)->Prop):Nat->St->(Ex->St->Prop)->Prop
 | 0,_,_=>False
 | n+1,st,Q=>W st λe s=>match e with
  | .nrm=>YW W n s Q
  | e=>Q e s
def wpC (E:Env) (Yf:YF):C->St->(Ex->St->Prop)->Prop
 | .skip,st,Q=>Q .nrm st
 | .region ops,st,Q=>Ws E Yf ops st st.nx λs=>Q .nrm s
 | .draw ops free,st,Q=>jF E ops st st.nx λfs s=>X5 free fs=true/\jah fs=true/\Q .nrm s
 | .pin o fs,st,Q=>j8 E Yf o st st.nx λs ub=>jF E fs s ub λ_ s'=>jds fs st s'=true/\Q .nrm s'
 | .seq a b,st,Q=>wpC E Yf a st λe s=>match e with
  | .nrm=>wpC E Yf b s Q
  | e=>Q e s
 | .cond c a b,st,Q=>∃t,eval E st.tm c=.bool t/\(t=true->wpC E Yf a st Q)/\(t=false->wpC E Yf b st Q)
 | .block id a,st,Q=>wpC E Yf a st λe s=>match e with
  | .exit i=>if i=id then Q .nrm s else Q (.exit i) s
  | e=>Q e s
 | .loop a,st,Q=>∃N,YW (wpC E Yf a) N st Q
 | .exit id,st,Q=>Q (.exit id) st
 | .ret,st,Q=>Q .ret st
 | .rangeFunc f ps asg bd,st,Q=>WY E Yf (.rangeFunc f ps asg bd) st Q
 | .stuck,_,_=>False
theorem jb0 (E:Env) (n:Nat) (y:Y):(callers E n y).d=(callers E n noY).d:=by cases n <;> rfl
theorem jlt (E:Env) (n:Nat) (y:Y):(callers E n y).o=(callers E n noY).o:=by cases n <;> rfl
theorem jwu (E:Env) (n:Nat) (y:Y):(callers E n y).y=y:=by cases n <;> rfl
section
variable {E:Env}{Yf:YF}
theorem jgm {a:Type}{p:a->Prop}{l m:List a}(c:∀x∈l,p x) (b:∀x∈m,p x):∀x∈l++m,p x:=λx d=>(aO.1 d).elim (c x) (b x)
theorem QR {j k:Type}{f:Nat->j->Option (List k)}(b:∀n m,n<=m->∀a,le (f n a) (f m a)) {Q:k->Prop}:∀ (l:List j),l≠[]->(∀a∈l,∃n r,f n a=some r/\r≠[]/\∀x∈r,Q x) ->
 ∃n r,(∀m,n<=m->Qy (f m) l=some r)/\r≠[]/\∀x∈r,Q x
 | [],h,_=>absurd rfl h
 | [x],_,h=>by obtain⟨n,r,i,c,d⟩:=h x (ae.2 rfl);exact⟨n,r,λm o=>b n m o x r i,c,d⟩
 | x::y::l,_,h=>by obtain⟨n,r,i,c,d⟩:=h x (aP ..);obtain⟨p,s,e,q,g⟩:=QR b (y::l) zS (λa t=>h a (bf _ t));refine⟨max n p,r++s,λm o=>?_,by simp[c],jgm d g⟩;simp only[Qy];rw[b n m zO x r i,e m zO];rfl
abbrev cs (E:Env) (n:Nat):Y->Callers:=callers E n
theorem XG (n m:Nat) (h:n<=m):FLe (cs E n) (cs E m):=Jl n m h
theorem jsy {o:AOpr}{st:St}{ub:Nat}{K:St->Nat->Prop}(h:j8 E Yf o st ub K):∃n l,step E (cs E n (Yf.y n)) o st ub=some l/\l≠[]/\∀x∈l,K x.1 x.2:=by
 have one:∀ {s:St}{u:Nat},K s u->∀x∈[(s,u)],K x.1 x.2:=λh x F=>by rw[ae]at F;subst F;exact h
 unfold j8 at h;unfold step;cases J:wanted o st.tm with
 | none=>simp only[J]at h
 | some b=>
  cases b with
  | false=>simp only[J]at h;exact⟨0,_,rfl,cV _ _,one h⟩
  | true=>
   simp only[J]at h;cases D:jk (eval E st.tm) o.op with
   | some x=>obtain⟨l,u,p⟩:=x;simp only[D]at h;obtain⟨r,⟨n,L⟩,g⟩:=h;exact⟨n,[({ st with tm:=put st.tm o.dst r.1,ob:=r.2.1,tk:=r.2.2.1 },r.2.2.2)],by simp only[cs,jwu,L,aU],cV _ _,one g⟩
   | none=>
   simp only[D]at h ⊢;cases z:jB E o.nm (eval E st.tm) o.op with
   | some P=>obtain⟨f,p⟩:=P;simp only[z]at h;rcases h with⟨B,n,l,L,k,g⟩|⟨B,v,⟨n,M⟩,c,i,g⟩;refine⟨n,l.map λx=>({ st with tm:=put st.tm o.dst x.1,ob:=x.2.1,tk:=x.2.2.1 },x.2.2.2),?_,by simpa using k,λx F=>?_⟩;simp only[B,if_true,cs,L,aU];obtain⟨r,H,rfl⟩:=aJ.1 F;exact g r H;refine⟨n,[(st.app o.dst c,ub+64)],?_,cV _ _,one g⟩;simp only[B,aj,if_false,cs,jlt,M,am,i,aU]
   | none=>
    simp only[z]at h;have j:∀ {f:FuncId}{p:List V},Qq E f p st o.dst ub K->∃n c,jcz (cs E n (Yf.y n)).d ub f p=some c/\K (st.app o.dst c) (ub+64):=by rintro f p ⟨O,v,⟨n,M⟩,c,i,g⟩;exact⟨n,c,by simp only[jcz,O,if_true,cs,jb0,M,am,i],g⟩
    split at h;rename_i f p m;obtain⟨n,c,N,g⟩:=j h;refine⟨n,[(st.app o.dst c,ub+64)],?_,cV _ _,one g⟩;simp only[m,AOp.next?,aop,N,aU];rename_i q p m;obtain⟨f,first,t,I,h⟩:=h;obtain⟨n,c,N,g⟩:=j h;refine⟨n,[(st.app o.dst c,ub+64)],?_,cV _ _,one g⟩;simp only[m,AOp.next?,aop,I,N,aU];rename_i x m;obtain⟨l,a,g⟩:=h;refine⟨0,l.map λc=>(st.app o.dst c,ub+64),?_,?_,λy D=>?_⟩;simp only[m,AOp.next?,a,aU];intro e;have G:l=[]:=fU.1 e;subst G;unfold jm7 at a;split at a;split at a;split at a;split at a;cases a;rename_i U k;simp only[ab]at a;unfold jkm at a;split at a;exact k rfl;cases a;cases a;split at a;cases a;cases a;cases a;cases a;obtain⟨c,i,rfl⟩:=aJ.1 D;exact g c i;rename_i X B T Q;obtain⟨c,i,g⟩:=h;refine⟨0,[(st.app o.dst c,ub+64)],?_,cV _ _,one g⟩;have S:o.op.next? = none:=by
     cases m:o.op with
     | nextMap x=>exact absurd m (Q x)
     | _=>rfl
    have w:aop (cs E 0 (Yf.y 0)).d (eval E st.tm) st.ob st.tk st.ro (o.name st.fb ub) ub o.op=some c:=jb4 (λ_ _ _ h=>by cases h) _ _ _ _ _ _ _ _ i;simp only[S,w,aU]
theorem j10:∀ {ops:List AOpr}{st:St}{ub:Nat}{K:St->Prop},Ws E Yf ops st ub K->∃n l,jiu E (cs E n (Yf.y n)) ops st ub=some l/\l≠[]/\∀x∈l,K x
 | [],st,ub,K,h=>⟨0,_,rfl,cV _ _,λx a=>by rw[ae]at a;subst a;exact h⟩
 | o::r,st,ub,K,h=>by obtain⟨n,l,p,i,j⟩:=jsy h;obtain⟨e,k,c,b,d⟩:=QR (f:=λn (x:St × Nat)=>jiu E (cs E n (Yf.y n)) r x.1 x.2) (λn m g x=>jfe (XG n m g _ _ (Yf.mono g)) r x.1 x.2) l i (λx a=>j10 (j x a));refine⟨max n e,k,?_,b,d⟩;simp only[jiu,bindL];rw[ja0 (XG n (max n e) zO _ _ (Yf.mono zO)) o st ub l p];exact c _ zO
theorem jao:∀ {ops:List AOpr}{st:St}{ub:Nat}{K:List FP->St->Prop},jF E ops st ub K->∃n p,YI E (cs E n (Yf.y n)) ops st ub=some p/\K p.1 p.2
 | [],st,ub,K,h=>⟨0,_,rfl,h⟩
 | o::r,st,ub,K,h=>by
  unfold jF at h;unfold YI;cases H:wanted o st.tm with
  | none=>simp only[H]at h
  | some b=>
   cases b with
   | false=>simp only[H]at h;obtain⟨n,p,g,e⟩:=jao h;exact⟨n,({}::p.1,p.2),by simp only[g,aU],e⟩
   | true=>
    simp only[H]at h;simp only;cases z:jB E o.nm (eval E st.tm) o.op with
    | some M=>
     obtain⟨f,B⟩:=M;simp only[z]at h;rcases h with h|⟨u,i,L,v,J,⟨n,m⟩,δ,a,h⟩|⟨u,i,δ,a,h⟩;case inr.inr=>obtain⟨c,p,g,e⟩:=jao h;refine⟨c,({ wo:=δ.wo,nw:=true }::p.1,p.2),?_,e⟩;simp only[u,i,if_true,aj,if_false,a,am,g,aU]
     case inr.inl=>
      obtain⟨c,p,g,e⟩:=jao h;refine⟨max n c,({ wo:=δ.wo,all:=true,seen:=λl=>(st.ob l).isSome,nw:=true }::p.1,p.2),?_,e⟩;have k:(cs E n (Yf.y n)).d f L=some v:=by rw[cs,jb0];exact m
      simp only[u,i,if_true,J,am];rw[(XG n (max n c) zO _ _ (Yf.mono zO)).d _ _ _ k];simp only[am,a];rw[Je (XG c (max n c) zO _ _ (Yf.mono zO)) _ _ _ _ g];rfl
     obtain⟨u,v,⟨n,m⟩,δ,a,h⟩:=h;obtain⟨c,p,g,e⟩:=jao h;refine⟨max n c,({ wt:=δ.wt,all:=true,seen:=λl=>(st.ob l).isSome }::p.1,p.2),?_,e⟩;simp only[u,aj,if_false];have k:(cs E n (Yf.y n)).o f B st.ob st.tk ((st.fb+o.dst.getD 0+1)*1024) (ub+64*(r.length+1))=some v:=by rw[cs,jlt];exact m
     rw[(XG n (max n c) zO _ _ (Yf.mono zO)).o _ _ _ _ _ _ _ k];simp only[am,a];rw[Je (XG c (max n c) zO _ _ (Yf.mono zO)) _ _ _ _ g];rfl
    | none=>
     simp only[z]at h;obtain⟨w,h⟩:=h;simp only[w,aj,if_false];have j:∀ {n:Nat}{δ:Delta},aop (cs E n (Yf.y n)).d (eval E st.tm) st.ob st.tk st.ro (o.name st.fb ub) ub o.op=some δ->jF E r (st.app o.dst δ) (ub+64) (λfs s=>K (jb6 (eval E st.tm) o.op δ::fs) s) ->
      ∃n p,((aop (cs E n (Yf.y n)).d (eval E st.tm) st.ob st.tk st.ro (o.name st.fb ub) ub o.op).bind λδ=>(YI E (cs E n (Yf.y n)) r (st.app o.dst δ) (ub+64)).map λx=>(jb6 (eval E st.tm) o.op δ::x.1,x.2))=some p/\K p.1 p.2:=by
      intro n δ a h
      obtain⟨c,p,g,e⟩:=jao h
      refine⟨max n c,(jb6 (eval E st.tm) o.op δ::p.1,p.2),?_,e⟩
      rw[jb4 (XG n (max n c) zO _ _ (Yf.mono zO)).d _ _ _ _ _ _ _ _ a,am,Je (XG c (max n c) zO _ _ (Yf.mono zO)) _ _ _ _ g]
      rfl
     split at h;rename_i f B I;obtain⟨G,v,⟨n,m⟩,δ,a,h⟩:=h;refine j (n:=n) (δ:=δ) ?_ h;have F:(B.map λx=>(eval E st.tm x).strip).all V.pureTop=true:=by rw[dF];exact G
     simp only[I,aop,jcz,F,if_true,cs,jb0,m,am,a];rename_i q B I;obtain⟨f,first,t,D,G,v,⟨n,m⟩,δ,a,h⟩:=h;refine j (n:=n) (δ:=δ) ?_ h;simp only[I,aop,D,jcz,G,if_true,cs,jb0,m,am,a];obtain⟨δ,a,h⟩:=h;exact j (n:=0) (jb4 (λ_ _ _ h=>by cases h) _ _ _ _ _ _ _ _ a) h
theorem j22:∀ {c:C}{st:St}{Q:Ex->St->Prop},wpC E Yf c st Q->WY E Yf c st Q:=by
 intro c;induction c with
 | skip=>intro st Q h;exact⟨0,_,rfl,zS,λx d=>by rw[ae]at d;subst d;exact h⟩
 | ret=>intro st Q h;exact⟨0,_,rfl,zS,λx d=>by rw[ae]at d;subst d;exact h⟩
 | exit id=>intro st Q h;exact⟨0,_,rfl,zS,λx d=>by rw[ae]at d;subst d;exact h⟩
 | stuck=>intro st Q h;exact h.elim
 | rangeFunc f ps a b=>intro st Q h;exact h
 | region O=>intro st Q h;obtain⟨n,l,j,g,w⟩:=j10 h;refine⟨n,l.map λs=>(.nrm,s),by simp only[je];rw[j];rfl,by simpa using g,λx d=>?_⟩;obtain⟨s,P,rfl⟩:=aJ.1 d;exact w s P
 | pin o fs=>
  intro st Q h;obtain⟨n,l,j,g,w⟩:=jsy h;obtain⟨F,I,B,u,D⟩:=QR (f:=λn (x:St × Nat)=>(YI E (cs E n (Yf.y n)) fs x.1 x.2).bind λp=>if jds fs st p.2 then some [(Ex.nrm,p.2)] else none) (Q:=λx=>Q x.1 x.2) (λn m z x=>(Je (XG n m z _ _ (Yf.mono z)) fs x.1 x.2).bind λ_=>le.rfl' _) l g (λx d=>by
   obtain⟨k,p,M,P,hQ⟩:=jao (w x d);exact⟨k,[(.nrm,p.2)],by rw[M,am,if_pos P],cV _ _,λy hy=>by rw[ae]at hy;subst hy;exact hQ⟩)
  refine⟨max n F,I,?_,u,D⟩;simp only[je,bindL];rw[ja0 (XG n (max n F) zO _ _ (Yf.mono zO)) o st st.nx l j];exact B _ zO
 | draw O free=>intro st Q h;obtain⟨n,p,j,g,u,w⟩:=jao h;refine⟨n,[(.nrm,p.2)],?_,zS,λx d=>by rw[ae]at d;subst d;exact w⟩;simp only[je];rw[j];simp only[am,g,u,cB,if_true]
 | seq a b G H=>
  intro st Q h;obtain⟨n,l,j,g,w⟩:=G h;obtain⟨F,I,B,u,D⟩:=QR (f:=λn (x:Ex × St)=>match x with
   | (.nrm,st')=>je E (cs E n) (Yf.y n) n b st'
   | (e,st')=>some [(e,st')]) (Q:=λx=>Q x.1 x.2) (λn m z x=>by
    obtain⟨e,s⟩:=x;cases e;exact jj (XG n m z) z b _ _ (Yf.mono z) s;exact le.rfl' _;exact le.rfl' _) l g (λx d=>by
    obtain⟨e,s⟩:=x;have:=w _ d;cases e with
    | nrm=>exact H this
    | exit i=>exact⟨0,_,rfl,zS,λx d=>by rw[ae]at d;subst d;exact this⟩
    | ret=>exact⟨0,_,rfl,zS,λx d=>by rw[ae]at d;subst d;exact this⟩)
  refine⟨max n F,I,?_,u,D⟩;simp only[je,bindL];rw[jj (XG n (max n F) zO) zO a _ _ (Yf.mono zO) st l j];exact B _ zO
 | cond q a b G H=>
  intro st Q h;obtain⟨t,Z,j,g⟩:=h;cases t with
  | true=>obtain⟨n,l,J,U,K⟩:=G (j rfl);exact⟨n,l,by simp only[je,Z];exact J,U,K⟩
  | false=>obtain⟨n,l,J,U,K⟩:=H (g rfl);exact⟨n,l,by simp only[je,Z];exact J,U,K⟩
 | block id a X=>
  intro st Q h;obtain⟨n,l,j,g,w⟩:=X h;refine⟨n,_,by simp only[je];rw[j];rfl,by simpa using g,λx d=>?_⟩;obtain⟨p,M,rfl⟩:=aJ.1 d;have:=w p M;obtain⟨e,s⟩:=p;cases e with
  | nrm=>exact this
  | ret=>exact this
  | exit i=>simp only at this ⊢;split at this;rename_i T;simp only[T,if_true];exact this;rename_i T;simp only[T,if_false];exact this
 | loop a X=>
  intro st Q h;obtain⟨N,h⟩:=h;have L:∀ (N:Nat) (st:St),YW (wpC E Yf a) N st Q->∃n l,(∀m k,n<=m->n<=k->jbl (je E (cs E m) (Yf.y m) m a) k st=some l)/\l≠[]/\∀x∈l,Q x.1 x.2:=by
   intro N;induction N with
   | zero=>intro st h;exact h.elim
   | succ N S=>
    intro st h;obtain⟨n,l,j,g,w⟩:=X h;obtain⟨F,I,B,u,D⟩:=QR (f:=λn (x:Ex × St)=>match x with
     | (.nrm,st')=>jbl (je E (cs E n) (Yf.y n) n a) n st'
     | (e,st')=>some [(e,st')]) (Q:=λx=>Q x.1 x.2) (λn m z x=>by
      obtain⟨e,s⟩:=x;cases e;exact Qa (λs=>jj (XG n m z) z a _ _ (Yf.mono z) s) n m z s;exact le.rfl' _;exact le.rfl' _) l g (λx d=>by
      obtain⟨e,s⟩:=x;have:=w _ d;cases e with
      | nrm=>obtain⟨k,r,q1,q2,q3⟩:=S s this;exact⟨k,r,q1 k k zK zK,q2,q3⟩
      | exit i=>exact⟨0,_,rfl,zS,λx d=>by rw[ae]at d;subst d;exact this⟩
      | ret=>exact⟨0,_,rfl,zS,λx d=>by rw[ae]at d;subst d;exact this⟩)
    refine⟨max n F+1,I,λm k z hk=>?_,u,D⟩;obtain⟨k,rfl⟩:∃k',k=k'+1:=⟨k - 1,zO⟩;simp only[jbl,bindL];rw[jj (XG n m zO) zO a _ _ (Yf.mono zO) st l j];have e1:=B (max n F) zO;refine jaq (λx=>?_) l I e1;obtain⟨e,s⟩:=x;cases e;exact Qa (λs=>jj (XG _ m zO) zO a _ _ (Yf.mono zO) s) _ k zO s;exact le.rfl' _;exact le.rfl' _
  obtain⟨n,l,j,g,w⟩:=L N st h;exact⟨n,l,j n n zK zK,g,w⟩
theorem Ev_wp {f:FuncId}{af:AF}{args:List V}{r:V}(a:E.fc f=some af) (h:wpC E YC af.body (start args) λe s=>jas af.res (e,s)=some r):Ev E f args r:=Ev_of a (j22 h)
theorem WS {o:AOpr}{st:St}{ub:Nat}{K z:St->Nat->Prop}(h:∀s u,K s u->z s u) (a:j8 E Yf o st ub K):j8 E Yf o st ub z:=by
 have call:∀ {f:FuncId}{i:List V},Qq E f i st o.dst ub K->Qq E f i st o.dst ub z:=by rintro f i ⟨D,v,y,g,c,e⟩;exact⟨D,v,y,g,c,h _ _ e⟩
 unfold j8 at a ⊢;cases t:wanted o st.tm with
 | none=>simp only[t]at a
 | some b=>
  cases b with
  | false=>simp only[t]at a ⊢;exact h _ _ a
  | true=>
   simp only[t]at a ⊢;cases B:jk (eval E st.tm) o.op with
   | some x=>obtain⟨l,u,i⟩:=x;simp only[B]at a ⊢;obtain⟨r,w,e⟩:=a;exact⟨r,w,h _ _ e⟩
   | none=>
   simp only[B]at a ⊢;cases j:jB E o.nm (eval E st.tm) o.op with
   | some I=>simp only[j]at a ⊢;rcases a with⟨p,n,l,w,k,e⟩|⟨p,v,y,g,c,e⟩;exact .inl ⟨p,n,l,w,k,λr H=>h _ _ (e r H)⟩;exact .inr ⟨p,v,y,g,c,h _ _ e⟩
   | none=>
    simp only[j]at a ⊢;cases F:o.op <;> simp only[F]at a ⊢;case call f i=>exact call a
    case callV q i=>obtain⟨f,first,d,m,a⟩:=a;exact⟨f,first,d,m,call a⟩
    case nextMap x=>obtain⟨l,G,e⟩:=a;exact⟨l,G,λg c=>h _ _ (e g c)⟩
    all_goals
     obtain⟨g,c,e⟩:=a
     exact⟨g,c,h _ _ e⟩
theorem jb8:∀ {ops:List AOpr}{st:St}{ub:Nat}{K a:St->Prop},(∀s,K s->a s)->Ws E Yf ops st ub K->Ws E Yf ops st ub a
 | [],_,_,_,_,h,hk=>h _ hk
 | _::_,_,_,_,_,h,hk=>WS (λ_ _=>jb8 h) hk
theorem J7:∀ {ops:List AOpr}{st:St}{ub:Nat}{K p:List FP->St->Prop},(∀f s,K f s->p f s)->jF E ops st ub K->jF E ops st ub p
 | [],_,_,_,_,h,c=>h _ _ c
 | o::r,st,ub,K,p,h,c=>by
  unfold jF at c ⊢;cases l:wanted o st.tm with
  | none=>simp only[l]at c
  | some b=>
   cases b with
   | false=>simp only[l]at c ⊢;exact J7 (λ_ _=>h _ _) c
   | true=>
    simp only[l]at c ⊢;cases k:jB E o.nm (eval E st.tm) o.op with
    | some x=>simp only[k]at c ⊢;rcases c with⟨i,v,j,e,a,g⟩|⟨i,m,w,v,u,j,e,a,g⟩|⟨i,m,e,a,g⟩;exact .inl ⟨i,v,j,e,a,J7 (λ_ _=>h _ _) g⟩;exact .inr (.inl ⟨i,m,w,v,u,j,e,a,J7 (λ_ _=>h _ _) g⟩);exact .inr (.inr ⟨i,m,e,a,J7 (λ_ _=>h _ _) g⟩)
    | none=>
     simp only[k]at c ⊢;refine⟨c.1,?_⟩;have c:=c.2;cases t:o.op <;> simp only[t]at c ⊢;case call f xs=>obtain⟨i,v,j,e,a,g⟩:=c;exact⟨i,v,j,e,a,J7 (λ_ _=>h _ _) g⟩
     case callV q xs=>obtain⟨f,first,d,n,i,v,j,e,a,g⟩:=c;exact⟨f,first,d,n,i,v,j,e,a,J7 (λ_ _=>h _ _) g⟩
     all_goals
      obtain⟨e,a,g⟩:=c
      exact⟨e,a,J7 (λ_ _=>h _ _) g⟩
theorem Qz {W:St->(Ex->St->Prop)->Prop}(c:∀ (st:St) (Q a:Ex->St->Prop),(∀e s,Q e s->a e s)->W st Q->W st a):∀ {n:Nat}{st:St}{Q a:Ex->St->Prop},(∀e s,Q e s->a e s)->YW W n st Q->YW W n st a
 | 0,_,_,_,_,h=>h
 | n+1,st,Q,a,h,hk=>c st _ _ (λe s b=>by
  cases e;exact Qz (W:=W) c h b;exact h _ _ b;exact h _ _ b) hk
theorem X7:∀ {c:C}{st:St}{Q g:Ex->St->Prop},(∀e s,Q e s->g e s)->wpC E Yf c st Q->wpC E Yf c st g:=by
 intro c;induction c with
 | skip=>intro st Q g h d;exact h _ _ d
 | ret=>intro st Q g h d;exact h _ _ d
 | exit id=>intro st Q g h d;exact h _ _ d
 | stuck=>intro st Q g h d;exact d
 | rangeFunc f G a b=>intro st Q g h d;obtain⟨n,l,r,p,D⟩:=d;exact⟨n,l,r,p,λx F=>h _ _ (D x F)⟩
 | region w=>intro st Q g h d;exact jb8 (λs=>h _ s) d
 | draw w free=>intro st Q g h d;exact J7 (λf s j=>⟨j.1,j.2.1,h _ _ j.2.2⟩) d
 | pin o fs=>intro st Q g h d;exact WS (λs u j=>J7 (λf s j=>⟨j.1,h _ _ j.2⟩) j) d
 | seq a b k m=>intro st Q g h d;refine k (λe s i=>?_) d;cases e;exact m h i;exact h _ _ i;exact h _ _ i
 | cond q a b k m=>intro st Q g h d;obtain⟨t,B,r,p⟩:=d;exact⟨t,B,λe=>k h (r e),λe=>m h (p e)⟩
 | block id a z=>intro st Q g h d;refine z (λe s i=>?_) d;cases e;exact h _ _ i;simp only at i ⊢;split at i;rename_i y;simp only[y,if_true];exact h _ _ i;rename_i y;simp only[y,if_false];exact h _ _ i;exact h _ _ i
 | loop a z=>intro st Q g h d;obtain⟨N,d⟩:=d;exact⟨N,Qz (W:=wpC E Yf a) (λ_ _ _ h d=>z h d) h d⟩
theorem j23 {a:C}{Q:Ex->St->Prop}(I:Nat->St->Prop) {n:Nat}{st:St}(l:I n st)
 (h:∀k s,I k s->wpC E Yf a s λe g=>match e with|.nrm=>∃j,j<k/\I j g|e=>Q e g):wpC E Yf (.loop a) st Q:=by
 refine⟨n+1,?_⟩;have c:∀n st j,j<=n->I j st->YW (wpC E Yf a) (n+1) st Q:=by
  intro n;induction n with
  | zero=>intro st j o d;refine X7 (λe s b=>?_) (h j st d);cases e;obtain⟨i,m,_⟩:=b;omega;exact b;exact b
  | succ n p=>intro st j o d;refine X7 (λe s b=>?_) (h j st d);cases e;obtain⟨i,m,f⟩:=b;exact p s i zO f;exact b;exact b
 exact c n st n zK l
end
def jaa:V->Bool->Prop->Prop->Prop
 | .bool c,b,p,q=>(c=b->p)/\(c = !b->q)
 | .tup [],_,_,q=>q
 | _,_,_,_=>False
def wpIf:V->Prop->Prop->Prop
 | .bool c,p,q=>(c=true->p)/\(c=false->q)
 | _,_,_=>False
def wpV (o:Option V) (k:V->Prop):Prop:=∃v,o=some v/\k v
def wpD (o:Option Delta) (k:Delta->Prop):Prop:=∃v,o=some v/\k v
theorem jn2 (v:V) (k:V->Prop):wpV (some v) k=k v:=by simp[wpV]
theorem jn3 (k:V->Prop):wpV none k=False:=by simp[wpV]
theorem j24 (c:Prop) [Decidable c] (o:Option V) (k:V->Prop):wpV (if c then o else none) k=(c/\wpV o k):=by by_cases h:c <;> simp[h,wpV]
theorem jxc (c:Prop) [Decidable c] (o:Option V) (k:V->Prop):wpV (if c then none else o) k=(¬ c/\wpV o k):=by by_cases h:c <;> simp[h,wpV]
theorem jM (v:Delta) (k:Delta->Prop):wpD (some v) k=k v:=by simp[wpD]
theorem jat (k:Delta->Prop):wpD none k=False:=by simp[wpD]
theorem jek (c:Prop) [Decidable c] (o:Option Delta) (k:Delta->Prop):wpD (if c then o else none) k=(c/\wpD o k):=by by_cases h:c <;> simp[h,wpD]
theorem jxo (c:Prop) [Decidable c] (o:Option Delta) (k:Delta->Prop):wpD (if c then none else o) k=(¬ c/\wpD o k):=by by_cases h:c <;> simp[h,wpD]
def St.setT (st:St) (d:Option Nat) (v:V):St:={ st with tm:=put st.tm d v }
theorem jar (st:St) (d:Option Nat) (v:V):st.app d { v:=v } = st.setT d v:=by simp[St.app,JS,XZ,St.setT]
theorem j3p (st:St) (d n:Nat) (v:V):(st.setT (some d) v).tm n=if n=d then v else st.tm n:=by simp[St.setT,put,j5]
theorem jx9 (st:St) (n:Nat) (v:V):(st.setT none v).tm n=st.tm n:=rfl
theorem Ya (st:St) (d:Option Nat) (v:V):(st.setT d v).ob=st.ob:=rfl
theorem jmk (st:St) (d:Option Nat) (v:V):(st.setT d v).tk=st.tk:=rfl
theorem j3q (st:St) (d:Option Nat) (v:V):(st.setT d v).ro=st.ro:=rfl
theorem j3r (st:St) (d:Option Nat) (v:V):(st.setT d v).nx=st.nx:=rfl
theorem j3s (st:St) (d:Option Nat) (v:V):(st.setT d v).fb=st.fb:=rfl
theorem j3t (st:St) (d:Option Nat) (v:V):(st.setT d v).df=st.df:=rfl
def St.setN (st:St) (n:Nat):St:={ st with nx:=n }
theorem jml (st:St) (n:Nat):(st.setN n).tm=st.tm:=rfl
theorem JI (st:St) (n:Nat):(st.setN n).ob=st.ob:=rfl
theorem js7 (st:St) (n:Nat):(st.setN n).tk=st.tk:=rfl
theorem j3u (st:St) (n:Nat):(st.setN n).ro=st.ro:=rfl
theorem jij (st:St) (n:Nat):(st.setN n).nx=n:=rfl
theorem j3v (st:St) (n:Nat):(st.setN n).fb=st.fb:=rfl
theorem j3w (st:St) (n:Nat):(st.setN n).df=st.df:=rfl
theorem jlw (st:St) (d n:Nat) (δ:Delta):(st.app (some d) δ).tm n=if n=d then δ.v else st.tm n:=by simp[St.app,put,j5]
theorem j6q (st:St) (n:Nat) (δ:Delta):(st.app none δ).tm n=st.tm n:=rfl
theorem app_ro (st:St) (d:Option Nat) (δ:Delta):(st.app d δ).ro=st.ro:=rfl
theorem app_nx (st:St) (d:Option Nat) (δ:Delta):(st.app d δ).nx=st.nx:=rfl
theorem app_fb (st:St) (d:Option Nat) (δ:Delta):(st.app d δ).fb=st.fb:=rfl
theorem app_df (st:St) (d:Option Nat) (δ:Delta):(st.app d δ).df=st.df:=rfl
theorem app_ob (st:St) (d:Option Nat) (v:V) (del:Option Nat) (add:List Nat):(st.app d { v:=v,del:=del,add:=add }).ob=st.ob:=by simp[St.app,JS]
theorem ji (st:St) (d:Option Nat) (δ:Delta) (u:Nat):(st.app d δ).tk u=if u∈δ.add then true else if u∈δ.del.toList then false else st.tk u:=by simp only[St.app,jac]
theorem X6 (st:St) (d:Option Nat) (v:V) (l k:Nat) (o:Obj') (add:List Nat):(st.app d { v:=v,obs:=[(l,o)],add:=add }).ob k=if k=l then some o else st.ob k:=by simp[St.app,JS,j5]
theorem jxw (args:List V) (n:Nat):(start args).tm n=args.getD n ju:=rfl
theorem jxz (args:List V) (n:Nat):(start args).ob n=none:=rfl
theorem jxx (args:List V) (n:Nat):(start args).tk n=false:=rfl
theorem jxy (args:List V):(start args).ro=0:=rfl
theorem jx0 (args:List V):(start args).nx=0:=rfl
theorem jx1 (args:List V):(start args).fb=0:=rfl
theorem jx2 (args:List V):(start args).df=[]:=rfl
theorem eval_t (E:Env) (tm:Nat->V) (n:Nat):eval E tm (.t n)=tm n:=rfl
theorem eval_c (E:Env) (tm:Nat->V) (v:V):eval E tm (.c v)=v:=rfl
def jys:V->V->V->Option V
 | .bool t,a,b=>some (cond t a b)
 | _,_,_=>none
theorem jqy (t:Bool) (a b:V):jys (.bool t) a b=some (cond t a b):=rfl
def QI (ob:ZO) (g:Option Nat):V->Option V
 | .eptr cs off=>Xi g cs off
 | .ptr l u off=>(objCells ob l u).bind λcs=>Xi g cs off
 | _=>none
theorem jcn (ob:ZO) (g:Option Nat) (cs:List V) (off:Nat):QI ob g (.eptr cs off)=Xi g cs off:=rfl
theorem j4m (ob:ZO) (g:Option Nat) (l u off:Nat):QI ob g (.ptr l u off)=(objCells ob l u).bind λcs=>Xi g cs off:=rfl
def jbh:V->Option V
 | .ptr l u o=>some (.ptr l u o)
 | .eptr cs o=>some (.eptr cs o)
 | .fn (.func f) a b=>some (.fn (.func f) a b)
 | _=>none
def WM (off:Nat):V->Option V
 | .ptr l u o=>some (.ptr l u (o+off))
 | .eptr cs o=>some (.eptr cs (o+off))
 | _=>none
def JX (sz:Nat):V->V->Option V
 | .sl _ _ n cs,.int _ i=>if 0<=i/\i<n/\cs.length=n*sz then some (.eptr cs (i.toNat*sz)) else none
 | .osl l u off n sz',.int _ i=>if 0<=i/\i<n/\sz'=sz then some (.ptr l u (off+i.toNat*sz)) else none
 | _,_=>none
def W4 (len sz:Nat):V->V->Option V
 | .ptr l u off,.int _ i=>if 0<=i/\i<len then some (.ptr l u (off+i.toNat*sz)) else none
 | .eptr cs off,.int _ i=>if 0<=i/\i<len then some (.eptr cs (off+i.toNat*sz)) else none
 | _,_=>none
def j38 (g:Option Nat) (off:Nat):V->Option V
 | .agg cs=>Xi g cs off
 | _=>none
def QK:V->V->Option V
 | .str s,.int _ i=>if 0<=i then (s[i.toNat]?).map λb=>.int .u8 b.toNat else none
 | _,_=>none
def jam (g:Option Nat) (len sz:Nat):V->V->Option V
 | .agg cs,.int _ i=>if 0<=i/\i<len then Xi g cs (i.toNat*sz) else none
 | _,_=>none
def Xe (lo hi:Option V):V->Option V
 | .str s=>(Jg s.length s.length lo hi).map λ(l,h)=>.str ((s.take h).drop l)
 | _=>none
def YZ (sz:Nat) (lo hi:Option V):V->Option V
 | .sl _ nl n cs=>if cs.length=n*sz then (Jg n n lo hi).map λ(l,h)=>.sl none nl (h - l) ((cs.take (h*sz)).drop (l*sz)) else none
 | .osl a u off n sz'=>if sz'=sz then (Jg n n lo hi).map λ(l,h)=>.osl a u (off+l*sz) (h - l) sz else none
 | _=>none
def ji2:V->Option V
 | .str s=>some (.int .i64 s.length)
 | _=>none
def Qu:V->Option V
 | .sl _ _ n _=>some (.int .i64 n)
 | .osl _ _ _ n _=>some (.int .i64 n)
 | _=>none
def ji3 (ob:ZO):V->Option V
 | .nilmap=>some (.int .i64 0)
 | .map l u=>(jn ob l u).map λes=>.int .i64 es.length
 | _=>none
def jea (i:Nat):V->Option V
 | .tup vs=>vs[i]?
 | _=>none
def XN (k:IntKind):V->Option V
 | .int _ n=>some (.int k (k.wrap n))
 | _=>none
def jcj (isMax:Bool):List V->Option V
 | []=>none
 | x::r=>QH isMax x r
def jxa (ob:ZO) (neg:Bool) (k:EqK) (x y:V):Option V :=
 match k,x,y with
 | .ptr,.ptr l u off,.ptr l' u' off'=>if (objCells ob l u).isSome && (objCells ob l' u').isSome then some (.bool (xor neg (Nat.beq l l' && Nat.beq off off'))) else none
 | k,a,b=>(eqV k a b).map λb=>.bool (xor neg b)
def jak (ob:ZO) (q:LK) (zero:V) (ok:Bool) (m k:V):Option V :=
 if jbs q k then match m with
  | .nilmap=>some (if ok then .tup [zero,.bool false] else zero)
  | .map l u=>(jn ob l u).bind λes=>(findKey q k es).map λr=>match r with
   | some (_,v)=>if ok then .tup [v,.bool true] else v
   | none=>if ok then .tup [zero,.bool false] else zero
  | _=>none else none
section
variable {E:Env}{Yf:YF}{st:St}{ub:Nat}{K:St->Nat->Prop}{d:Option Nat}{nm:Bool}
theorem jxp {c:A}{a b:C}{Q:Ex->St->Prop}:wpC E Yf (.cond c a b) st Q=wpIf (eval E st.tm c) (wpC E Yf a st Q) (wpC E Yf b st Q):=by simp only[wpC];cases h:eval E st.tm c <;> simp[wpIf]
theorem jjp {op:AOp}{t:Nat}{b:Bool}:j8 E Yf ⟨d,op,some (t,b),nm⟩ st ub K=jaa (st.tm t) b (j8 E Yf ⟨d,op,none,nm⟩ st ub K) (K (st.setT d ju) ub):=by
 have a:AOpr.name ⟨d,op,some (t,b),nm⟩=AOpr.name ⟨d,op,none,nm⟩:=rfl;unfold j8;simp only[wanted,a];cases h:st.tm t with
 | bool c=>simp only[jaa];cases c <;> cases b <;> simp[St.setT]
 | tup l=>cases l <;> simp[jaa,St.setT]
 | _=>simp[jaa]
theorem jN (op:AOp) (h:op.isCall=false) (b:op.isNext=false):j8 E Yf ⟨d,op,none,nm⟩ st ub K=wpD (aop (λ_ _=>none) (eval E st.tm) st.ob st.tk st.ro (AOpr.name ⟨d,op,none,nm⟩ st.fb ub) ub op) λa=>K (st.app d a) (ub+64):=by cases op <;> first|cases h;done|cases b;done|simp only[j8,wanted,jk,jB,wpD]
theorem WU (v:V) (k:Delta->Prop):wpD (one v) k=k { v:=v }:=by simp[one,wpD]
theorem jdu (o:Option V) (k:Delta->Prop):wpD (o.bind one) k=wpV o λv=>k { v:=v }:=by cases o <;> simp[wpD,wpV,one]
theorem j26 {x:A}:j8 E Yf ⟨d,.mov x,none,nm⟩ st ub K=K (st.setT d (eval E st.tm x)) (ub+64):=by rw[jN _ rfl rfl];simp only[aop,WU,jar]
theorem jxe {c a b:A}:j8 E Yf ⟨d,.pick c a b,none,nm⟩ st ub K=wpV (jys (eval E st.tm c) (eval E st.tm a) (eval E st.tm b)) λv=>K (st.setT d v) (ub+64):=by rw[jN _ rfl rfl];simp only[aop];cases eval E st.tm c <;> simp only[jys,WU,jn2,jn3,jat,jar]
theorem j28 {op:BinOp}{x y:A}:j8 E Yf ⟨d,.bin op x y,none,nm⟩ st ub K=wpV (Xd op (eval E st.tm x) (eval E st.tm y)) λv=>K (st.setT d v) (ub+64):=by rw[jN _ rfl rfl];simp only[aop,jdu,jar]
theorem j7n {op:UnOp}{x:A}:j8 E Yf ⟨d,.un op x,none,nm⟩ st ub K=wpV (unV op (eval E st.tm x)) λv=>K (st.setT d v) (ub+64):=by rw[jN _ rfl rfl];simp only[aop,jdu,jar]
theorem jP {a:Type}(o:Option a) (f:a->V):(o.bind λx=>one (f x))=(o.map f).bind one:=by cases o <;> rfl
theorem jd (c:Prop) [Decidable c] (v:Option V):(if c then v.bind one else none)=(if c then v else none).bind one:=by split <;> rfl
theorem X3 (c:Prop) [Decidable c] (v:V):(if c then one v else none)=(if c then some v else none).bind one:=by split <;> rfl
theorem QJ {a:Type}(c:Prop) [Decidable c] (o:Option a) (f:a->V):(if c then o.bind λx=>one (f x) else none)=(if c then o.map f else none).bind one:=by split;exact jP _ _;rfl
theorem Jm {op:AOp}{o:Option V}(h:op.isCall=false) (c:op.isNext=false) (b:∀a,aop (λ_ _=>none) (eval E st.tm) st.ob st.tk st.ro a ub op=o.bind one):j8 E Yf ⟨d,op,none,nm⟩ st ub K=wpV o λv=>K (st.setT d v) (ub+64):=by rw[jN _ h c,b,jdu];simp only[jar]
theorem j7o {neg:Bool}{k:EqK}{x y:A}:j8 E Yf ⟨d,.eq neg k x y,none,nm⟩ st ub K=wpV (jxa st.ob neg k (eval E st.tm x) (eval E st.tm y)) λv=>K (st.setT d v) (ub+64):=by refine Jm rfl rfl λa=>?_;simp only[aop,jxa];generalize eval E st.tm x=vx;generalize eval E st.tm y=vy;cases k <;> first|rfl|exact jP _ _|(cases vx <;> first|rfl|exact jP _ _|(cases vy <;> (first|rfl|exact X3 _ _|exact jd _ _|exact jP _ _|exact(bQ ..).symm)))
theorem jxh {g:Option Nat}{x:A}:j8 E Yf ⟨d,.load g x,none,nm⟩ st ub K=wpV (QI st.ob g (eval E st.tm x)) λv=>K (st.setT d v) (ub+64):=by refine Jm rfl rfl λa=>?_;simp only[aop,QI];generalize eval E st.tm x=vx;cases vx <;> (first|rfl|exact X3 _ _|exact jd _ _|exact jP _ _|exact(bQ ..).symm)
theorem jjr {x:A}:j8 E Yf ⟨d,.nilCheck x,none,nm⟩ st ub K=wpV (jbh (eval E st.tm x)) λv=>K (st.setT d v) (ub+64):=by refine Jm rfl rfl λa=>?_;simp only[aop,jbh];generalize eval E st.tm x=vx;cases vx <;> (first|rfl|exact X3 _ _|exact jd _ _|exact jP _ _|exact(bQ ..).symm|(rename_i f _ _;cases f <;> rfl)|exact QJ _ _ _)
theorem jib {off:Nat}{x:A}:j8 E Yf ⟨d,.fieldAddr off x,none,nm⟩ st ub K=wpV (WM off (eval E st.tm x)) λv=>K (st.setT d v) (ub+64):=by refine Jm rfl rfl λa=>?_;simp only[aop,WM];generalize eval E st.tm x=vx;cases vx <;> (first|rfl|exact X3 _ _|exact jd _ _|exact jP _ _|exact(bQ ..).symm)
theorem jsh {sz:Nat}{x i:A}:j8 E Yf ⟨d,.idxSl sz x i,none,nm⟩ st ub K=wpV (JX sz (eval E st.tm x) (eval E st.tm i)) λv=>K (st.setT d v) (ub+64):=by refine Jm rfl rfl λa=>?_;simp only[aop,JX];generalize eval E st.tm x=vx;generalize eval E st.tm i=vi;cases vx <;> first|rfl|(cases vi <;> (first|rfl|exact X3 _ _|exact jd _ _|exact jP _ _|exact(bQ ..).symm))
theorem jqc {len sz:Nat}{x i:A}:j8 E Yf ⟨d,.idxArr len sz x i,none,nm⟩ st ub K=wpV (W4 len sz (eval E st.tm x) (eval E st.tm i)) λv=>K (st.setT d v) (ub+64):=by refine Jm rfl rfl λa=>?_;simp only[aop,W4];generalize eval E st.tm x=vx;generalize eval E st.tm i=vi;cases vx <;> first|rfl|(cases vi <;> (first|rfl|exact X3 _ _|exact jd _ _|exact jP _ _|exact(bQ ..).symm))
theorem jxf {g:Option Nat}{off:Nat}{x:A}:j8 E Yf ⟨d,.part g off x,none,nm⟩ st ub K=wpV (j38 g off (eval E st.tm x)) λv=>K (st.setT d v) (ub+64):=by refine Jm rfl rfl λa=>?_;simp only[aop,j38];generalize eval E st.tm x=vx;cases vx <;> (first|rfl|exact X3 _ _|exact jd _ _|exact jP _ _|exact(bQ ..).symm)
theorem jqb {x i:A}:j8 E Yf ⟨d,.idxStr x i,none,nm⟩ st ub K=wpV (QK (eval E st.tm x) (eval E st.tm i)) λv=>K (st.setT d v) (ub+64):=by refine Jm rfl rfl λa=>?_;simp only[aop,QK];generalize eval E st.tm x=vx;generalize eval E st.tm i=vi;cases vx <;> first|rfl|(cases vi <;> (first|rfl|exact X3 _ _|exact jd _ _|exact jP _ _|exact(bQ ..).symm|(rename_i f _ _;cases f <;> rfl)|exact QJ _ _ _))
theorem jqa {g:Option Nat}{len sz:Nat}{x i:A}:j8 E Yf ⟨d,.idxVal g len sz x i,none,nm⟩ st ub K=wpV (jam g len sz (eval E st.tm x) (eval E st.tm i)) λv=>K (st.setT d v) (ub+64):=by refine Jm rfl rfl λa=>?_;simp only[aop,jam];generalize eval E st.tm x=vx;generalize eval E st.tm i=vi;cases vx <;> first|rfl|(cases vi <;> (first|rfl|exact X3 _ _|exact jd _ _|exact jP _ _|exact(bQ ..).symm))
theorem jsf {x:A}{lo hi:Option A}:j8 E Yf ⟨d,.slStr x lo hi,none,nm⟩ st ub K=wpV (Xe (lo.map (eval E st.tm)) (hi.map (eval E st.tm)) (eval E st.tm x)) λv=>K (st.setT d v) (ub+64):=by refine Jm rfl rfl λa=>?_;simp only[aop,Xe];generalize eval E st.tm x=vx;cases vx <;> (first|rfl|exact X3 _ _|exact jd _ _|exact jP _ _|exact(bQ ..).symm)
theorem jxd {sz:Nat}{x:A}{lo hi:Option A}:j8 E Yf ⟨d,.slSl sz x lo hi,none,nm⟩ st ub K=wpV (YZ sz (lo.map (eval E st.tm)) (hi.map (eval E st.tm)) (eval E st.tm x)) λv=>K (st.setT d v) (ub+64):=by refine Jm rfl rfl λa=>?_;simp only[aop,YZ];generalize eval E st.tm x=vx;cases vx <;> (first|rfl|exact X3 _ _|exact jd _ _|exact jP _ _|exact(bQ ..).symm|(rename_i f _ _;cases f <;> rfl)|exact QJ _ _ _)
theorem jp8 {x:A}:j8 E Yf ⟨d,.lenStr x,none,nm⟩ st ub K=wpV (ji2 (eval E st.tm x)) λv=>K (st.setT d v) (ub+64):=by refine Jm rfl rfl λa=>?_;simp only[aop,ji2];generalize eval E st.tm x=vx;cases vx <;> (first|rfl|exact X3 _ _|exact jd _ _|exact jP _ _|exact(bQ ..).symm)
theorem jsg {x:A}:j8 E Yf ⟨d,.lenSl x,none,nm⟩ st ub K=wpV (Qu (eval E st.tm x)) λv=>K (st.setT d v) (ub+64):=by refine Jm rfl rfl λa=>?_;simp only[aop,Qu];generalize eval E st.tm x=vx;cases vx <;> (first|rfl|exact X3 _ _|exact jd _ _|exact jP _ _|exact(bQ ..).symm)
theorem jp9 {x:A}:j8 E Yf ⟨d,.lenMap x,none,nm⟩ st ub K=wpV (ji3 st.ob (eval E st.tm x)) λv=>K (st.setT d v) (ub+64):=by refine Jm rfl rfl λa=>?_;simp only[aop,ji3];generalize eval E st.tm x=vx;cases vx <;> (first|rfl|exact X3 _ _|exact jd _ _|exact jP _ _|exact(bQ ..).symm)
theorem jmc {x:A}{i:Nat}:j8 E Yf ⟨d,.extract x i,none,nm⟩ st ub K=wpV (jea i (eval E st.tm x)) λv=>K (st.setT d v) (ub+64):=by refine Jm rfl rfl λa=>?_;simp only[aop,jea];generalize eval E st.tm x=vx;cases vx <;> (first|rfl|exact X3 _ _|exact jd _ _|exact jP _ _|exact(bQ ..).symm)
theorem jxi {k:IntKind}{x:A}:j8 E Yf ⟨d,.conv k x,none,nm⟩ st ub K=wpV (XN k (eval E st.tm x)) λv=>K (st.setT d v) (ub+64):=by refine Jm rfl rfl λa=>?_;simp only[aop,XN];generalize eval E st.tm x=vx;cases vx <;> (first|rfl|exact X3 _ _|exact jd _ _|exact jP _ _|exact(bQ ..).symm)
theorem jp6 {b:Bool}{xs:List A}:j8 E Yf ⟨d,.minmax b xs,none,nm⟩ st ub K=wpV (jcj b (xs.map (eval E st.tm))) λv=>K (st.setT d v) (ub+64):=by refine Jm rfl rfl λa=>?_;simp only[aop,jcj];generalize xs.map (eval E st.tm)=vxs;cases vxs <;> (first|rfl|exact X3 _ _|exact jd _ _|exact jP _ _|exact(bQ ..).symm)
theorem jxg {f:Fn}{a b:List A}:j8 E Yf ⟨d,.mkFn f a b,none,nm⟩ st ub K=K (st.setT d (.fn f (a.map (eval E st.tm)) (b.map (eval E st.tm)))) (ub+64):=by rw[jN _ rfl rfl];simp only[aop,WU,jar]
theorem jsl {z:List V}{ps:List (Nat × Nat × A)}:j8 E Yf ⟨d,.build z ps,none,nm⟩ st ub K=wpV ((fill z (jz (eval E st.tm) ps)).map .agg) λv=>K (st.setT d v) (ub+64):=by rw[jN _ rfl rfl];simp only[aop,jP,jdu,jar]
theorem jp7 {q:LK}{z:V}{a:Bool}{m k:A}:j8 E Yf ⟨d,.lookup q z a m k,none,nm⟩ st ub K=wpV (jak st.ob q z a (eval E st.tm m) (eval E st.tm k)) λv=>K (st.setT d v) (ub+64):=by
 refine Jm rfl rfl λc=>?_;simp only[aop,jak];generalize eval E st.tm m=vm;generalize eval E st.tm k=vk;cases jbs q vk with
 | false=>rfl
 | true=>
  simp only[if_true];cases vm <;> first|rfl|skip
  rename_i l u;simp only;cases jn st.ob l u with
  | none=>rfl
  | some b=>
   simp only[am];cases findKey q vk b with
   | none=>rfl
   | some r=>cases r <;> rfl
def jot (E:Env) (nm:Bool) (f:FuncId) (vs:List V):Prop:=E.sh nm f=false/\(vs.all λv=>v.strip.pureTop)=true
theorem jjj (vs:List V):(vs.map V.strip).all V.pureTop=vs.all λv=>v.strip.pureTop:=by rw[dF];rfl
theorem jxj {f:FuncId}{xs:List A}(h:jot E nm f (xs.map (eval E st.tm))/\∃v,Ev E f ((xs.map (eval E st.tm)).map V.strip) v/\wpD (Xf ub v) λa=>K (st.app d a) (ub+64)):j8 E Yf ⟨d,.call f xs,none,nm⟩ st ub K:=by
 obtain⟨⟨i,g⟩,v,e,a,b,j⟩:=h;have c:(xs.all λx=>(eval E st.tm x).strip.pureTop)=true:=by rw[dF]at g;exact g
 have k:jB E nm (eval E st.tm) (.call f xs)=none:=by simp only[jB,i,c,cG,cB,if_true]
 simp only[j8,wanted,jk,k,Qq];refine⟨by rw[dF];exact c,v,?_,a,b,j⟩;rw[cU]at e;exact e
theorem jsi {q:A}{xs:List A}{f:FuncId}{first captured:List V}(c:eval E st.tm q=.fn (.func f) first captured)
 (h:jot E nm f (first++xs.map (eval E st.tm)++captured)/\∃v,Ev E f ((first++xs.map (eval E st.tm)++captured).map V.strip) v/\wpD (Xf ub v) λa=>K (st.app d a) (ub+64)):j8 E Yf ⟨d,.callV q xs,none,nm⟩ st ub K:=by
 obtain⟨⟨i,e⟩,v,g,a,b,j⟩:=h;have k:jB E nm (eval E st.tm) (.callV q xs)=none:=by simp only[jB,c,i,e,cG,cB,if_true]
 simp only[j8,wanted,jk,c,k,Qq];exact⟨f,first,captured,rfl,by rw[jjj];exact e,v,g,a,b,j⟩
end
attribute [simp] j3p jx9 Ya jmk j3q j3r j3s j3t
 jml JI js7 j3u jij j3v j3w jxw jxz jxx jxy jx0 jx1 jx2 eval_t eval_c jqy jcn j4m jn2 jn3 jM jat jar
@[simp] theorem binV_add (k:IntKind) (a b:Int):Xd .add (.int k a) (.int k b)=some (.int k (k.wrap (a+b))):=by simp[Xd,Xb]
@[simp] theorem binV_sub (k:IntKind) (a b:Int):Xd .sub (.int k a) (.int k b)=some (.int k (k.wrap (a - b))):=by simp[Xd,Xb]
@[simp] theorem binV_mul (k:IntKind) (a b:Int):Xd .mul (.int k a) (.int k b)=some (.int k (k.wrap (a*b))):=by simp[Xd,Xb]
@[simp] theorem binV_quo (k:IntKind) (a b:Int):Xd .quo (.int k a) (.int k b)=if b=0 then none else some (.int k (k.wrap (a.tdiv b))):=by simp[Xd,Xb]
@[simp] theorem binV_rem (k:IntKind) (a b:Int):Xd .rem (.int k a) (.int k b)=if b=0 then none else some (.int k (a.tmod b)):=by simp[Xd,Xb]
@[simp] theorem binV_lss (k:IntKind) (a b:Int):Xd .lss (.int k a) (.int k b)=some (.bool (decide (a<b))):=by simp[Xd,Xb]
@[simp] theorem binV_leq (k:IntKind) (a b:Int):Xd .leq (.int k a) (.int k b)=some (.bool (decide (a<=b))):=by simp[Xd,Xb]
@[simp] theorem binV_gtr (k:IntKind) (a b:Int):Xd .gtr (.int k a) (.int k b)=some (.bool (decide (b<a))):=by simp[Xd,Xb]
@[simp] theorem binV_geq (k:IntKind) (a b:Int):Xd .geq (.int k a) (.int k b)=some (.bool (decide (b<=a))):=by simp[Xd,Xb]
@[simp] theorem binV_eql (k:IntKind) (a b:Int):Xd .eql (.int k a) (.int k b)=some (.bool (a == b)):=by simp[Xd,Xb]
@[simp] theorem binV_neq (k:IntKind) (a b:Int):Xd .neq (.int k a) (.int k b)=some (.bool (a != b)):=by simp[Xd,Xb]
@[simp] theorem binV_seql (a b:List UInt8):Xd .eql (.str a) (.str b)=some (.bool (a == b)):=by simp[Xd,jjy]
@[simp] theorem binV_sneq (a b:List UInt8):Xd .neq (.str a) (.str b)=some (.bool (!(a == b))):=by simp[Xd,jjy]
@[simp] theorem unV_not (b:Bool):unV .not (.bool b)=some (.bool (!b)):=rfl
@[simp] theorem lenSlV_sl (t:Option (Nat × Nat)) (b:Bool) (n:Nat) (cs:List V):Qu (.sl t b n cs)=some (.int .i64 n):=rfl
@[simp] theorem j7c (a b c n d:Nat):Qu (.osl a b c n d)=some (.int .i64 n):=rfl
@[simp] theorem j4o (s:List UInt8):ji2 (.str s)=some (.int .i64 s.length):=rfl
@[simp] theorem Yh (sz:Nat) (t:Option (Nat × Nat)) (b:Bool) (n:Nat) (cs:List V) (k:IntKind) (i:Int):JX sz (.sl t b n cs) (.int k i)=if 0<=i/\i<n/\cs.length=n*sz then some (.eptr cs (i.toNat*sz)) else none:=rfl
@[simp] theorem j7a (cs:List V) (off:Nat):Xi none cs off=cs[off]?:=rfl
@[simp] theorem j2j (i:Nat) (vs:List V):jea i (.tup vs)=vs[i]?:=rfl
def V.flat:V->Bool
 | .bool _|.int ..|.str _|.nilptr|.nilmap|.nilfn|.nilif=>true
 | .sl t _ _ _=>t.isNone
 | _=>false
theorem jaf {st:St}{keep:Bool}{i:Nat}{v:V}(h:v.flat=true):XS st keep i v=some v:=by
 cases v with
 | sl t a n cs=>cases t with
  | none=>rfl
  | some t=>cases h
 | _=>first|rfl|cases h
theorem jf0 {v:V}(h:v.flat=true):v.toks=[]:=by
 cases v with
 | sl t a n cs=>cases t with
  | none=>rfl
  | some t=>cases h
 | _=>first|rfl|cases h
theorem YD {st:St}(h:st.df=[]):st.noDf=st:=by unfold St.noDf;simp only[h]
theorem YJ {st:St}(h:st.df=[]):j2u st=true:=by unfold j2u;simp only[h];rfl
theorem j4 {n:Nat}{st:St}{v:V}(a:st.df=[]) (h:st.tm n=v) (b:v.flat=true):jas [.t n] (.ret,st)=some v:=by simp only[jas,YJ a,YD a,if_true,bL,fW,jo,h];simp[Yd,JK,jaf b,jf0 b,nodup]
theorem JY {n m:Nat}{st:St}{v u:V}(b:st.df=[]) (h:st.tm n=v) (d:st.tm m=u) (c:v.flat=true) (a:u.flat=true):jas [.t n,.t m] (.ret,st)=some (.tup [v,u]):=by simp only[jas,YJ b,YD b,if_true,bL,fW,jo,h,d];simp[Yd,JK,jaf c,jaf a,jf0 c,jf0 a,nodup]
@[simp] theorem j8e (ub:Nat) (b:Bool):Xf ub (.bool b)=some { v:=.bool b }:=rfl
@[simp] theorem retA_int (ub:Nat) (k:IntKind) (b:Int):Xf ub (.int k b)=some { v:=.int k b }:=rfl
@[simp] theorem retA_str (ub:Nat) (s:List UInt8):Xf ub (.str s)=some { v:=.str s }:=rfl
@[simp] theorem jtj (ub:Nat) (k c:IntKind) (b a:Int):Xf ub (.tup [.int k b,.int c a])=some { v:=.tup [.int k b,.int c a] }:=rfl
@[simp] theorem j31 (ub:Nat) (nl:Bool) (n:Nat) (cs:List V):Xf ub (.sl none nl n cs)=some { v:=.sl none nl n cs }:=rfl
theorem jsk {E:Env}{Yf:YF}{st:St}{ub:Nat}{K:St->Nat->Prop}{d:Option Nat}{nm:Bool}{f:FuncId}{xs:List A}{vs:List V}{v:V}(a:xs.map (eval E st.tm)=vs) (e:E.sh nm f=false) (hp:(vs.all λv=>v.strip.pureTop)=true)
 (c:Ev E f (vs.map V.strip) v) (h:wpD (Xf ub v) λb=>K (st.app d b) (ub+64)):j8 E Yf ⟨d,.call f xs,none,nm⟩ st ub K :=
 jxj ⟨by rw[a];exact⟨e,hp⟩,v,by rw[a];exact c,h⟩
def C.one:C->Bool
 | .region ops=>ops.all λo=>o.op.next?.isNone
 | .pin o _=>o.op.next?.isNone
 | .seq a b|.cond _ a b=>a.one && b.one
 | .block _ a|.loop a=>a.one
 | _=>true
def Single {α:Type}(o:Option (List α)):Prop:=∀l,o=some l->∃x,l=[x]
theorem Single.bindL {d e:Type}{m:Option (List d)}{f:d->Option (List e)}(g:Single m) (i:∀a,Single (f a)):Single (bindL m f):=by
 intro l h;cases b:m with
 | none=>rw[b]at h;cases h
 | some c=>obtain⟨a,rfl⟩:=g c b;rw[b]at h;exact i a l h
theorem Single.map {d e:Type}{m:Option (List d)}{f:d->e}(g:Single m):Single (m.map λl=>l.map f):=by
 intro l h;cases b:m with
 | none=>rw[b]at h;cases h
 | some c=>obtain⟨a,rfl⟩:=g c b;rw[b]at h;cases h;exact⟨f a,rfl⟩
theorem Single.none {a:Type}:Single (none:Option (List a)):=λ_ h=>by cases h
theorem Single.some {a:Type}(x:a):Single (some [x]):=λ_ h=>⟨x,by cases h;rfl⟩
theorem Single.opt {b c:Type}{m:Option b}{f:b->c}:Single (m.map λa=>[f a]):=by
 intro l h;cases m with
 | none=>cases h
 | some a=>cases h;exact⟨f a,rfl⟩
section
variable {E:Env}{Yf:YF}
theorem jod {c:Callers}(i:∀f a ob d e b u,Single (c.s f a ob d e b u)) {o:AOpr}{st:St}{ub:Nat}(h:o.op.next?.isNone=true):Single (step E c o st ub):=by
 have g:o.op.next? = .none:=by simpa using h
 unfold step;split;split;exact Single.opt;split;split;exact Single.map (i _ _ _ _ _ _ _);exact Single.opt;rw[g];exact Single.opt;exact Single.some _;exact Single.none
theorem jox {c:Callers}(d:∀f a ob e g b u,Single (c.s f a ob e g b u)):∀ {ops:List AOpr}{st:St}{ub:Nat},(ops.all λo=>o.op.next?.isNone)=true->Single (jiu E c ops st ub)
 | [],_,_,_=>Single.some _
 | o::r,st,ub,h=>by simp only[cQ,ai]at h;exact Single.bindL (jod d h.1) λx=>jox d h.2
theorem jk7 {body:St->j6z}(a:∀st,Single (body st)):∀ (n:Nat) (st:St),Single (jbl body n st)
 | 0,_=>Single.none
 | n+1,st=>Single.bindL (a st) λx=>by obtain⟨e,s⟩:=x;cases e;exact jk7 a n s;exact Single.some _;exact Single.some _
theorem jwq {d:Y->Callers}(t:∀y f a ob z w b u,Single ((d y).s f a ob z w b u)) {y:Y}{N:Nat}:∀ {c:C}{st:St},c.one=true->Single (je E d y N c st):=by
 intro c;induction c with
 | skip=>intro st _;exact Single.some _
 | ret=>intro st _;exact Single.some _
 | exit i=>intro st _;exact Single.some _
 | stuck=>intro st _;exact Single.none
 | region k=>intro st h;simp only[je];exact Single.map (jox (t y) h)
 | pin o fs=>intro st h;simp only[je];refine Single.bindL (jod (t y) h) λx=>?_;intro l h;obtain⟨p,_,h⟩:=bind_some h;split at h;cases h;exact⟨_,rfl⟩;cases h
 | draw k free=>
  intro st _ l h;simp only[je]at h;cases n:YI E (d y) k st st.nx with
  | none=>rw[n]at h;cases h
  | some p=>rw[n,am]at h;split at h;cases h;exact⟨_,rfl⟩;cases h
 | seq a b j g=>intro st h;simp only[C.one,ai]at h;simp only[je];refine Single.bindL (j h.1) λx=>?_;obtain⟨e,s⟩:=x;cases e;exact g h.2;exact Single.some _;exact Single.some _
 | cond q a b j g=>intro st h;simp only[C.one,ai]at h;simp only[je];split;exact j h.1;exact g h.2;exact Single.none
 | block i a m=>intro st h;simp only[je];exact Single.map (m h)
 | loop a m=>intro st h;simp only[je];exact jk7 (λs=>m h) N st
 | rangeFunc f B a b=>intro st _ l h;simp only[je]at h;split at h;simp only[dH]at h;obtain⟨r,_,h⟩:=h;split at h;split at h;cases h;exact⟨_,rfl⟩;cases h;cases h;cases h
theorem jnv (c:∀f,E.mn f=false):∀ (n:Nat) (y:Y) (f a ob tk ro b u),Single ((callers E n y).s f a ob tk ro b u)
 | 0,_,_,_,_,_,_,_,_=>Single.none
 | n+1,y,f,a,ob,tk,ro,b,u=>by intro l h;simp only[callers,c,aj,if_false]at h;split at h;obtain⟨_,_,h⟩:=bind_some h;obtain⟨_,_,h⟩:=bind_some h;obtain⟨x,_,rfl⟩:=map_some h;exact⟨x,rfl⟩;split at h;obtain⟨x,_,rfl⟩:=map_some h;exact⟨x,rfl⟩;obtain⟨_,_,h⟩:=bind_some h;obtain⟨_,_,h⟩:=bind_some h;split at h;obtain⟨x,_,rfl⟩:=map_some h;exact⟨x,rfl⟩;cases h
theorem jkp {c:C}{st:St}{Q:Ex->St->Prop}(e:c.one=true) (h:wpC E Yf c st Q) (b:∀f,E.mn f=false):∃n x,je E (callers E n) (Yf.y n) n c st=some [x]/\Q x.1 x.2:=by obtain⟨n,l,a,_,d⟩:=j22 h;obtain⟨x,rfl⟩:=jwq (jnv b n) e l a;exact⟨n,x,a,d x (ae.2 rfl)⟩
theorem EvO_wp {f:FuncId}{af:AF}{args:List V}{ob:ZO}{tk:Nat->Bool}{base ub:Nat}{r:V}(a:E.fs f=some af)
 (h:wpC E YC af.body (Jy args ob (λ_=>false) ub base ub) λe s=>jas af.res (e,s)=some r) (g:E.fz f=false:=by rfl):EvO E f args ob tk base ub r:=by
 obtain⟨n,l,d,b,c⟩:=j22 h;refine⟨n+1,?_⟩;simp only[callers,a,am,g,aj,if_false];rw[show je E (callers E n) noY n af.body (Jy args ob (λ_=>false) ub base ub)=some l from d];exact jiw b c
theorem jjn {y:Nat->Y}{f:FuncId}{args:List V}{ob:ZO}{tk:Nat->Bool}{ro base ub:Nat}{r:V × (ZO) × (Nat->Bool) × Nat}{m:Option FuncId}(b:E.srt f=some m) (a:jql m ob tk ro ub args=some r) (c:E.tw f=false:=by rfl):EvS E y f args ob tk ro base ub r:=by refine⟨1,?_⟩;simp only[callers,c,b,aj,if_false,if_true,a,aU]
theorem Ja {f:FuncId}{af:AF}{args:List V}{ob:ZO}{tk:Nat->Bool}{ro base ub:Nat}{P:V × (ZO) × (Nat->Bool) × Nat->Prop}(b:E.fs f=some af) (j:af.body.one=true)
 (h:wpC E Yf af.body (Jy args ob tk ro base ub) λe s=>∃r,endS af.res (e,s)=some r/\P r) (k:E.tw f=false:=by rfl) (d:E.srt f=none:=by rfl) (a:∀f,E.mn f=false:=by intro _;rfl):∃r,EvS E Yf.y f args ob tk ro base ub r/\P r:=by
 obtain⟨n,x,g,r,c,i⟩:=jkp j h a;refine⟨r,⟨n+1,?_⟩,i⟩;simp only[callers,b,am,k,d,aj,if_false];rw[jj (XG n n zK) zK af.body _ _ (Yf.mono (Nat.le_succ n)) _ _ g];simp only[am,a,aj,if_false,c,aU]
def jg7 (E:Env) (Yf:YF) (asg bd:C) (st:St) (ps:List Nat) (l u:Nat):YF where
 y n:=Qr (je E (callers E n) (Yf.y n) n asg) (je E (callers E n) (Yf.y n) n bd) st ps l u
 mono h:=je2 (λs=>jj (Jl _ _ h) h asg _ _ (Yf.mono h) s) (λs=>jj (Jl _ _ h) h bd _ _ (Yf.mono h) s) st ps l u
def Wd (l u:Nat) (e:Ex) (s:St):V × (ZO) × (Nat->Bool) × Nat:=match e with
 | .nrm=>(.bool true,upd s.ob l (some ⟨u,.loop .ready none⟩),s.tk,s.nx)
 | e=>(.bool false,upd s.ob l (some ⟨u,.loop .done (some e)⟩),s.tk,s.nx)
theorem jgj {asg bd:C}{st:St}{ps:List Nat}{l u:Nat}{xs:List V}{ob:ZO}{tk:Nat->Bool}{ro ub:Nat}{P:V × (ZO) × (Nat->Bool) × Nat->Prop}(t:xs.length=ps.length) (i:ro<=u) (j:ob l=some ⟨u,.loop .ready none⟩)
 (z:asg.one=true) (x:bd.one=true)
 (h:wpC E Yf asg { tm:=jet st.tm ps xs,ob,tk,ro,nx:=ub,fb:=st.fb,df:=[] } λe d=>e=.nrm/\d.ob l=some ⟨u,.loop .ready none⟩ /\
  wpC E Yf bd { d with ob:=upd d.ob l (some ⟨u,.loop .busy none⟩) } λe g=>g.ob l=some ⟨u,.loop .busy none⟩/\P (Wd l u e g)) (k:∀f,E.mn f=false:=by intro _;rfl):∃r,EvY (jg7 E Yf asg bd st ps l u) l u xs ob tk ro ub r/\P r:=by
 obtain⟨n,⟨e,d⟩,B,p,a,o⟩:=jkp z h k;simp only at p a o;subst p;obtain⟨m,⟨e,g⟩,w,b,q⟩:=jkp x o k;simp only at b q;refine⟨Wd l u e g,⟨max n m,?_⟩,q⟩;have s:=jj (Jl (E:=E) n (max n m) zO) (show n<=max n m by omega) asg _ _ (Yf.mono (show n<=max n m by omega)) _ _ B;have y:=jj (Jl (E:=E) m (max n m) zO) (show m<=max n m by omega) bd _ _ (Yf.mono (show m<=max n m by omega)) _ _ w;have c:Nat.ble ro u=true:=ce▸i;simp only[jg7,Qr,t,c,and_self,if_true,j,s,a,y,b];cases e <;> rfl
theorem WV {f:A}{ps:List Nat}{asg bd:C}{st:St}{Q:Ex->St->Prop}{g:FuncId}{first captured:List V}(i:eval E st.tm f=.fn (.func g) first captured)
 (h:∃r,EvS E (jg7 E Yf asg bd st ps (2*st.nx+1) st.nx).y g (first++[.yld (2*st.nx+1) st.nx]++captured)
  (upd (upd st.ob (2*st.nx+3) (some ⟨st.nx+1,.dfr⟩)) (2*st.nx+1) (some ⟨st.nx,.loop .ready none⟩)) st.tk st.ro ((st.fb+1023)*1024) (st.nx+64) r /\
  ∃s a,r.2.1 (2*st.nx+1)=some ⟨st.nx,.loop s a⟩/\s≠.busy/\st.ro<=st.nx /\
   Q (a.getD .nrm) { st with ob:=λk=>if Nat.beq (2*st.nx+1) k then none else r.2.1 k,tk:=r.2.2.1,nx:=r.2.2.2,df:=(2*st.nx+3,st.nx+1)::st.df }):wpC E Yf (.rangeFunc f ps asg bd) st Q:=by
 obtain⟨⟨v,ob,tk,o⟩,⟨n,l⟩,s,a,e,j,m,p⟩:=h;have b:Nat.ble st.ro st.nx=true:=ce▸m;refine⟨n,[(a.getD .nrm,_)],?_,cV _ _,λx d=>by rw[ae]at d;subst d;exact p⟩;simp only[je,i];have c:(callers E n (Qr (je E (callers E n) (Yf.y n) n asg) (je E (callers E n) (Yf.y n) n bd) st ps (2*st.nx+1) st.nx)).s g (first++[.yld (2*st.nx+1) st.nx]++captured)
  (upd (upd st.ob (2*st.nx+3) (some ⟨st.nx+1,.dfr⟩)) (2*st.nx+1) (some ⟨st.nx,.loop .ready none⟩)) st.tk st.ro ((st.fb+1023)*1024) (st.nx+64)=some [(v,ob,tk,o)]:=l
 simp only at e;simp only[c,only,am,e,j,ne_eq,not_false_eq_true,b,and_self,if_true]
theorem jjq {q:A}{xs:List A}{st:St}{ub:Nat}{K:St->Nat->Prop}{d:Option Nat}{nm:Bool}{l u:Nat}(a:eval E st.tm q=.yld l u)
 (h:∃r,EvY Yf l u (xs.map (eval E st.tm)) st.ob st.tk st.ro ub r/\K { st with tm:=put st.tm d r.1,ob:=r.2.1,tk:=r.2.2.1 } r.2.2.2):j8 E Yf ⟨d,.callV q xs,none,nm⟩ st ub K:=by
 simp only[j8,wanted,jk,a];exact h
theorem jsj {f:FuncId}{xs:List A}{st:St}{ub:Nat}{K:St->Nat->Prop}{d:Option Nat}{nm:Bool}(g:E.sh nm f=false) (hp:((xs.map (eval E st.tm)).all λv=>v.strip.pureTop)=false)
 (h:∃v,EvO E f (xs.map (eval E st.tm)) st.ob st.tk ((st.fb+d.getD 0+1)*1024) ub v/\wpD (Xf ub v) λa=>K (st.app d a) (ub+64)):j8 E Yf ⟨d,.call f xs,none,nm⟩ st ub K:=by
 have b:(xs.all λx=>(eval E st.tm x).strip.pureTop)=false:=by rw[dF]at hp;exact hp
 have c:jB E nm (eval E st.tm) (.call f xs)=some (f,xs.map (eval E st.tm)):=by simp only[jB,g,b,cG,co,aj,if_false]
 simp only[j8,wanted,jk,c];obtain⟨v,i,a,e,j⟩:=h;exact .inr ⟨g,v,i,a,e,j⟩
end
def jH (d:Option Nat) (nm:Bool) (fb ub:Nat):Nat:=cond nm (2*ub+1) (2*(fb+d.getD 0))
theorem jun (d fb ub:Nat):jH (some d) false fb ub=2*(fb+d):=rfl
theorem QD (d:Option Nat) (fb ub:Nat):jH d true fb ub=2*ub+1:=rfl
theorem Jx (d:Option Nat) (op:AOp) (nm:Bool) (fb ub:Nat):AOpr.name ⟨d,op,none,nm⟩ fb ub=jH d nm fb ub:=by cases nm <;> rfl
def jb7 (st:St) (sz:Nat) (x:V) (K:Delta->Prop):V->Prop
 | .ptr l u off=>∃cs,objCells st.ob l u=some cs/\st.ro<=u/\x.cells.length=sz/\off+sz<=cs.length/\x.cells.all V.leaf=true/\K { v:=ju,obs:=[(l,⟨u,.cells (j2 cs off x.cells)⟩)] }
 | _=>False
theorem jmb (st:St) (sz:Nat) (x:V) (K:Delta->Prop) (l u off:Nat):jb7 st sz x K (.ptr l u off) = ∃cs,objCells st.ob l u=some cs/\st.ro<=u/\x.cells.length=sz/\off+sz<=cs.length/\x.cells.all V.leaf=true/\K { v:=ju,obs:=[(l,⟨u,.cells (j2 cs off x.cells)⟩)] }:=rfl
section
variable {E:Env}{Yf:YF}{st:St}{ub:Nat}{K:St->Nat->Prop}{d:Option Nat}{nm:Bool}
theorem jsm {z:List V}:j8 E Yf ⟨d,.alloc z,none,nm⟩ st ub K=K (st.app d { v:=.ptr (jH d nm st.fb ub) ub 0,obs:=[(jH d nm st.fb ub,⟨ub,.cells z⟩)] }) (ub+64):=by rw[jN _ rfl rfl];simp only[aop,Jj,jM,Jx]
theorem j27 {sz:Nat}{x:A}:j8 E Yf ⟨d,.box sz x,none,nm⟩ st ub K=(((eval E st.tm x).cells.length=sz/\(eval E st.tm x).cells.all V.leaf=true)/\K (st.app d { v:=.ptr (jH d nm st.fb ub) ub 0,obs:=[(jH d nm st.fb ub,⟨ub,.cells (eval E st.tm x).cells⟩)] }) (ub+64)):=by rw[jN _ rfl rfl];simp only[aop,Jj,jek,jM,Jx]
theorem jse {sz:Nat}{p x:A}:j8 E Yf ⟨d,.store sz p x,none,nm⟩ st ub K=jb7 st sz (eval E st.tm x) (λa=>K (st.app d a) (ub+64)) (eval E st.tm p):=by
 rw[jN _ rfl rfl];simp only[aop];generalize eval E st.tm p=vp;cases vp <;> simp only[jat,jb7];rename_i l u off;cases objCells st.ob l u with
 | none=>simp[wpD]
 | some cs=>simp only[am,jek,jM,ab,exists_eq_left',ce,and_assoc]
end
attribute [simp] jun QD jlw j6q app_ro app_nx app_fb app_df app_ob ji X6
@[simp] theorem cells_agg (cs:List V):(V.agg cs).cells=cs:=rfl
@[simp] theorem j7h (b:Bool):(V.bool b).cells=[.bool b]:=rfl
@[simp] theorem cells_int (k:IntKind) (n:Int):(V.int k n).cells=[.int k n]:=rfl
@[simp] theorem cells_str (s:List UInt8):(V.str s).cells=[.str s]:=rfl
@[simp] theorem cells_sl (t:Option (Nat × Nat)) (b:Bool) (n:Nat) (cs:List V):(V.sl t b n cs).cells=[.sl t b n cs]:=rfl
@[simp] theorem j6l (t:TypeId) (v:V):(V.iface t v).cells=[.iface t v]:=rfl
@[simp] theorem leaf_bool (b:Bool):(V.bool b).leaf=true:=rfl
@[simp] theorem leaf_int (k:IntKind) (n:Int):(V.int k n).leaf=true:=rfl
@[simp] theorem leaf_str (s:List UInt8):(V.str s).leaf=true:=rfl
@[simp] theorem leaf_sl (t:Option (Nat × Nat)) (b:Bool) (n:Nat) (cs:List V):(V.sl t b n cs).leaf=true:=rfl
@[simp] theorem j7e (t:TypeId) (v:V):(V.iface t v).leaf=true:=rfl
@[simp] theorem j7d:V.nilif.leaf=true:=rfl
@[simp] theorem j6k:V.nilif.cells=[.nilif]:=rfl
@[simp] theorem jw9 (off l u o:Nat):WM off (.ptr l u o)=some (.ptr l u (o+off)):=rfl
@[simp] theorem jwb (off:Nat) (cs:List V) (o:Nat):WM off (.eptr cs o)=some (.eptr cs (o+off)):=rfl
@[simp] theorem QX (k:Nat) (cs:List V) (off:Nat):Xi (some k) cs off=if off+k<=cs.length then some (.agg ((cs.drop off).take k)) else none:=rfl
@[simp] theorem j66 (cs vs:List V) (h:vs.length=cs.length):j2 cs 0 vs=vs:=by simp[j2,<- h]
def kOps (E:Env) (Yf:YF) (r:List AOpr) (K:St->Prop):St->Nat->Prop:=λst ub=>Ws E Yf r st ub K
def kNrm (Q:Ex->St->Prop):St->Prop:=λs=>Q .nrm s
def jsc (E:Env) (Yf:YF) (b:C) (Q:Ex->St->Prop):Ex->St->Prop:=λe s=>match e with
 | .nrm=>wpC E Yf b s Q
 | e=>Q e s
def kBlk (i:Nat) (Q:Ex->St->Prop):Ex->St->Prop:=λe s=>match e with
 | .exit j=>if j=i then Q .nrm s else Q (.exit j) s
 | e=>Q e s
def jal (K:St->Nat->Prop) (st:St) (d:Option Nat) (ub:Nat):V->Prop:=λv=>K (st.setT d v) (ub+64)
def WR (K:St->Nat->Prop) (st:St) (d:Option Nat) (ub:Nat):Delta->Prop:=λδ=>K (st.app d δ) (ub+64)
def kIf (E:Env) (Yf:YF) (a b:C) (st:St) (Q:Ex->St->Prop):Bool->Prop
 | true=>wpC E Yf a st Q
 | false=>wpC E Yf b st Q
def kGd (E:Env) (Yf:YF) (o:AOpr) (st:St) (ub:Nat) (K:St->Nat->Prop):Bool->Prop
 | true=>j8 E Yf o st ub K
 | false=>K (st.setT o.dst ju) ub
def jvn (I:Nat->St->Prop) (k:Nat) (Q:Ex->St->Prop):Ex->St->Prop:=λe s=>match e with
 | .nrm=>∃j,j<k/\I j s
 | e=>Q e s
def j19 (res:List ARes) (r:V):Ex->St->Prop:=λe s=>jas res (e,s)=some r
def ifK:V->(Bool->Prop)->Prop
 | .bool c,k=>k c
 | _,_=>False
def gdK:V->Bool->(Bool->Prop)->Prop
 | .bool c,b,k=>k (c == b)
 | .tup [],_,k=>k false
 | _,_,_=>False
section
variable {E:Env}{Yf:YF}{st:St}{ub:Nat}{K:St->Nat->Prop}{d:Option Nat}{nm:Bool}{Q:Ex->St->Prop}
theorem jz6 {r:List AOpr}{K:St->Prop}:kOps E Yf r K st ub=Ws E Yf r st ub K:=propext bN
theorem jz7:kNrm Q st=Q .nrm st:=propext bN
theorem ji4 {b:C}:jsc E Yf b Q .nrm st=wpC E Yf b st Q:=propext bN
theorem ju9 {b:C}{i:Nat}:jsc E Yf b Q (.exit i) st=Q (.exit i) st:=propext bN
theorem jo8 {b:C}:jsc E Yf b Q .ret st=Q .ret st:=propext bN
theorem j0i {i:Nat}:kBlk i Q .nrm st=Q .nrm st:=propext bN
theorem jle {i j:Nat}:kBlk i Q (.exit j) st=if j=i then Q .nrm st else Q (.exit j) st:=propext bN
theorem j0h {i:Nat}:kBlk i Q .ret st=Q .ret st:=propext bN
theorem jzr {v:V}:jal K st d ub v=K (st.setT d v) (ub+64):=propext bN
theorem jbr {δ:Delta}:WR K st d ub δ=K (st.app d δ) (ub+64):=propext bN
theorem jz8 {a b:C}:kIf E Yf a b st Q true=wpC E Yf a st Q:=propext bN
theorem jvo {a b:C}:kIf E Yf a b st Q false=wpC E Yf b st Q:=propext bN
theorem jz9 {o:AOpr}:kGd E Yf o st ub K true=j8 E Yf o st ub K:=propext bN
theorem jvp {o:AOpr}:kGd E Yf o st ub K false=K (st.setT o.dst ju) ub:=propext bN
theorem jvm {I:Nat->St->Prop}{k:Nat}:jvn I k Q .nrm st = ∃j,j<k/\I j st:=propext bN
theorem jrm {I:Nat->St->Prop}{k i:Nat}:jvn I k Q (.exit i) st=Q (.exit i) st:=propext bN
theorem jvl {I:Nat->St->Prop}{k:Nat}:jvn I k Q .ret st=Q .ret st:=propext bN
theorem j0m {c:Bool}{k:Bool->Prop}:ifK (.bool c) k=k c:=propext bN
theorem j0p {c b:Bool}{k:Bool->Prop}:gdK (.bool c) b k=k (c == b):=propext bN
theorem j0o {b:Bool}{k:Bool->Prop}:gdK ju b k=k false:=propext bN
theorem j5q {b:Bool}{k:Bool->Prop}:gdK (.tup []) b k=k false:=propext bN
theorem j5h:wpC E Yf .skip st Q=Q .nrm st:=propext bN
theorem kC_ret:wpC E Yf .ret st Q=Q .ret st:=propext bN
theorem j5i {i:Nat}:wpC E Yf (.exit i) st Q=Q (.exit i) st:=propext bN
theorem jz5 {K:St->Prop}:Ws E Yf [] st ub K=K (st.setN ub):=propext bN
theorem jvz {ops:List AOpr}:wpC E Yf (.region ops) st Q=Ws E Yf ops st st.nx (kNrm Q):=propext bN
theorem j2c {a b:C}:wpC E Yf (.seq a b) st Q=wpC E Yf a st (jsc E Yf b Q):=propext bN
theorem jpd {i:Nat}{a:C}:wpC E Yf (.block i a) st Q=wpC E Yf a st (kBlk i Q):=propext bN
theorem j5k {c:A}{a b:C}:wpC E Yf (.cond c a b) st Q=ifK (eval E st.tm c) (kIf E Yf a b st Q):=by rw[jxp];cases h:eval E st.tm c <;> simp[wpIf,ifK];rename_i t;cases t <;> simp[kIf]
theorem jvk {o:AOpr}{r:List AOpr}{K:St->Prop}:Ws E Yf (o::r) st ub K=j8 E Yf o st ub (kOps E Yf r K):=propext bN
theorem jnd {op:AOp}{t:Nat}{b:Bool}:j8 E Yf ⟨d,op,some (t,b),nm⟩ st ub K=gdK (st.tm t) b (kGd E Yf ⟨d,op,none,nm⟩ st ub K):=by
 rw[jjp];cases h:st.tm t with
 | bool c=>cases c <;> cases b <;> simp[jaa,gdK,kGd]
 | tup l=>cases l <;> simp[jaa,gdK,kGd]
 | _=>simp[jaa,gdK]
theorem kS_mov {x:A}:j8 E Yf ⟨d,.mov x,none,nm⟩ st ub K=jal K st d ub (eval E st.tm x):=j26
theorem jz3 {z:List V}:j8 E Yf ⟨d,.alloc z,none,nm⟩ st ub K=WR K st d ub { v:=.ptr (jH d nm st.fb ub) ub 0,obs:=[(jH d nm st.fb ub,⟨ub,.cells z⟩)] }:=jsm
theorem kS_box {sz:Nat}{x:A}:j8 E Yf ⟨d,.box sz x,none,nm⟩ st ub K=(((eval E st.tm x).cells.length=sz/\(eval E st.tm x).cells.all V.leaf=true)/\WR K st d ub { v:=.ptr (jH d nm st.fb ub) ub 0,obs:=[(jH d nm st.fb ub,⟨ub,.cells (eval E st.tm x).cells⟩)] }):=j27
theorem jzs {sz:Nat}{p x:A}:j8 E Yf ⟨d,.store sz p x,none,nm⟩ st ub K=jb7 st sz (eval E st.tm x) (WR K st d ub) (eval E st.tm p):=jse
theorem jzx {t:TypeId}{x:A}:j8 E Yf ⟨d,.iface t x,none,nm⟩ st ub K=jal K st d ub (.iface t (eval E st.tm x)):=by rw[jN _ rfl rfl];simp only[aop,WU,jar];rfl
def jjg (t:TypeId) (zero:V) (ok:Bool):V->Option V
 | .iface t' v=>if t'=t then some (if ok then .tup [v,.bool true] else v) else if ok then some (.tup [zero,.bool false]) else none
 | .nilif=>if ok then some (.tup [zero,.bool false]) else none
 | _=>none
theorem jvj {t:TypeId}{zero:V}{a:Bool}{x:A}:j8 E Yf ⟨d,.assert t zero a x,none,nm⟩ st ub K=wpV (jjg t zero a (eval E st.tm x)) (jal K st d ub):=by
 refine Jm rfl rfl λc=>?_;simp only[aop,jjg];generalize eval E st.tm x=vx;cases vx with
 | iface b v=>by_cases h:b=t <;> cases a <;> simp[h,one]
 | nilif=>cases a <;> rfl
 | _=>rfl
theorem j40 {f:Fn}{a b:List A}:j8 E Yf ⟨d,.mkFn f a b,none,nm⟩ st ub K=jal K st d ub (.fn f (a.map (eval E st.tm)) (b.map (eval E st.tm))):=jxg
theorem j4x {c a b:A}:j8 E Yf ⟨d,.pick c a b,none,nm⟩ st ub K=wpV (jys (eval E st.tm c) (eval E st.tm a) (eval E st.tm b)) (jal K st d ub):=jxe
theorem kS_bin {op:BinOp}{x y:A}:j8 E Yf ⟨d,.bin op x y,none,nm⟩ st ub K=wpV (Xd op (eval E st.tm x) (eval E st.tm y)) (jal K st d ub):=j28
theorem kS_un {op:UnOp}{x:A}:j8 E Yf ⟨d,.un op x,none,nm⟩ st ub K=wpV (unV op (eval E st.tm x)) (jal K st d ub):=j7n
theorem kS_eq {neg:Bool}{k:EqK}{x y:A}:j8 E Yf ⟨d,.eq neg k x y,none,nm⟩ st ub K=wpV (jxa st.ob neg k (eval E st.tm x) (eval E st.tm y)) (jal K st d ub):=j7o
theorem j41 {g:Option Nat}{x:A}:j8 E Yf ⟨d,.load g x,none,nm⟩ st ub K=wpV (QI st.ob g (eval E st.tm x)) (jal K st d ub):=jxh
theorem jng {x:A}:j8 E Yf ⟨d,.nilCheck x,none,nm⟩ st ub K=wpV (jbh (eval E st.tm x)) (jal K st d ub):=jjr
theorem jlb {off:Nat}{x:A}:j8 E Yf ⟨d,.fieldAddr off x,none,nm⟩ st ub K=wpV (WM off (eval E st.tm x)) (jal K st d ub):=jib
theorem jzy {sz:Nat}{x i:A}:j8 E Yf ⟨d,.idxSl sz x i,none,nm⟩ st ub K=wpV (JX sz (eval E st.tm x) (eval E st.tm i)) (jal K st d ub):=jsh
theorem jvh {len sz:Nat}{x i:A}:j8 E Yf ⟨d,.idxArr len sz x i,none,nm⟩ st ub K=wpV (W4 len sz (eval E st.tm x) (eval E st.tm i)) (jal K st d ub):=jqc
theorem j4y {g:Option Nat}{off:Nat}{x:A}:j8 E Yf ⟨d,.part g off x,none,nm⟩ st ub K=wpV (j38 g off (eval E st.tm x)) (jal K st d ub):=jxf
theorem jvg {x i:A}:j8 E Yf ⟨d,.idxStr x i,none,nm⟩ st ub K=wpV (QK (eval E st.tm x) (eval E st.tm i)) (jal K st d ub):=jqb
theorem jvf {g:Option Nat}{len sz:Nat}{x i:A}:j8 E Yf ⟨d,.idxVal g len sz x i,none,nm⟩ st ub K=wpV (jam g len sz (eval E st.tm x) (eval E st.tm i)) (jal K st d ub):=jqa
theorem jzt {x:A}{lo hi:Option A}:j8 E Yf ⟨d,.slStr x lo hi,none,nm⟩ st ub K=wpV (Xe (lo.map (eval E st.tm)) (hi.map (eval E st.tm)) (eval E st.tm x)) (jal K st d ub):=jsf
theorem j4w {sz:Nat}{x:A}{lo hi:Option A}:j8 E Yf ⟨d,.slSl sz x lo hi,none,nm⟩ st ub K=wpV (YZ sz (lo.map (eval E st.tm)) (hi.map (eval E st.tm)) (eval E st.tm x)) (jal K st d ub):=jxd
theorem jvd {x:A}:j8 E Yf ⟨d,.lenStr x,none,nm⟩ st ub K=wpV (ji2 (eval E st.tm x)) (jal K st d ub):=jp8
theorem jzw {x:A}:j8 E Yf ⟨d,.lenSl x,none,nm⟩ st ub K=wpV (Qu (eval E st.tm x)) (jal K st d ub):=jsg
theorem jve {x:A}:j8 E Yf ⟨d,.lenMap x,none,nm⟩ st ub K=wpV (ji3 st.ob (eval E st.tm x)) (jal K st d ub):=jp9
theorem jrl {x:A}{i:Nat}:j8 E Yf ⟨d,.extract x i,none,nm⟩ st ub K=wpV (jea i (eval E st.tm x)) (jal K st d ub):=jmc
theorem j42 {k:IntKind}{x:A}:j8 E Yf ⟨d,.conv k x,none,nm⟩ st ub K=wpV (XN k (eval E st.tm x)) (jal K st d ub):=jxi
theorem jvb {b:Bool}{xs:List A}:j8 E Yf ⟨d,.minmax b xs,none,nm⟩ st ub K=wpV (jcj b (xs.map (eval E st.tm))) (jal K st d ub):=jp6
theorem jz2 {z:List V}{ps:List (Nat × Nat × A)}:j8 E Yf ⟨d,.build z ps,none,nm⟩ st ub K=wpV ((fill z (jz (eval E st.tm) ps)).map .agg) (jal K st d ub):=jsl
theorem jvc {q:LK}{z:V}{a:Bool}{m k:A}:j8 E Yf ⟨d,.lookup q z a m k,none,nm⟩ st ub K=wpV (jak st.ob q z a (eval E st.tm m) (eval E st.tm k)) (jal K st d ub):=jp7
end
attribute [simp ↓] j5h kC_ret j5i jvz j2c jpd j5k jz5 jvk jnd kS_mov jz3 kS_box jzs jzx jvj j40 j4x kS_bin kS_un kS_eq j41 jng jlb jzy jvh j4y jvg jvf jzt j4w jvd jzw jve jrl j42 jvb jz2 jvc
attribute [simp ↓] jz6 jz7 ji4 ju9 jo8 j0i jle j0h jzr jbr jz8 jvo jz9 jvp jvm jrm jvl
attribute [simp] j0m j0p j0o j5q j24 jxc jek jxo jmb
def V.plain:V->Bool
 | .agg cs=>cs.all V.pureLeaf
 | .fn ..=>false
 | v=>v.pureLeaf
theorem Y2 {st:St}{keep:Bool}{i:Nat}{v:V}(h:v.pureLeaf=true):jm st keep i v=some v:=by
 cases v with
 | sl t a n cs=>cases t with
  | none=>rfl
  | some t=>cases h
 | _=>first|rfl|(simp[V.pureLeaf]at h;done)|(simp only[jm,JH,h,if_true])
theorem jn6 {v:V}(h:v.pureLeaf=true):v.tok=[]:=by
 cases v with
 | sl t a n cs=>cases t with
  | none=>rfl
  | some t=>cases h
 | _=>first|rfl|(simp[V.pureLeaf]at h;done)
theorem jdb {st:St}{keep:Bool}:∀ {i:Nat}{cs:List V},cs.all V.pureLeaf=true->Xj st keep i cs=some cs
 | _,[],_=>rfl
 | i,c::cs,h=>by simp only[cQ,ai]at h;simp[Xj,Y2 h.1,jdb h.2]
theorem jtx {st:St}{keep:Bool}{i:Nat}{v:V}(h:v.plain=true):XS st keep i v=some v:=by
 cases v with
 | agg cs=>simp[XS,jdb (show cs.all V.pureLeaf=true from h)]
 | fn=>cases h
 | _=>refine Eq.trans (b:=jm st keep i _) rfl (Y2 ?_);exact h
theorem jch {v:V}(h:v.plain=true):v.toks=[]:=by
 cases v with
 | agg cs=>simp only[V.toks,fE];intro x a;exact jn6 (aw.1 h x a)
 | fn=>cases h
 | sl t b n cs=>cases t with
  | none=>rfl
  | some t=>cases h
 | _=>first|rfl|cases h
theorem jbd {st:St}{keep:Bool}:∀ {i:Nat}{l:List V},l.all V.plain=true->JK st keep i l=some l
 | _,[],_=>rfl
 | i,c::cs,h=>by simp only[cQ,ai]at h;simp[JK,jtx h.1,jbd h.2]
def j3f:List V->V
 | [v]=>v
 | l=>.tup l
theorem Qf {res:List ARes}{st:St}{l:List V}(a:st.df=[]) (c:res.mapM (jo st)=some l) (b:l.all V.plain=true):jas res (.ret,st)=some (j3f l):=by
 have e:l.flatMap V.toks=[]:=by rw[fE];intro x f;exact jch (aw.1 b x f)
 simp only[jas,YJ a,YD a,if_true,c,am,Yd,e,nodup,jbd b,if_true];match l with
 | []=>rfl
 | [v]=>rfl
 | v::u::l=>rfl
theorem J8 {res:List ARes}{st:St}{r:V}{l:List V}(a:st.df=[]) (c:res.mapM (jo st)=some l) (b:l.all V.plain=true) (h:j3f l=r):j19 res r .ret st:=by subst h;exact Qf a c b
attribute [simp] fill jz
theorem jfw {ub:Nat}{v:V}(h:v.pureLeaf=true):YL ub v=v:=by
 cases v with
 | sl t a n cs=>cases t with
  | none=>rfl
  | some t=>cases h
 | _=>rfl
theorem jfv {ub:Nat}{v:V}(h:v.plain=true):jcq ub v=v:=by
 cases v with
 | agg cs=>
  have:cs.map (YL ub)=cs:=by
   conv=>rhs;rw[<- List.map_id cs]
   exact dx λx a=>jfw (aw.1 h x a)
  simp only[jcq,this]
 | sl t b n cs=>exact jfw h
 | _=>rfl
theorem YS {ub:Nat}{v:V}(h:v.plain=true):Xf ub v=some { v:=v }:=by
 have a:toksRes v=[]:=by
  cases v with
  | tup b=>cases h
  | _=>exact jch h
 have c:jcr ub v=v:=by
  cases v with
  | tup b=>cases h
  | undef=>cases h
  | _=>exact jfv (ub:=ub) h
 simp[Xf,a,c]
theorem Jr {ub:Nat}{l:List V}(h:l.all V.plain=true):Xf ub (.tup l)=some { v:=.tup l }:=by
 have c:toksRes (.tup l)=[]:=by simp only[toksRes,fE];intro x a;exact jch (aw.1 h x a)
 have b:jcr ub (.tup l)=.tup l:=by
  have:l.map (jcq ub)=l:=by
   conv=>rhs;rw[<- List.map_id l]
   exact dx λx a=>jfv (aw.1 h x a)
  simp only[jcr,this]
 simp[Xf,c,b]
@[simp] theorem j58 (ob:ZO) (neg:Bool) (l:List LK) (a b:List V):jxa ob neg (.struct l) (.agg a) (.agg b)=(jw l a b).map λb=>.bool (xor neg b):=rfl
attribute [simp] jw Wu
theorem jS {E:Env}{f:FuncId}{af:AF}{args:List V}{r:V}(a:E.fc f=some af) (h:wpC E YC af.body (start args) (j19 af.res r)):Ev E f args r:=Ev_wp a h
theorem YN {E:Env}{Yf:YF}{a:C}{Q:Ex->St->Prop}(I:Nat->St->Prop) {n:Nat}{st:St}(b:I n st) (c:∀k s,I k s->wpC E Yf a s (jvn I k Q)):wpC E Yf (.loop a) st Q :=
 j23 I b c
theorem Xl {E:Env}{Yf:YF}{st:St}{ub:Nat}{K:St->Nat->Prop}{d:Option Nat}{nm:Bool}{f:FuncId}{xs:List A}{vs:List V}{v:V}(c:xs.map (eval E st.tm)=vs) (b:E.sh nm f=false) (hp:(vs.all λv=>v.strip.pureTop)=true)
 (a:Ev E f (vs.map V.strip) v) (h:wpD (Xf ub v) (WR K st d ub)):j8 E Yf ⟨d,.call f xs,none,nm⟩ st ub K:=jsk c b hp a h
end Go.Pv
namespace Go.Pv.T
open Go Go.Pv Go.Proofs
noncomputable section
noncomputable def cf (m r:Bool) (f:Func):AF:=(j6b Tryz.prog m r f).getD ⟨.stuck,[]⟩
abbrev oo (d:Nat) (p:AOp):AOpr:=⟨some d,p,none,false⟩
abbrev qq (d:Nat) (p:AOp):AOpr:=⟨some d,p,none,true⟩
abbrev ou (p:AOp):AOpr:=⟨none,p,none,false⟩
abbrev qu (p:AOp):AOpr:=⟨none,p,none,true⟩
abbrev og (d:Nat) (p:AOp) (t:Nat) (b:Bool):AOpr:=⟨some d,p,some (t,b),false⟩
abbrev qg (d:Nat) (p:AOp) (t:Nat) (b:Bool):AOpr:=⟨some d,p,some (t,b),true⟩
abbrev oh (p:AOp) (t:Nat) (b:Bool):AOpr:=⟨none,p,some (t,b),false⟩
abbrev qh (p:AOp) (t:Nat) (b:Bool):AOpr:=⟨none,p,some (t,b),true⟩
abbrev ov (d k:Nat):AOpr:=⟨some d,.mov (.t k),none,false⟩
abbrev qv (d k:Nat):AOpr:=⟨some d,.mov (.t k),none,true⟩
abbrev nn (k:Int):A:=.c (.int .i64 k)
abbrev ol (d k:Nat):AOpr:=⟨some d,.load none (.t k),none,false⟩
abbrev os (d n k:Nat):AOpr:=⟨some d,.load (some n) (.t k),none,false⟩
abbrev ox (d s a b:Nat):AOpr:=⟨some d,.idxSl s (.t a) (.t b),none,false⟩
abbrev om (d:Nat) (k:Int):AOpr:=⟨some d,.mov (nn k),none,false⟩
abbrev oe (d k i:Nat):AOpr:=⟨some d,.extract (.t k) i,none,false⟩
abbrev of (d n k:Nat):AOpr:=⟨some d,.fieldAddr n (.t k),none,false⟩
abbrev on (d:Nat) (p:BinOp) (a:Nat) (k:Int):AOpr:=⟨some d,.bin p (.t a) (nn k),none,false⟩
abbrev ob (d:Nat) (p:BinOp) (a b:Nat):AOpr:=⟨some d,.bin p (.t a) (.t b),none,false⟩
abbrev ql (d k:Nat):AOpr:=⟨some d,.load none (.t k),none,true⟩
abbrev qs (d n k:Nat):AOpr:=⟨some d,.load (some n) (.t k),none,true⟩
abbrev qx (d s a b:Nat):AOpr:=⟨some d,.idxSl s (.t a) (.t b),none,true⟩
abbrev qm (d:Nat) (k:Int):AOpr:=⟨some d,.mov (nn k),none,true⟩
abbrev qe (d k i:Nat):AOpr:=⟨some d,.extract (.t k) i,none,true⟩
abbrev qf (d n k:Nat):AOpr:=⟨some d,.fieldAddr n (.t k),none,true⟩
abbrev qn (d:Nat) (p:BinOp) (a:Nat) (k:Int):AOpr:=⟨some d,.bin p (.t a) (nn k),none,true⟩
abbrev qb (d:Nat) (p:BinOp) (a b:Nat):AOpr:=⟨some d,.bin p (.t a) (.t b),none,true⟩
abbrev sr (l:List AOpr) (b:C):C:=.seq (.region l) b
abbrev aN:A:=.c (.sl none true 0 [])
abbrev vZ:V:=.int .i64 0
abbrev aF:A:=.c (.bool false)
abbrev aT:A:=.c (.bool true)
abbrev fA:=AOp.fieldAddr
abbrev sq:=C.seq
abbrev rg:=C.region
abbrev lS:=AOp.lenSl
abbrev Z0:A:=.t 0
abbrev Z1:A:=.t 1
abbrev Z2:A:=.t 2
abbrev Z3:A:=.t 3
abbrev Z4:A:=.t 4
abbrev Z5:A:=.t 5
abbrev Z6:A:=.t 6
abbrev Z7:A:=.t 7
abbrev Z8:A:=.t 8
abbrev Z9:A:=.t 9
abbrev Z10:A:=.t 10
abbrev Z11:A:=.t 11
abbrev Z12:A:=.t 12
abbrev Z13:A:=.t 13
abbrev Z14:A:=.t 14
abbrev Z15:A:=.t 15
abbrev Z16:A:=.t 16
abbrev Z17:A:=.t 17
abbrev Z18:A:=.t 18
abbrev Z19:A:=.t 19
abbrev Z20:A:=.t 20
abbrev Z21:A:=.t 21
abbrev Z22:A:=.t 22
abbrev Z23:A:=.t 23
abbrev Z24:A:=.t 24
abbrev Z25:A:=.t 25
abbrev Z26:A:=.t 26
abbrev Z27:A:=.t 27
abbrev Z28:A:=.t 28
abbrev Z29:A:=.t 29
abbrev Z30:A:=.t 30
abbrev Z31:A:=.t 31
abbrev Z32:A:=.t 32
abbrev Z33:A:=.t 33
abbrev Z34:A:=.t 34
abbrev Z35:A:=.t 35
abbrev Z36:A:=.t 36
abbrev Z37:A:=.t 37
abbrev Z38:A:=.t 38
abbrev Z39:A:=.t 39
abbrev Z40:A:=.t 40
abbrev Z41:A:=.t 41
abbrev Z42:A:=.t 42
abbrev Z43:A:=.t 43
abbrev Z44:A:=.t 44
abbrev Z45:A:=.t 45
abbrev Z47:A:=.t 47
abbrev Z49:A:=.t 49
abbrev Z50:A:=.t 50
abbrev Z51:A:=.t 51
abbrev Z52:A:=.t 52
abbrev Z55:A:=.t 55
abbrev Z58:A:=.t 58
abbrev Z59:A:=.t 59
abbrev Z60:A:=.t 60
abbrev Z63:A:=.t 63
abbrev Z72:A:=.t 72
abbrev wT (d:Nat) (p:AOp) (t:Nat):AOpr:=og d p t true
abbrev wF (d:Nat) (p:AOp) (t:Nat):AOpr:=og d p t false
abbrev zT (d:Nat) (p:AOp) (t:Nat):AOpr:=qg d p t true
abbrev zF (d:Nat) (p:AOp) (t:Nat):AOpr:=qg d p t false
abbrev uT (p:AOp) (t:Nat):AOpr:=oh p t true
abbrev uF (p:AOp) (t:Nat):AOpr:=oh p t false
abbrev vT (p:AOp) (t:Nat):AOpr:=qh p t true
abbrev vF (p:AOp) (t:Nat):AOpr:=qh p t false
def F13 : AF := cf false false Tryz.f13
def F15:AF:=⟨sr [qq 1 (.box 3 Z0),qq 2 (.alloc [(.sl none true 0 []),(.sl none true 0 []),(.sl none true 0 [])])] (sr [qs 4 3 1,qq 5 (.call 51 [Z4]),qu (.store 3 Z1 Z5)] (sq (sr [qf 6 2 1,ql 7 6,qq 8 (lS Z7),qn 9 .gtr 8 8] (.cond Z9 (rg [qf 10 2 1,qu (.store 1 Z10 aN)]) .skip)) (sq (sr [qm 3 0] (.block 0 (.loop (sq (sr [qv 11 3,qf 12 2 1,ql 13 12,qq 14 (lS Z13),qb 15 .lss 11 14] (.cond Z15 .skip (.exit 0))) (sq (.block 1 (.draw [qf 18 2 1,ql 19 18,qv 20 3,qf 21 2 1,ql 22 21,qv 23 3,qx 24 3 22 23,qf 25 2 24,ql 26 25,qf 27 2 1,ql 28 27,qv 29 3,qx 30 3 28 29,qf 31 2 30,ql 32 31,qq 33 (lS Z32),qq 34 (.minmax false [Z33,(nn 6)]),qq 35 (.slSl 4 Z26 none (some Z34)),qx 36 3 19 20,qf 37 2 36,qu (.store 1 Z37 Z35)] [])) (rg [qv 16 3,qn 17 .add 16 1,qv 3 17])))))) (sr [qs 38 3 1,qu (.store 3 Z2 Z38)] .ret)))),[.cell 2 (some 3)]⟩
def F21:AF:=⟨sr [oo 1 (.box 3 Z0),oo 2 (.mov aF)] (sq (.draw [os 3 3 1,oo 4 (.call 58 [Z3]),on 5 .eql 4 0,ov 6 5,wT 7 (.load (some 3) Z1) 6,wT 8 (.call 59 [Z7]) 6,wT 9 (lS Z8) 6,wT 10 (.load (some 3) Z1) 6,wT 11 (.call 60 [Z10]) 6,wT 12 (lS Z11) 6,wT 13 (.bin .add Z9 Z12) 6,wT 14 (.bin .eql Z13 (nn 0)) 6,oo 15 (.pick Z6 Z14 aF),ov 2 15] []) .ret),[.t 2]⟩
def F22 : AF := cf false false Tryz.f22
def F25 : AF := cf false false Tryz.f25
def F31 : AF := cf false false Tryz.f31
def F32 : AF := cf false false Tryz.f32
def F33:AF:=⟨sr [oo 6 (.box 3 Z1),oo 10 (.mov aN)] (sr [os 18 3 6,oo 19 (.call 31 [Z18]),oo 20 (.buildSl false 1 [] [] 0),ov 11 19,ov 12 20] (sr [ov 21 11,ov 22 4,ox 23 2 21 22,os 24 2 23,oo 13 (.alloc [vZ,vZ]),ou (.store 2 Z13 Z24)] (sr [os 25 3 6,ov 26 11,ov 27 2,of 28 0 13,ol 29 28,oo 30 (.call 75 [Z25,Z26,Z27,Z29]),ov 14 30] (sq (sr [om 15 0] (.block 0 (.loop (sq (sr [ov 31 15,of 32 2 6,ol 33 32,oo 34 (lS Z33),ob 35 .lss 31 34] (.cond Z35 .skip (.exit 0))) (sq (.block 1 (sr [oo 16 (.mov aF)] (sq (sr [ov 38 0] (.block 2 (sr [on 40 .eql 38 1,ov 39 40] (.cond Z39 (sr [om 17 0] (.block 3 (.loop (sq (sr [ov 41 17,ov 42 11,oo 43 (lS Z42),ob 44 .lss 41 43] (.cond Z44 .skip (.exit 3))) (sq (.block 4 (.draw [ov 47 16,ov 48 47,wF 49 (.mov Z11) 48,wF 50 (.mov Z17) 48,wF 51 (.idxSl 2 Z49 Z50) 48,wF 52 (fA 0 Z51) 48,wF 53 (.load none Z52) 48,wF 54 (fA 0 Z13) 48,wF 55 (.load none (.t 54)) 48,wF 56 (.bin .eql (.t 53) Z55) 48,wF 57 (.mov (.t 56)) 48,wT 58 (.mov Z11) 57,wT 59 (.mov Z17) 57,wT 60 (.idxSl 2 Z58 Z59) 57,wT 61 (fA 1 Z60) 57,wT 62 (.load none (.t 61)) 57,wT 63 (fA 1 Z13) 57,wT 64 (.load none Z63) 57,wT 65 (.bin .lss (.t 62) (.t 64)) 57,wF 66 (.pick (.t 57) (.t 65) aF) 48,wF 67 (.mov (.t 66)) 48,wT 68 (.mov Z2) 67,wT 69 (.mov Z17) 67,wT 70 (.idxSl 1 (.t 68) (.t 69)) 67,wT 71 (.load none (.t 70)) 67,wT 72 (.mov Z15) 67,wT 73 (.bin .eql (.t 71) Z72) 67,wF 74 (.pick (.t 67) (.t 73) aF) 48,oo 75 (.pick (.t 48) aT (.t 74)),ov 16 75] [])) (rg [ov 45 17,on 46 .add 45 1,ov 17 46])))))) (sr [on 77 .eql 38 2,ov 76 77] (.cond (.t 76) (rg [ov 78 14,ov 79 15,ox 80 1 78 79,ol 81 80,ov 16 81]) (sr [on 83 .eql 38 3,ov 82 83] (.cond (.t 82) (.draw [of 84 2 6,ol 85 84,ov 86 15,ox 87 3 85 86,of 88 1 87,ol 89 88,on 90 .eql 89 1,ov 91 90,wT 92 (.mov Z3) 91,wT 93 (.mov Z15) 91,wT 94 (.call 63 [.t 92,.t 93]) 91,wT 95 (.mov Z3) 91,wT 96 (fA 0 Z13) 91,wT 97 (.load none (.t 96)) 91,wT 98 (.call 63 [.t 95,.t 97]) 91,wT 99 (.bin .lss (.t 94) (.t 98)) 91,oo 100 (.pick (.t 91) (.t 99) aF),ov 16 100] []) .skip)))))))) (sr [ov 101 16] (.cond (.t 101) (rg [ov 102 12,ov 103 15,oo 104 (.buildSl false 1 [vZ] [(0,1,(.t 103))] 1),oo 105 (.append false 1 8 (.t 102) (.t 104)),ov 12 105]) .skip))))) (rg [ov 36 15,on 37 .add 36 1,ov 15 37])))))) (sr [ov 106 12,ov 10 106] .ret))))),[.t 10]⟩
def F39 : AF := cf false false Tryz.f39
def F42 : AF := cf true false Tryz.f42
def F43 : AF := cf false false Tryz.f43
def F44 : AF := cf false false Tryz.f44
def F46:AF:=⟨sr [qq 4 (.box 3 Z1),qq 6 (.mov aN)] (sq (.draw [qq 18 (.buildSl true 2 [] [] 0),qs 19 3 4,qq 20 (.call 39 [Z19]),qs 21 3 4,qq 22 (.call 31 [Z21]),qv 7 18,qv 8 20,qv 9 22] [(0,1),(0,2),(0,3),(0,4)]) (sq (sr [qm 10 0] (.block 0 (.loop (sq (sr [qv 23 10,qv 24 8,qq 25 (lS Z24),qb 26 .lss 23 25] (.cond Z26 .skip (.exit 0))) (sq (.block 1 (sq (.draw [qv 29 7,qf 30 2 4,ql 31 30,qq 32 (lS Z31),qv 33 8,qv 34 10,qx 35 1 33 34,ql 36 35,qq 37 (.build [vZ,vZ] [(0,1,Z32),(1,1,Z36)]),qq 38 (.buildSl true 2 [vZ,vZ] [(0,2,Z37)] 1),qq 39 (.append true 2 16 Z29 Z38),qv 7 39] []) (sr [qm 11 0] (.block 2 (.loop (sq (sr [qv 40 11,qv 41 10,qb 42 .lss 40 41] (.cond Z42 .skip (.exit 2))) (sq (.block 3 (sq (.draw [qf 45 2 4,ql 46 45,qv 47 8,qv 48 11,qx 49 1 47 48,ql 50 49,qx 51 3 46 50,qf 52 0 51,ql 53 52,qf 54 2 4,ql 55 54,qv 56 8,qv 57 10,qx 58 1 56 57,ql 59 58,qx 60 3 55 59,qf 61 0 60,ql 62 61,qb 63 .eql 53 62] []) (.cond Z63 (.draw [qv 64 7,qv 65 8,qv 66 11,qx 67 1 65 66,ql 68 67,qv 69 8,qv 70 10,qx 71 1 69 70,ql 72 71,qq 73 (.build [vZ,vZ] [(0,1,(.t 68)),(1,1,Z72)]),qq 74 (.buildSl true 2 [vZ,vZ] [(0,2,(.t 73))] 1),qq 75 (.append true 2 16 (.t 64) (.t 74)),qv 7 75] []) .skip))) (rg [qv 43 11,qn 44 .add 43 1,qv 11 44])))))))) (rg [qv 27 10,qn 28 .add 27 1,qv 10 28])))))) (sq (sr [qm 12 0] (.block 4 (.loop (sq (sr [qv 76 12,qv 77 9,qq 78 (lS (.t 77)),qb 79 .lss 76 78] (.cond (.t 79) .skip (.exit 4))) (sq (.block 5 (sr [qv 82 9,qv 83 12,qx 84 2 82 83,qs 85 2 84,qq 13 (.alloc [vZ,vZ]),qu (.store 2 Z13 (.t 85))] (sq (.draw [qv 86 7,qs 87 3 4,qv 88 2,qv 89 12,qx 90 1 88 89,ql 91 90,qq 92 (.call 94 [.t 87,.t 91]),qf 93 0 13,ql 94 93,qq 95 (.build [vZ,vZ] [(0,1,(.t 92)),(1,1,(.t 94))]),qq 96 (.buildSl true 2 [vZ,vZ] [(0,2,(.t 95))] 1),qq 97 (.append true 2 16 (.t 86) (.t 96)),qv 7 97] []) (sr [qv 98 0,qs 99 3 4,qv 100 2,qv 101 8,qv 102 12,qq 103 (.call 33 [.t 98,.t 99,.t 100,.t 101,.t 102]),qv 14 103] (sr [qm 15 0] (.block 6 (.loop (sq (sr [qv 104 15,qv 105 14,qq 106 (lS (.t 105)),qb 107 .lss 104 106] (.cond (.t 107) .skip (.exit 6))) (sq (.block 7 (sq (.draw [qs 111 3 4,qv 112 14,qv 113 15,qx 114 1 112 113,ql 115 114,qf 116 2 4,ql 117 116,qf 118 0 13,ql 119 118,qx 120 3 117 119,qf 121 2 120,ql 122 121,qf 123 1 13,ql 124 123,qx 125 4 122 124,qf 126 1 125,ql 127 126,qq 128 (.call 64 [.t 111,.t 115,.t 127]),qv 110 128,qe 129 110 0,qe 130 110 1,qq 16 (.alloc [vZ,vZ]),qu (.store 2 Z16 (.t 129)),qv 17 130] [(0,21),(4,21),(6,21),(8,21),(11,21),(13,21),(16,21),(17,21)]) (sq (.draw [qv 131 14,qv 132 15,qx 133 1 131 132,ql 134 133,qv 135 2,qv 136 12,qx 137 1 135 136,ql 138 137,qb 139 .neq 134 138,qv 140 139,zT 141 (.mov Z17) 140,qq 142 (.pick (.t 140) (.t 141) aF)] []) (.cond (.t 142) (.draw [qv 143 7,qv 144 14,qv 145 15,qx 146 1 144 145,ql 147 146,qs 148 3 4,qv 149 2,qv 150 12,qx 151 1 149 150,ql 152 151,qq 153 (.call 94 [.t 148,.t 152]),qq 154 (.build [vZ,vZ] [(0,1,(.t 147)),(1,1,(.t 153))]),qq 155 (.buildSl true 2 [vZ,vZ] [(0,2,(.t 154))] 1),qq 156 (.append true 2 16 (.t 143) (.t 155)),qv 7 156] []) .skip)))) (rg [qv 108 15,qn 109 .add 108 1,qv 15 109])))))))))) (rg [qv 80 12,qn 81 .add 80 1,qv 12 81])))))) (sr [qf 157 2 4,ql 158 157,qq 159 (lS (.t 158)),qn 160 .add 159 1,qv 161 7,qq 162 (.call 95 [.t 160,.t 161]),qq 163 (.call 96 [.t 162]),qv 6 163] .ret)))),[.t 6]⟩
def F47 : AF := cf true false Tryz.f47
def F48 : AF := cf true false Tryz.f48
def F49:AF:=⟨sr [oo 4 (.box 3 Z1),oo 6 (.mov aN),oo 7 (.mov aF)] (sq (.draw [of 14 2 4,ol 15 14,oo 16 (lS Z15),on 17 .add 16 1,ov 18 0,os 19 3 4,ov 20 2,oo 21 (.call 46 [Z18,Z19,Z20]),oo 22 (.call 101 [Z17,Z21]),ov 13 22,oe 23 13 0,oe 24 13 1,ov 8 23,ov 9 24] []) (sr [os 25 3 4,oo 26 (.call 39 [Z25]),oo 27 (.buildSl false 1 [] [] 0),ov 10 26,ov 11 27] (sq (sr [om 12 0] (.block 0 (.loop (sq (sr [ov 28 12,ov 29 8,oo 30 (lS Z29),ob 31 .lss 28 30] (.cond Z31 .skip (.exit 0))) (sq (.block 1 (sr [ov 34 10,ov 35 8,ov 36 12,ox 37 1 35 36,ol 38 37,oo 39 (.call 62 [Z34,Z38])] (.cond Z39 (rg [ov 40 11,ov 41 8,ov 42 12,ox 43 1 41 42,ol 44 43,oo 45 (.buildSl false 1 [vZ] [(0,1,Z44)] 1),oo 46 (.append false 1 8 Z40 Z45),ov 11 46]) .skip))) (rg [ov 32 12,on 33 .add 32 1,ov 12 33])))))) (sr [ov 47 11,ov 48 9,ov 6 47,ov 7 48] .ret)))),[.t 6,.t 7]⟩
def F50 : AF := cf false false Tryz.f50
def F52 : AF := cf false false Tryz.f52
def F53 : AF := cf false false Tryz.f53
def F57:AF:=cf false false Tryz.f57
def F58:AF:=⟨sr [qq 1 (.box 3 Z0),qm 2 0] (sq (sr [qf 9 0 1,ql 10 9,qq 11 (.call 110 [Z10]),qq 12 (.un .not Z11),qv 13 12,zF 14 (fA 1 Z1) 13,zF 15 (.load none Z14) 13,zF 16 (.call 110 [Z15]) 13,zF 17 (.un .not Z16) 13,qq 18 (.pick Z13 aT Z17),qv 19 18,zF 20 (fA 0 Z1) 19,zF 21 (.load none Z20) 19,zF 22 (lS Z21) 19,zF 23 (.bin .gtr Z22 (nn 20)) 19,qq 24 (.pick Z19 aT Z23),qv 25 24,zF 26 (fA 1 Z1) 25,zF 27 (.load none Z26) 25,zF 28 (lS Z27) 25,zF 29 (.bin .gtr Z28 (nn 40)) 25,qq 30 (.pick Z25 aT Z29),qv 31 30,zF 32 (fA 2 Z1) 31,zF 33 (.load none Z32) 31,zF 34 (lS Z33) 31,zF 35 (.bin .gtr Z34 (nn 40)) 31,qq 36 (.pick Z31 aT Z35)] (.cond Z36 (sr [qm 2 4] .ret) .skip)) (sq (.draw [qf 37 1 1,ql 38 37,qq 39 (lS Z38),qq 40 (.mkSl true 1 1 [(.bool false)] Z39 Z39),qf 41 0 1,ql 42 41,qq 43 (lS Z42),qq 44 (.mkSl true 1 1 [(.bool false)] Z43 Z43),qv 3 40,qv 4 44] [(3,5),(1,7),(3,7)]) (sq (sr [qm 5 0] (.block 0 (.loop (sq (sr [qv 45 5,qf 46 2 1,ql 47 46,qq 48 (lS Z47),qb 49 .lss 45 48] (.cond Z49 .skip (.exit 0))) (sq (.block 1 (sq (.seq (sq (.draw [qs 52 3 1,qf 53 2 1,ql 54 53,qv 55 5,qx 56 3 54 55,qs 57 3 56,qv 58 3] []) (rg [qq 59 (.call 111 [Z52,.t 57,Z58]),qq 60 (.un .not Z59)])) (.cond Z60 (sr [qm 2 4] .ret) .skip)) (rg [qv 61 4,qf 62 2 1,ql 63 62,qv 64 5,qx 65 3 63 64,qf 66 0 65,ql 67 66,qx 68 1 61 67,qu (.store 1 (.t 68) aT)]))) (rg [qv 50 5,qn 51 .add 50 1,qv 5 51])))))) (sr [qq 6 (.mov aT)] (sq (sr [qm 7 0] (.block 2 (.loop (sq (sr [qv 69 7,qv 70 3,qq 71 (lS (.t 70)),qb 72 .lss 69 71] (.cond Z72 .skip (.exit 2))) (sq (.block 3 (rg [qv 75 6,qv 76 75,zT 77 (.mov Z3) 76,zT 78 (.mov Z7) 76,zT 79 (.idxSl 1 (.t 77) (.t 78)) 76,zT 80 (.load none (.t 79)) 76,qq 81 (.pick (.t 76) (.t 80) aF),qv 6 81])) (rg [qv 73 7,qn 74 .add 73 1,qv 7 74])))))) (sq (sr [qm 8 0] (.block 4 (.loop (sq (sr [qv 82 8,qv 83 4,qq 84 (lS (.t 83)),qb 85 .lss 82 84] (.cond (.t 85) .skip (.exit 4))) (sq (.block 5 (rg [qv 88 6,qv 89 88,zT 90 (.mov Z4) 89,zT 91 (.mov Z8) 89,zT 92 (.idxSl 1 (.t 90) (.t 91)) 89,zT 93 (.load none (.t 92)) 89,qq 94 (.pick (.t 89) (.t 93) aF),qv 6 94])) (rg [qv 86 8,qn 87 .add 86 1,qv 8 87])))))) (sq (sr [qv 95 6,qq 96 (.un .not (.t 95))] (.cond (.t 96) (sr [qm 2 4] .ret) .skip)) (sr [qm 2 0] .ret)))))))),[.t 2]⟩
def F59 : AF := cf false false Tryz.f59
def F60 : AF := cf false false Tryz.f60
def F61 : AF := cf false false Tryz.f61
def F62 : AF := cf false false Tryz.f62
def F63 : AF := cf false false Tryz.f63
def F64:AF:=⟨sr [oo 3 (.box 3 Z0),oo 6 (.alloc [vZ,vZ]),oo 7 (.mov aF)] (sq (sr [os 8 3 3,oo 9 (.call 58 [Z8]),on 10 .neq 9 0,ov 11 10,wF 12 (.mov Z1) 11,wF 13 (.bin .lss Z12 (nn 0)) 11,oo 14 (.pick Z11 aT Z13),ov 15 14,wF 16 (.mov Z1) 15,wF 17 (fA 2 Z3) 15,wF 18 (.load none Z17) 15,wF 19 (lS Z18) 15,wF 20 (.bin .geq Z16 Z19) 15,oo 21 (.pick Z15 aT Z20)] (.cond Z21 (sr [oo 22 (.build [vZ,vZ] []),ou (.store 2 Z6 Z22),oo 7 (.mov aF)] .ret) .skip)) (sq (.draw [of 23 2 3,ol 24 23,ov 25 1,ox 26 3 24 25,os 27 3 26,of 28 2 3,ol 29 28,ov 30 1,ox 31 3 29 30,of 32 2 31,ol 33 32,oo 34 (lS Z33),ov 35 2,oo 36 (.call 84 [Z27,Z34,Z35]),oe 37 36 0,oe 38 36 1,ou (.store 2 Z6 Z37),ov 7 38] []) .ret)),[.cell 6 (some 2),.t 7]⟩
def F71 : AF := cf false false Tryz.f71
def F74:AF:=⟨sr [oo 2 (.box 3 Z0),oo 3 (.box 2 Z1),oo 4 (.mov aF)] (sq (.seq (.draw [os 7 3 2,os 8 2 3,oo 9 (.call 120 [Z7,Z8]),oo 10 (.un .not Z9),ov 11 10,wF 12 (fA 2 Z2) 11,wF 13 (.load none Z12) 11,wF 14 (fA 0 Z3) 11,wF 15 (.load none Z14) 11,wF 16 (.idxSl 3 Z13 Z15) 11,wF 17 (fA 2 Z16) 11,wF 18 (.load none Z17) 11,wF 19 (fA 1 Z3) 11,wF 20 (.load none Z19) 11,wF 21 (.idxSl 4 Z18 Z20) 11,wF 22 (fA 0 Z21) 11,wF 23 (.load none Z22) 11,oo 24 (.pick Z11 aT Z23)] []) (.cond Z24 (sr [oo 4 (.mov aF)] .ret) .skip)) (sr [os 26 3 2,os 27 2 3,oo 28 (.call 121 [Z26,Z27]),ov 25 28,oe 29 25 0,oe 30 25 1,oo 5 (.alloc [vZ,vZ]),ou (.store 2 Z5 Z29),ov 6 30] (sr [ov 31 6,oo 32 (.un .not Z31),ov 4 32] .ret))),[.t 4]⟩
def F75 : AF := cf false false Tryz.f75
def F84 : AF := cf false false Tryz.f84
def F86 : AF := cf false false Tryz.f86
def F94 : AF := cf false false Tryz.f94
def F100 : AF := cf true false Tryz.f100
def F101 : AF := cf false false Tryz.f101
def F102 : AF := cf false false Tryz.f102
def F103 : AF := cf false false Tryz.f103
def F104 : AF := cf false false Tryz.f104
def F105 : AF := cf false false Tryz.f105
def F106 : AF := cf true false Tryz.f106
def F108:AF:=cf false false Tryz.f108
def F109:AF:=cf true false Tryz.f109
def F110:AF:=⟨sr [oo 2 (.mov aF)] (sq (sr [om 3 0] (.block 0 (.loop (sq (sr [ov 4 3,ov 5 0,oo 6 (lS Z5),ob 7 .lss 4 6] (.cond Z7 .skip (.exit 0))) (sq (.block 1 (sq (.draw [ov 10 0,ov 11 3,ox 12 1 10 11,ol 13 12,oo 14 (.call 172 [Z13]),oo 15 (.un .not Z14),ov 16 15,wF 17 (.mov Z3) 16,wF 18 (.bin .gtr Z17 (nn 0)) 16,wF 19 (.mov Z18) 16,wT 20 (.mov Z0) 19,wT 21 (.mov Z3) 19,wT 22 (.bin .sub Z21 (nn 1)) 19,wT 23 (.idxSl 1 Z20 Z22) 19,wT 24 (.load none Z23) 19,wT 25 (.mov Z0) 19,wT 26 (.mov Z3) 19,wT 27 (.idxSl 1 Z25 Z26) 19,wT 28 (.load none Z27) 19,wT 29 (.call 173 [Z24,Z28]) 19,wT 30 (.un .not Z29) 19,wF 31 (.pick Z19 Z30 aF) 16,oo 32 (.pick Z16 aT Z31)] []) (.cond Z32 (sr [oo 2 (.mov aF)] .ret) .skip))) (rg [ov 8 3,on 9 .add 8 1,ov 3 9])))))) (sr [oo 2 (.mov aT)] .ret)),[.t 2]⟩
def F112:AF:=⟨sr [oo 2 (.box 3 Z0),oo 3 (.box 2 Z1),oo 4 (.mov aN)] (sr [oo 10 (.buildSl false 1 [] [] 0),ov 5 10] (sq (sr [os 11 3 2,os 12 2 3,oo 13 (.call 175 [Z11,Z12]),oo 14 (.un .not Z13)] (.cond Z14 (sr [ov 15 5,ov 4 15] .ret) .skip)) (sq (.draw [of 16 2 2,ol 17 16,of 18 0 3,ol 19 18,ox 20 3 17 19,of 21 2 20,ol 22 21,of 23 1 3,ol 24 23,ox 25 4 22 24,os 26 4 25,oo 6 (.alloc [(.bool false),vZ,vZ,vZ]),ou (.store 4 Z6 Z26)] [(1,11),(3,11),(6,11),(8,11),(10,11)]) (sq (sr [of 27 2 6,of 28 0 27,ol 29 28,on 30 .neq 29 1] (.cond Z30 (rg [ov 31 5,oo 32 (.buildSl false 1 [vZ] [(0,1,(nn (-1)))] 1),oo 33 (.append false 1 8 Z31 Z32),ov 5 33]) .skip)) (sq (sr [om 7 0] (.block 0 (.loop (sq (sr [ov 34 7,of 35 2 2,ol 36 35,oo 37 (lS Z36),ob 38 .lss 34 37] (.cond Z38 .skip (.exit 0))) (sq (.block 1 (sq (.draw [of 42 2 2,ol 43 42,ov 44 7,ox 45 3 43 44,os 46 3 45,of 47 2 2,ol 48 47,ov 49 7,ox 50 3 48 49,of 51 2 50,ol 52 51,oo 53 (lS Z52),of 54 1 6,ol 55 54,oo 56 (.call 84 [.t 46,.t 53,Z55]),ov 41 56,oe 57 41 0,oe 58 41 1,oo 8 (.alloc [vZ,vZ]),ou (.store 2 Z8 (.t 57)),ov 9 58] [(1,18),(4,18),(6,18),(10,18),(13,18),(14,18)]) (sr [ov 59 7,of 60 0 3,ol 61 60,ob 62 .neq 59 61,ov 63 62,wT 64 (fA 2 Z2) 63,wT 65 (.load none (.t 64)) 63,wT 66 (.mov Z7) 63,wT 67 (.idxSl 3 (.t 65) (.t 66)) 63,wT 68 (fA 1 (.t 67)) 63,wT 69 (.load none (.t 68)) 63,wT 70 (.bin .neq (.t 69) (nn 2)) 63,oo 71 (.pick Z63 (.t 70) aF),ov 72 71,wT 73 (.mov Z9) 72,oo 74 (.pick Z72 (.t 73) aF),ov 75 74,wT 76 (fA 2 Z6) 75,wT 77 (fA 0 (.t 76)) 75,wT 78 (.load none (.t 77)) 75,wT 79 (.bin .eql (.t 78) (nn 2)) 75,wT 80 (.mov (.t 79)) 75,wF 81 (.load (some 2) Z8) 80,wF 82 (fA 2 Z6) 80,wF 83 (.load (some 2) (.t 82)) 80,wF 84 (.eq false (.struct [.int,.int]) (.t 81) (.t 83)) 80,wT 85 (.pick (.t 80) aT (.t 84)) 75,oo 86 (.pick (.t 75) (.t 85) aF)] (.cond (.t 86) (rg [ov 87 5,ov 88 7,oo 89 (.buildSl false 1 [vZ] [(0,1,(.t 88))] 1),oo 90 (.append false 1 8 (.t 87) (.t 89)),ov 5 90]) .skip)))) (rg [ov 39 7,on 40 .add 39 1,ov 7 40])))))) (sr [ov 91 5,ov 4 91] .ret)))))),[.t 4]⟩
def F116 : AF := cf false false Tryz.f116
def F118:AF:=cf false false Tryz.f118
def F120:AF:=⟨sr [oo 2 (.box 3 Z0),oo 3 (.box 2 Z1),oo 4 (.mov aF)] (sq (.draw [os 5 3 2,oo 6 (.call 58 [Z5]),on 7 .eql 6 0,ov 8 7,wT 9 (fA 0 Z3) 8,wT 10 (.load none Z9) 8,wT 11 (.bin .geq Z10 (nn 0)) 8,oo 12 (.pick Z8 Z11 aF),ov 13 12,wT 14 (fA 0 Z3) 13,wT 15 (.load none Z14) 13,wT 16 (fA 2 Z2) 13,wT 17 (.load none Z16) 13,wT 18 (lS Z17) 13,wT 19 (.bin .lss Z15 Z18) 13,oo 20 (.pick Z13 Z19 aF),ov 21 20,wT 22 (fA 1 Z3) 21,wT 23 (.load none Z22) 21,wT 24 (.bin .geq Z23 (nn 0)) 21,oo 25 (.pick Z21 Z24 aF),ov 26 25,wT 27 (fA 1 Z3) 26,wT 28 (.load none Z27) 26,wT 29 (fA 2 Z2) 26,wT 30 (.load none Z29) 26,wT 31 (fA 0 Z3) 26,wT 32 (.load none Z31) 26,wT 33 (.idxSl 3 Z30 Z32) 26,wT 34 (fA 2 Z33) 26,wT 35 (.load none Z34) 26,wT 36 (lS Z35) 26,wT 37 (.bin .lss Z28 Z36) 26,oo 38 (.pick Z26 Z37 aF),ov 4 38] []) .ret),[.t 4]⟩
def F121:AF:=⟨sr [oo 2 (.box 3 Z0),oo 3 (.box 2 Z1),oo 4 (.alloc [vZ,vZ]),oo 5 (.mov aF)] (sq (sr [os 6 3 2,os 7 2 3,oo 8 (.call 120 [Z6,Z7]),oo 9 (.un .not Z8)] (.cond Z9 (sr [oo 10 (.build [vZ,vZ] []),ou (.store 2 Z4 Z10),oo 5 (.mov aF)] .ret) .skip)) (sq (.draw [of 11 2 2,ol 12 11,of 13 0 3,ol 14 13,ox 15 3 12 14,os 16 3 15,of 17 1 3,ol 18 17,of 19 2 2,ol 20 19,of 21 0 3,ol 22 21,ox 23 3 20 22,of 24 2 23,ol 25 24,of 26 1 3,ol 27 26,ox 28 4 25 27,of 29 1 28,ol 30 29,oo 31 (.call 84 [Z16,Z18,Z30]),oe 32 31 0,oe 33 31 1,ou (.store 2 Z4 Z32),ov 5 33] []) .ret)),[.cell 4 (some 2),.t 5]⟩
def F122:AF:=⟨sr [oo 5 (.box 3 Z0),oo 10 (.mov aF)] (sq (sr [of 12 2 5,ol 13 12,ov 14 3,ox 15 3 13 14,of 16 1 15,ol 17 16,on 18 .neq 17 1,ov 19 18,wF 20 (fA 2 Z5) 19,wF 21 (.load none Z20) 19,wF 22 (.mov Z4) 19,wF 23 (.idxSl 3 Z21 Z22) 19,wF 24 (fA 1 Z23) 19,wF 25 (.load none Z24) 19,wF 26 (.bin .neq Z25 (nn 1)) 19,oo 27 (.pick Z19 aT Z26)] (.cond Z27 (sr [oo 10 (.mov aF)] .ret) .skip)) (sq (.seq (.draw [ov 28 3,ov 29 4,ob 30 .lss 28 29,ov 31 30,wT 32 (fA 2 Z5) 31,wT 33 (.load none Z32) 31,wT 34 (.mov Z3) 31,wT 35 (.idxSl 3 Z33 Z34) 31,wT 36 (fA 0 Z35) 31,wT 37 (.load none Z36) 31,wT 38 (fA 2 Z5) 31,wT 39 (.load none Z38) 31,wT 40 (.mov Z4) 31,wT 41 (.idxSl 3 Z39 Z40) 31,wT 42 (fA 0 Z41) 31,wT 43 (.load none Z42) 31,wT 44 (.bin .eql Z37 Z43) 31,oo 45 (.pick Z31 Z44 aF)] []) (.cond Z45 (sr [oo 10 (.mov aT)] .ret) .skip)) (sq (sr [om 11 0] (.block 0 (.loop (sq (sr [ov 46 11,ov 47 1,oo 48 (lS Z47),ob 49 .lss 46 48] (.cond Z49 .skip (.exit 0))) (sq (.block 1 (sr [ov 52 2,ov 53 11,ox 54 1 52 53,ol 55 54,ov 56 3,ob 57 .eql 55 56,ov 58 57,wT 59 (.mov Z1) 58,wT 60 (.mov Z11) 58,wT 61 (.idxSl 2 Z59 Z60) 58,wT 62 (fA 0 (.t 61)) 58,wT 63 (.load none (.t 62)) 58,wT 64 (.mov Z4) 58,wT 65 (.bin .eql Z63 (.t 64)) 58,oo 66 (.pick Z58 (.t 65) aF)] (.cond (.t 66) (sr [oo 10 (.mov aT)] .ret) .skip))) (rg [ov 50 11,on 51 .add 50 1,ov 11 51])))))) (sr [oo 10 (.mov aF)] .ret)))),[.t 10]⟩
def F124:AF:=cf false false Tryz.f124
def F127 : AF := cf false false Tryz.f127
def F128:AF:=cf false false Tryz.f128
def F130:AF:=cf false false Tryz.f130
def F136:AF:=⟨sr [oo 2 (.box 3 Z0),oo 3 (.box 2 Z1),oo 4 (.mov aF)] (sr [os 8 3 2,of 9 0 3,ol 10 9,oo 11 (.call 176 [Z8,Z10]),ov 5 11] (sq (sr [of 12 1 3,ol 13 12,on 14 .lss 13 0,ov 15 14,wF 16 (fA 1 Z3) 15,wF 17 (.load none Z16) 15,wF 18 (.mov Z5) 15,wF 19 (lS Z18) 15,wF 20 (.bin .geq Z17 Z19) 15,oo 21 (.pick Z15 aT Z20),ov 22 21,wF 23 (.mov Z5) 22,wF 24 (fA 1 Z3) 22,wF 25 (.load none Z24) 22,wF 26 (.idxSl 4 Z23 Z25) 22,wF 27 (fA 0 Z26) 22,wF 28 (.load none Z27) 22,oo 29 (.pick Z22 aT Z28)] (.cond Z29 (sr [oo 4 (.mov aF)] .ret) .skip)) (sq (.draw [ov 31 5,of 32 1 3,ol 33 32,oo 34 (.slSl 4 Z31 none (some Z33)),ov 35 5,of 36 1 3,ol 37 36,ox 38 4 35 37,of 39 1 38,ol 40 39,oo 41 (.call 177 [Z34,Z40]),ov 30 41,oe 42 30 0,oe 43 30 1,oo 6 (.alloc [vZ,vZ]),ou (.store 2 Z6 Z42),ov 7 43] [(2,14),(6,14),(9,14),(10,14)]) (sr [ov 44 7,oo 45 (.un .not Z44),ov 4 45] .ret)))),[.t 4]⟩
def F145:AF:=cf false false Tryz.f145
def F146:AF:=cf false false Tryz.f146
def F147:AF:=cf false false Tryz.f147
def F148:AF:=cf false false Tryz.f148
def F149:AF:=cf false false Tryz.f149
def F151 : AF := cf false false Tryz.f151
def F152 : AF := cf false false Tryz.f152
def F155 : AF := cf false false Tryz.f155
def F157 : AF := cf false false Tryz.f157
def F158 : AF := cf false false Tryz.f158
def F159 : AF := cf false false Tryz.f159
def F160 : AF := cf false false Tryz.f160
def F161 : AF := cf false false Tryz.f161
def F166:AF:=cf false false Tryz.f166
def F167:AF:=cf false false Tryz.f167
def F170:AF:=cf false false Tryz.f170
def F172 : AF := cf false false Tryz.f172
def F173 : AF := cf false false Tryz.f173
def F174 : AF := cf false false Tryz.f174
def F175:AF:=⟨sr [oo 2 (.box 3 Z0),oo 3 (.box 2 Z1),oo 4 (.mov aF)] (sq (.draw [os 5 3 2,oo 6 (.call 58 [Z5]),on 7 .eql 6 0,ov 8 7,wT 9 (fA 0 Z3) 8,wT 10 (.load none Z9) 8,wT 11 (.bin .geq Z10 (nn 0)) 8,oo 12 (.pick Z8 Z11 aF),ov 13 12,wT 14 (fA 0 Z3) 13,wT 15 (.load none Z14) 13,wT 16 (fA 2 Z2) 13,wT 17 (.load none Z16) 13,wT 18 (lS Z17) 13,wT 19 (.bin .lss Z15 Z18) 13,oo 20 (.pick Z13 Z19 aF),ov 21 20,wT 22 (fA 1 Z3) 21,wT 23 (.load none Z22) 21,wT 24 (.bin .geq Z23 (nn 0)) 21,oo 25 (.pick Z21 Z24 aF),ov 26 25,wT 27 (fA 1 Z3) 26,wT 28 (.load none Z27) 26,wT 29 (fA 2 Z2) 26,wT 30 (.load none Z29) 26,wT 31 (fA 0 Z3) 26,wT 32 (.load none Z31) 26,wT 33 (.idxSl 3 Z30 Z32) 26,wT 34 (fA 2 Z33) 26,wT 35 (.load none Z34) 26,wT 36 (lS Z35) 26,wT 37 (.bin .lss Z28 Z36) 26,oo 38 (.pick Z26 Z37 aF),ov 39 38,wT 40 (fA 2 Z2) 39,wT 41 (.load none Z40) 39,wT 42 (fA 0 Z3) 39,wT 43 (.load none Z42) 39,wT 44 (.idxSl 3 Z41 Z43) 39,wT 45 (fA 2 Z44) 39,wT 46 (.load none Z45) 39,wT 47 (fA 1 Z3) 39,wT 48 (.load none Z47) 39,wT 49 (.idxSl 4 (.t 46) (.t 48)) 39,wT 50 (fA 0 Z49) 39,wT 51 (.load none Z50) 39,wT 52 (.un .not Z51) 39,oo 53 (.pick Z39 Z52 aF),ov 4 53] []) .ret),[.t 4]⟩
def F176 : AF := cf false false Tryz.f176
def F177 : AF := cf false false Tryz.f177
def F188:AF:=cf false false Tryz.f188
def F189 : AF := cf false false Tryz.f189
def F190:AF:=cf false false Tryz.f190
def F194 : AF := cf false false Tryz.f194
def F206:AF:=cf false false Tryz.f206
def F208:AF:=cf false false Tryz.f208
def F209:AF:=cf false false Tryz.f209
def F210:AF:=cf false false Tryz.f210
def F211 : AF := cf false false Tryz.f211
def F212 : AF := cf false false Tryz.f212
def F214 : AF := cf false false Tryz.f214
def F216:AF:=⟨sr [oo 1 (.box 2 Z0),oo 2 (.mov aF)] (sr [os 6 2 1,oo 7 (.call 253 [Z6]),oo 8 (.call 252 [Z7]),ov 5 8,oe 9 5 0,oe 10 5 1,oo 3 (.alloc [vZ,vZ]),ou (.store 2 Z3 Z9),ov 4 10] (sr [ov 11 4,on 12 .eql 11 0,ov 13 12,wT 14 (.load (some 2) Z3) 13,wT 15 (.load (some 2) Z1) 13,wT 16 (.eq false (.struct [.int,.int]) Z14 Z15) 13,oo 17 (.pick Z13 Z16 aF),ov 2 17] .ret)),[.t 2]⟩
def F217:AF:=⟨sr [qq 2 (.box 3 Z0),qq 3 (.box 2 Z1),qq 4 (.mov aN)] (sr [qs 11 3 2,qs 12 2 3,qq 13 (.call 254 [Z11,Z12]),qv 10 13,qe 14 10 0,qe 15 10 1,qq 5 (.alloc [(.bool false),vZ,vZ,vZ]),qu (.store 4 Z5 Z14),qv 6 15] (sq (sr [qv 16 6,qq 17 (.un .not Z16)] (.cond Z17 (sr [qq 4 (.mov aN)] .ret) .skip)) (sr [qq 7 (.mov aN)] (sq (sr [qf 18 2 5,qf 19 0 18,ql 20 19,qn 21 .neq 20 1] (.cond Z21 (rg [qv 22 7,qq 23 (.buildSl true 1 [vZ] [(0,1,(nn (-1)))] 1),qq 24 (.append true 1 8 Z22 Z23),qv 7 24]) .skip)) (sq (sr [qs 25 3 2,qf 26 0 3,ql 27 26,qf 28 1 5,ql 29 28,qq 30 (.call 255 [Z25,Z27,Z29]),qq 31 (.range false Z30)] (.block 0 (.loop (sr [qq 32 (.nextMap Z31),qe 33 32 0] (sq (.cond Z33 .skip (.exit 0)) (.block 1 (sr [qq 34 (.entry Z31),qe 35 34 0,qe 36 34 1,qq 9 (.alloc [vZ,vZ]),qv 8 35,qu (.store 2 Z9 Z36)] (sr [qf 37 2 5,qf 38 0 37,ql 39 38,qn 40 .eql 39 2,qv 41 40,zF 42 (.load (some 2) Z9) 41,zF 43 (fA 2 Z5) 41,zF 44 (.load (some 2) Z43) 41,zF 45 (.eq false (.struct [.int,.int]) Z42 Z44) 41,qq 46 (.pick Z41 aT Z45)] (.cond (.t 46) (rg [qv 47 7,qv 48 8,qq 49 (.buildSl true 1 [vZ] [(0,1,(.t 48))] 1),qq 50 (.append true 1 8 Z47 Z49),qv 7 50]) .skip))))))))) (sr [qv 51 7,qq 52 (.call 69 [Z51])] (sr [qv 53 7,qv 4 53] .ret))))))),[.t 4]⟩
def F223:AF:=cf false false Tryz.f223
def F224:AF:=cf false false Tryz.f224
def F225:AF:=cf false false Tryz.f225
def F226:AF:=cf false false Tryz.f226
def F227:AF:=cf false false Tryz.f227
def F228:AF:=cf false false Tryz.f228
def F229 : AF := cf false false Tryz.f229
def F230:AF:=cf false false Tryz.f230
def F233:AF:=cf false false Tryz.f233
def F234 : AF := cf false false Tryz.f234
def F235:AF:=⟨sr [oo 2 (.mov aF)] (sr [ov 3 0,oo 4 (.bin .eql Z3 (.c (.str [98,101,103,105,110]))),ov 5 4,wF 6 (.mov Z0) 5,wF 7 (.bin .eql Z6 (.c (.str [114,101,97,100]))) 5,oo 8 (.pick Z5 aT Z7),ov 9 8,wF 10 (.mov Z0) 9,wF 11 (.bin .eql Z10 (.c (.str [119,114,105,116,101]))) 9,oo 12 (.pick Z9 aT Z11),ov 13 12,wF 14 (.mov Z0) 13,wF 15 (.bin .eql Z14 (.c (.str [111,107]))) 13,oo 16 (.pick Z13 aT Z15),ov 17 16,wF 18 (.mov Z0) 17,wF 19 (.bin .eql Z18 (.c (.str [102,97,105,108]))) 17,oo 20 (.pick Z17 aT Z19),ov 21 20,wF 22 (.mov Z0) 21,wF 23 (.bin .eql Z22 (.c (.str [105,110,102,111]))) 21,oo 24 (.pick Z21 aT Z23),ov 25 24,wF 26 (.mov Z0) 25,wF 27 (.bin .eql Z26 (.c (.str [110,105,108]))) 25,oo 28 (.pick Z25 aT Z27),ov 2 28] .ret),[.t 2]⟩
def F236 : AF := cf false false Tryz.f236
def F248:AF:=cf false false Tryz.f248
def F249:AF:=cf false false Tryz.f249
def F250 : AF := cf false false Tryz.f250
def F251 : AF := cf false false Tryz.f251
def F252 : AF := cf false false Tryz.f252
def F253 : AF := cf false false Tryz.f253
def F254:AF:=⟨sr [oo 2 (.box 3 Z0),oo 3 (.box 2 Z1),oo 4 (.alloc [(.bool false),vZ,vZ,vZ]),oo 5 (.mov aF)] (sq (.seq (.draw [os 7 3 2,oo 8 (.call 103 [Z7]),on 9 .neq 8 0,ov 10 9,wF 11 (fA 0 Z3) 10,wF 12 (.load none Z11) 10,wF 13 (.bin .lss Z12 (nn 0)) 10,oo 14 (.pick Z10 aT Z13),ov 15 14,wF 16 (fA 0 Z3) 15,wF 17 (.load none Z16) 15,wF 18 (fA 2 Z2) 15,wF 19 (.load none Z18) 15,wF 20 (lS Z19) 15,wF 21 (.bin .geq Z17 Z20) 15,oo 22 (.pick Z15 aT Z21),ov 23 22,wF 24 (fA 1 Z3) 23,wF 25 (.load none Z24) 23,wF 26 (.bin .lss Z25 (nn 0)) 23,oo 27 (.pick Z23 aT Z26),ov 28 27,wF 29 (fA 1 Z3) 28,wF 30 (.load none Z29) 28,wF 31 (fA 2 Z2) 28,wF 32 (.load none Z31) 28,wF 33 (fA 0 Z3) 28,wF 34 (.load none Z33) 28,wF 35 (.idxSl 3 Z32 Z34) 28,wF 36 (fA 2 Z35) 28,wF 37 (.load none Z36) 28,wF 38 (lS Z37) 28,wF 39 (.bin .geq Z30 Z38) 28,oo 40 (.pick Z28 aT Z39)] []) (.cond Z40 (sr [oo 41 (.build [(.bool false),vZ,vZ,vZ] []),ou (.store 4 Z4 Z41),oo 5 (.mov aF)] .ret) .skip)) (sq (.draw [of 42 2 2,ol 43 42,of 44 0 3,ol 45 44,ox 46 3 43 45,of 47 2 46,ol 48 47,of 49 1 3,ol 50 49,ox 51 4 48 50,os 52 4 51,oo 6 (.alloc [(.bool false),vZ,vZ,vZ]),ou (.store 4 Z6 Z52)] [(1,11),(3,11),(6,11),(8,11),(10,11)]) (sq (.draw [os 53 4 6,of 54 0 6,ol 55 54,oo 56 (.un .not Z55),ou (.store 4 Z4 (.t 53)),ov 5 56] [(2,4)]) .ret))),[.cell 4 (some 4),.t 5]⟩
def F258:AF:=cf false false Tryz.f258
def F259:AF:=cf false false Tryz.f259
def F261:AF:=cf false false Tryz.f261
def F262:AF:=cf false false Tryz.f262
def F263:AF:=cf false false Tryz.f263
def F264:AF:=⟨sr [oo 2 (.mov aF)] (sq (sr [ov 3 0] (.block 0 (sq (sr [oo 5 (.bin .eql Z3 (.c (.str [98,101,103,105,110]))),ov 4 5] (.cond Z4 .skip (sr [oo 6 (.bin .eql Z3 (.c (.str [114,101,97,100]))),ov 4 6] (.cond Z4 .skip (sr [oo 7 (.bin .eql Z3 (.c (.str [119,114,105,116,101]))),ov 4 7] (.cond Z4 .skip (sr [oo 8 (.bin .eql Z3 (.c (.str [111,107]))),ov 4 8] (.cond Z4 .skip (sr [oo 9 (.bin .eql Z3 (.c (.str [102,97,105,108]))),ov 4 9] (.cond Z4 .skip (sr [oo 10 (.bin .eql Z3 (.c (.str [105,110,102,111]))),ov 4 10] (.cond Z4 .skip (rg [oo 11 (.bin .eql Z3 (.c (.str [110,105,108]))),ov 4 11]))))))))))))) (.cond Z4 (sr [oo 2 (.mov aT)] .ret) .skip)))) (sr [oo 2 (.mov aF)] .ret)),[.t 2]⟩
def F265:AF:=⟨sr [oo 2 (.mov aF)] (sq (.block 0 (.loop (sq (sr [ov 7 0,oo 8 (.lenStr Z7),on 9 .gtr 8 0] (.cond Z9 .skip (.exit 0))) (.block 1 (sr [ov 10 0,oo 11 (.idxStr Z10 (nn 0)),ov 3 11] (sq (sr [ov 12 3,oo 13 (.bin .lss Z12 (.c (.int .u8 128)))] (.cond Z13 (sr [ov 14 0,oo 15 (.slStr Z14 (some (nn 1)) none),ov 0 15] (sq (sr [ov 16 0,oo 17 (.lenStr Z16),on 18 .gtr 17 8,ov 19 18,wT 20 (.mov Z0) 19,wT 21 (.call 289 [Z20]) 19,wT 22 (.bin .and Z21 (.c (.int .u64 9259542123273814144))) 19,wT 23 (.bin .eql Z22 (.c (.int .u64 0))) 19,oo 24 (.pick Z19 Z23 aF)] (.cond Z24 (sr [ov 25 0,oo 26 (.slStr Z25 (some (nn 8)) none),ov 0 26] (sq (.draw [ov 27 0,oo 28 (.lenStr Z27),on 29 .gtr 28 16,ov 30 29,wT 31 (.mov Z0) 30,wT 32 (.call 289 [Z31]) 30,wT 33 (.mov Z0) 30,wT 34 (.slStr Z33 (some (nn 8)) none) 30,wT 35 (.call 289 [Z34]) 30,wT 36 (.bin .or Z32 Z35) 30,wT 37 (.bin .and Z36 (.c (.int .u64 9259542123273814144))) 30,wT 38 (.bin .eql Z37 (.c (.int .u64 0))) 30,oo 39 (.pick Z30 Z38 aF)] []) (.cond Z39 (sr [ov 40 0,oo 41 (.slStr Z40 (some (nn 16)) none),ov 0 41] (.block 2 (.loop (sq (.seq (.draw [ov 42 0,oo 43 (.lenStr Z42),on 44 .gtr 43 32,ov 45 44,wT 46 (.mov Z0) 45,wT 47 (.call 289 [.t 46]) 45,wT 48 (.mov Z0) 45,wT 49 (.slStr (.t 48) (some (nn 8)) none) 45,wT 50 (.call 289 [Z49]) 45,wT 51 (.bin .or Z47 Z50) 45,wT 52 (.mov Z0) 45,wT 53 (.slStr Z52 (some (nn 16)) none) 45,wT 54 (.call 289 [.t 53]) 45,wT 55 (.mov Z0) 45,wT 56 (.slStr Z55 (some (nn 24)) none) 45,wT 57 (.call 289 [.t 56]) 45,wT 58 (.bin .or (.t 54) (.t 57)) 45,wT 59 (.bin .or Z51 Z58) 45,wT 60 (.bin .and Z59 (.c (.int .u64 9259542123273814144))) 45,wT 61 (.bin .eql Z60 (.c (.int .u64 0))) 45,oo 62 (.pick Z45 (.t 61) aF)] []) (.cond (.t 62) .skip (.exit 2))) (.block 3 (rg [ov 63 0,oo 64 (.slStr Z63 (some (nn 32)) none),ov 0 64])))))) .skip))) .skip)) (.exit 1))) .skip)) (sr [ov 65 3,oo 66 (.idxArr 256 1 (.g 2) (.t 65)),ol 67 66,ov 4 67] (sr [ov 68 4,oo 69 (.bin .and (.t 68) (.c (.int .u8 7))),oo 70 (.conv .i64 (.t 69)),ov 5 70] (sr [ov 71 4,oo 72 (.bin .shr (.t 71) (.c (.int .u64 4))),oo 73 (.idxArr 16 2 (.g 3) Z72),os 74 2 73,oo 6 (.alloc [(.int .u8 0),(.int .u8 0)]),ou (.store 2 Z6 (.t 74))] (sr [ov 75 5] (.block 4 (sr [on 77 .eql 75 2,ov 76 77] (.cond (.t 76) (sq (.seq (.draw [ov 78 0,oo 79 (.lenStr (.t 78)),on 80 .lss 79 2,ov 81 80,wF 82 (.mov Z0) 81,wF 83 (.idxStr (.t 82) (nn 1)) 81,wF 84 (fA 0 Z6) 81,wF 85 (.load none (.t 84)) 81,wF 86 (.bin .lss (.t 83) (.t 85)) 81,oo 87 (.pick (.t 81) aT (.t 86)),ov 88 87,wF 89 (fA 1 Z6) 88,wF 90 (.load none (.t 89)) 88,wF 91 (.mov Z0) 88,wF 92 (.idxStr (.t 91) (nn 1)) 88,wF 93 (.bin .lss (.t 90) (.t 92)) 88,oo 94 (.pick (.t 88) aT (.t 93))] []) (.cond (.t 94) (sr [oo 2 (.mov aF)] .ret) .skip)) (rg [ov 95 0,oo 96 (.slStr (.t 95) (some (nn 2)) none),ov 0 96])) (sr [on 98 .eql 75 3,ov 97 98] (.cond (.t 97) (sq (.seq (.draw [ov 99 0,oo 100 (.lenStr (.t 99)),on 101 .lss 100 3,ov 102 101,wF 103 (.mov Z0) 102,wF 104 (.idxStr (.t 103) (nn 1)) 102,wF 105 (fA 0 Z6) 102,wF 106 (.load none (.t 105)) 102,wF 107 (.bin .lss (.t 104) (.t 106)) 102,oo 108 (.pick (.t 102) aT (.t 107)),ov 109 108,wF 110 (fA 1 Z6) 109,wF 111 (.load none (.t 110)) 109,wF 112 (.mov Z0) 109,wF 113 (.idxStr (.t 112) (nn 1)) 109,wF 114 (.bin .lss (.t 111) (.t 113)) 109,oo 115 (.pick (.t 109) aT (.t 114)),ov 116 115,wF 117 (.mov Z0) 116,wF 118 (.idxStr (.t 117) (nn 2)) 116,wF 119 (.bin .lss (.t 118) (.c (.int .u8 128))) 116,oo 120 (.pick (.t 116) aT (.t 119)),ov 121 120,wF 122 (.mov Z0) 121,wF 123 (.idxStr (.t 122) (nn 2)) 121,wF 124 (.bin .lss (.c (.int .u8 191)) (.t 123)) 121,oo 125 (.pick (.t 121) aT (.t 124))] []) (.cond (.t 125) (sr [oo 2 (.mov aF)] .ret) .skip)) (rg [ov 126 0,oo 127 (.slStr (.t 126) (some (nn 3)) none),ov 0 127])) (sr [on 129 .eql 75 4,ov 128 129] (.cond (.t 128) (sq (.seq (.draw [ov 130 0,oo 131 (.lenStr (.t 130)),on 132 .lss 131 4,ov 133 132,wF 134 (.mov Z0) 133,wF 135 (.idxStr (.t 134) (nn 1)) 133,wF 136 (fA 0 Z6) 133,wF 137 (.load none (.t 136)) 133,wF 138 (.bin .lss (.t 135) (.t 137)) 133,oo 139 (.pick (.t 133) aT (.t 138)),ov 140 139,wF 141 (fA 1 Z6) 140,wF 142 (.load none (.t 141)) 140,wF 143 (.mov Z0) 140,wF 144 (.idxStr (.t 143) (nn 1)) 140,wF 145 (.bin .lss (.t 142) (.t 144)) 140,oo 146 (.pick (.t 140) aT (.t 145)),ov 147 146,wF 148 (.mov Z0) 147,wF 149 (.idxStr (.t 148) (nn 2)) 147,wF 150 (.bin .lss (.t 149) (.c (.int .u8 128))) 147,oo 151 (.pick (.t 147) aT (.t 150)),ov 152 151,wF 153 (.mov Z0) 152,wF 154 (.idxStr (.t 153) (nn 2)) 152,wF 155 (.bin .lss (.c (.int .u8 191)) (.t 154)) 152,oo 156 (.pick (.t 152) aT (.t 155)),ov 157 156,wF 158 (.mov Z0) 157,wF 159 (.idxStr (.t 158) (nn 3)) 157,wF 160 (.bin .lss (.t 159) (.c (.int .u8 128))) 157,oo 161 (.pick (.t 157) aT (.t 160)),ov 162 161,wF 163 (.mov Z0) 162,wF 164 (.idxStr (.t 163) (nn 3)) 162,wF 165 (.bin .lss (.c (.int .u8 191)) (.t 164)) 162,oo 166 (.pick (.t 162) aT (.t 165))] []) (.cond (.t 166) (sr [oo 2 (.mov aF)] .ret) .skip)) (rg [ov 167 0,oo 168 (.slStr (.t 167) (some (nn 4)) none),ov 0 168])) (sr [oo 2 (.mov aF)] .ret)))))))))))))))))) (sr [oo 2 (.mov aT)] .ret)),[.t 2]⟩
def F266 : AF := cf false false Tryz.f266
def F267 : AF := cf false false Tryz.f267
def F268:AF:=cf false false Tryz.f268
def F269:AF:=cf false false Tryz.f269
def F273 : AF := cf false false Tryz.f273
def F278:AF:=cf false false Tryz.f278
def F279 : AF := cf false false Tryz.f279
def F280 : AF := cf false false Tryz.f280
def F281 : AF := cf false false Tryz.f281
def F284:AF:=cf false false Tryz.f284
def F285:AF:=cf false false Tryz.f285
def F286:AF:=cf false false Tryz.f286
def F287:AF:=cf false false Tryz.f287
def F288:AF:=cf false false Tryz.f288
def F289:AF:=⟨sr [oo 2 (.mov (.c (.int .u64 0)))] (sq (.cond aF (sq (.draw [ov 3 0,oo 4 (.idxStr Z3 (nn 0)),oo 5 (.conv .u64 Z4),ov 6 0,oo 7 (.idxStr Z6 (nn 1)),oo 8 (.conv .u64 Z7),oo 9 (.bin .shl Z8 (.c (.int .u64 8))),ob 10 .or 5 9,ov 11 0,oo 12 (.idxStr Z11 (nn 2)),oo 13 (.conv .u64 Z12),oo 14 (.bin .shl Z13 (.c (.int .u64 16))),ob 15 .or 10 14,ov 16 0,oo 17 (.idxStr Z16 (nn 3)),oo 18 (.conv .u64 Z17),oo 19 (.bin .shl Z18 (.c (.int .u64 24))),ob 20 .or 15 19,ov 2 20] []) .ret) .skip) (sq (.draw [ov 21 0,oo 22 (.idxStr Z21 (nn 0)),oo 23 (.conv .u64 Z22),ov 24 0,oo 25 (.idxStr Z24 (nn 1)),oo 26 (.conv .u64 Z25),oo 27 (.bin .shl Z26 (.c (.int .u64 8))),ob 28 .or 23 27,ov 29 0,oo 30 (.idxStr Z29 (nn 2)),oo 31 (.conv .u64 Z30),oo 32 (.bin .shl Z31 (.c (.int .u64 16))),ob 33 .or 28 32,ov 34 0,oo 35 (.idxStr Z34 (nn 3)),oo 36 (.conv .u64 Z35),oo 37 (.bin .shl Z36 (.c (.int .u64 24))),ob 38 .or 33 37,ov 39 0,oo 40 (.idxStr Z39 (nn 4)),oo 41 (.conv .u64 Z40),oo 42 (.bin .shl Z41 (.c (.int .u64 32))),ob 43 .or 38 42,ov 44 0,oo 45 (.idxStr Z44 (nn 5)),oo 46 (.conv .u64 Z45),oo 47 (.bin .shl (.t 46) (.c (.int .u64 40))),ob 48 .or 43 47,ov 49 0,oo 50 (.idxStr Z49 (nn 6)),oo 51 (.conv .u64 Z50),oo 52 (.bin .shl Z51 (.c (.int .u64 48))),ob 53 .or 48 52,ov 54 0,oo 55 (.idxStr (.t 54) (nn 7)),oo 56 (.conv .u64 Z55),oo 57 (.bin .shl (.t 56) (.c (.int .u64 56))),ob 58 .or 53 57,ov 2 58] []) .ret)),[.t 2]⟩
def F290:AF:=cf false false Tryz.f290
def F293 : AF := cf false false Tryz.f293
def F300:AF:=cf false false Tryz.f300
def F301:AF:=cf false false Tryz.f301
def F302:AF:=cf false false Tryz.f302
def F304 : AF := cf false false Tryz.f304
def F307:AF:=cf false false Tryz.f307
def F311:AF:=cf false false Tryz.f311
def F320 : AF := cf false false Tryz.f320
def S51:AF:=⟨sr [qq 1 (.box 3 Z0),qq 2 (.alloc [(.sl none true 0 []),(.sl none true 0 []),(.sl none true 0 [])])] (sr [qq 8 (.build [(.sl none true 0 []),(.sl none true 0 []),(.sl none true 0 [])] []),qq 3 (.alloc [(.sl none true 0 []),(.sl none true 0 []),(.sl none true 0 [])]),qu (.store 3 Z3 Z8)] (sq (sr [qm 4 0] (.block 0 (.loop (sq (sr [qv 9 4,qf 10 0 1,ql 11 10,qq 12 (lS Z11),qb 13 .lss 9 12,qv 14 13,zT 15 (.mov Z4) 14,zT 16 (.bin .lss Z15 (nn 25)) 14,qq 17 (.pick Z14 Z16 aF)] (.cond Z17 .skip (.exit 0))) (sq (.block 1 (.draw [qf 20 0 3,ql 21 20,qf 22 0 1,ql 23 22,qv 24 4,qx 25 1 23 24,ql 26 25,qf 27 0 1,ql 28 27,qv 29 4,qx 30 1 28 29,ql 31 30,qq 32 (.lenStr Z31),qq 33 (.minmax false [Z32,(nn 100)]),qq 34 (.slStr Z26 none (some Z33)),qq 35 (.buildSl true 1 [(.str [])] [(0,1,Z34)] 1),qq 36 (.append true 1 16 Z21 Z35),qf 37 0 3,qu (.store 1 Z37 Z36)] [(1,15)])) (rg [qv 18 4,qn 19 .add 18 1,qv 4 19])))))) (sq (sr [qm 5 0] (.block 2 (.loop (sq (sr [qv 38 5,qf 39 1 1,ql 40 39,qq 41 (lS Z40),qb 42 .lss 38 41,qv 43 42,zT 44 (.mov Z5) 43,zT 45 (.bin .lss Z44 (nn 45)) 43,qq 46 (.pick Z43 Z45 aF)] (.cond (.t 46) .skip (.exit 2))) (sq (.block 3 (.draw [qf 49 1 3,ql 50 49,qf 51 1 1,ql 52 51,qv 53 5,qx 54 1 52 53,ql 55 54,qf 56 1 1,ql 57 56,qv 58 5,qx 59 1 57 58,ql 60 59,qq 61 (.lenStr Z60),qq 62 (.minmax false [(.t 61),(nn 100)]),qq 63 (.slStr Z55 none (some (.t 62))),qq 64 (.buildSl true 1 [(.str [])] [(0,1,Z63)] 1),qq 65 (.append true 1 16 Z50 (.t 64)),qf 66 1 3,qu (.store 1 (.t 66) (.t 65))] [(1,15)])) (rg [qv 47 5,qn 48 .add 47 1,qv 5 48])))))) (sq (sr [qm 6 0] (.block 4 (.loop (sq (sr [qv 67 6,qf 68 2 1,ql 69 68,qq 70 (lS (.t 69)),qb 71 .lss 67 70,qv 72 71,zT 73 (.mov Z6) 72,zT 74 (.bin .lss (.t 73) (nn 45)) 72,qq 75 (.pick Z72 (.t 74) aF)] (.cond (.t 75) .skip (.exit 4))) (sq (.block 5 (sr [qf 78 2 1,ql 79 78,qv 80 6,qx 81 3 79 80,qs 82 3 81,qq 7 (.alloc [vZ,vZ,(.sl none true 0 [])]),qu (.store 3 Z7 (.t 82))] (sr [qq 83 (.buildSl true 4 [] [] 0),qf 84 2 7,ql 85 84,qf 86 2 7,ql 87 86,qq 88 (lS (.t 87)),qq 89 (.minmax false [(.t 88),(nn 25)]),qq 90 (.slSl 4 (.t 85) none (some (.t 89))),qq 91 (.append true 4 32 (.t 83) (.t 90)),qf 92 2 7,qu (.store 1 (.t 92) (.t 91))] (rg [qf 93 2 3,ql 94 93,qs 95 3 7,qq 96 (.buildSl true 3 [vZ,vZ,(.sl none true 0 [])] [(0,3,(.t 95))] 1),qq 97 (.append true 3 40 (.t 94) (.t 96)),qf 98 2 3,qu (.store 1 (.t 98) (.t 97))])))) (rg [qv 76 6,qn 77 .add 76 1,qv 6 77])))))) (sr [qs 99 3 3,qu (.store 3 Z2 (.t 99))] .ret))))),[.cell 2 (some 3)]⟩
def S78 : AF := cf true true Tryz.f78
def S81:AF:=⟨sr [qm 4 0] (sr [qv 6 0,qv 7 1,qq 8 (.call 128 [Z6,Z7]),qv 5 8] (sq (sr [qv 9 5,qn 10 .eql 9 0] (.cond Z10 (.draw [qv 11 0,qv 12 1,qn 13 .quo 12 64,qq 14 (.nilCheck Z11),qf 15 0 14,qq 16 (.idxArr 8 1 Z15 Z13),ql 17 16,qv 18 1,qn 19 .rem 18 64,qq 20 (.bin .shl (.c (.int .u64 1)) Z19),qb 21 .or 17 20,qq 22 (.nilCheck Z11),qf 23 0 22,qq 24 (.idxArr 8 1 Z23 Z13),qu (.store 1 Z24 Z21)] []) .skip)) (sr [qv 25 5,qv 4 25] .ret))),[.t 4]⟩
def S87 : AF := cf true true Tryz.f87
def S88 : AF := cf true true Tryz.f88
end
noncomputable section
def S89:AF:=⟨sr [qv 10 0,qq 11 (.nilCheck Z10),qf 12 4 11,ql 13 12,qq 14 (lS Z13),qm 15 0] (.block 0 (.loop (sr [qb 16 .lss 15 14] (sq (.cond Z16 .skip (.exit 0)) (sq (.block 1 (sr [qv 17 15,qx 18 2 13 15,qs 19 2 18,qq 5 (.alloc [vZ,vZ]),qv 4 17,qu (.store 2 Z5 Z19)] (sr [qv 20 1,qv 21 4,qq 22 (.callV Z20 [.t 21]),qq 23 (lS Z22),qm 24 0] (.block 2 (.loop (sr [qb 25 .lss 24 23] (sq (.cond Z25 .skip (.exit 2)) (sq (.block 3 (sr [qx 26 1 22 24,ql 27 26,qv 7 27] (sq (.draw [qv 29 0,qq 30 (.nilCheck Z29),qf 31 0 30,qs 32 3 31,qv 33 7,qv 34 0,qq 35 (.nilCheck Z34),qf 36 0 35,qf 37 2 36,ql 38 37,qf 39 0 5,ql 40 39,qx 41 3 38 40,qf 42 2 41,ql 43 42,qf 44 1 5,ql 45 44,qx 46 4 43 45,qf 47 1 46,ql 48 47,qq 49 (.call 116 [Z32,Z33,.t 48]),qv 28 49,qe 50 28 0,qe 51 28 1,qq 8 (.alloc [vZ,vZ]),qu (.store 2 Z8 Z50),qv 9 51] [(3,24),(9,24),(11,24),(14,24),(16,24),(19,24),(20,24)]) (sr [qv 52 9,qv 53 52,zT 54 (.mov Z7) 53,zT 55 (.mov Z0) 53,zT 56 (.nilCheck Z55) 53,zT 57 (fA 3 (.t 56)) 53,zT 58 (.load none (.t 57)) 53,zT 59 (.mov Z4) 53,zT 60 (.idxSl 1 Z58 Z59) 53,zT 61 (.load none Z60) 53,zT 62 (.bin .neq (.t 54) (.t 61)) 53,qq 63 (.pick (.t 53) (.t 62) aF)] (.cond Z63 (rg [qv 64 0,qv 65 7,qv 66 0,qq 67 (.nilCheck (.t 66)),qf 68 3 67,ql 69 68,qv 70 4,qx 71 1 69 70,ql 72 71,qq 73 (.call 137 [.t 64,.t 65,Z72])]) .skip))))) (rg [qn 74 .add 24 1,qv 24 74]))))))))) (rg [qn 75 .add 15 1,qv 15 75])))))),[]⟩
def S90 : AF := cf true true Tryz.f90
def S93:AF:=⟨sr [qq 2 (.mov aN)] (sq (sr [qv 6 0,qq 7 (lS Z6),qn 8 .lss 7 2] (.cond Z8 (sr [qv 9 0,qv 2 9] .ret) .skip)) (sq (sr [qm 3 1] (.block 0 (.loop (sq (sr [qv 10 3,qv 11 0,qq 12 (lS Z11),qb 13 .lss 10 12] (.cond Z13 .skip (.exit 0))) (sq (.block 1 (sq (.draw [qv 16 0,qv 17 3,qx 18 2 16 17,qs 19 2 18,qv 20 0,qv 21 3,qn 22 .sub 21 1,qx 23 2 20 22,qs 24 2 23,qq 25 (.eq false (.struct [.int,.int]) Z19 Z24)] []) (.cond Z25 (sr [qv 26 0,qv 27 3,qq 28 (.slSl 2 Z26 (some Z27) none),qv 4 28] (sq (sr [qm 5 1] (.block 2 (.loop (sq (sr [qv 29 5,qv 30 4,qq 31 (lS Z30),qb 32 .lss 29 31] (.cond Z32 .skip (.exit 2))) (sq (.block 3 (sq (.draw [qv 35 4,qv 36 5,qx 37 2 35 36,qs 38 2 37,qv 39 4,qv 40 5,qn 41 .sub 40 1,qx 42 2 39 41,qs 43 2 42,qq 44 (.eq true (.struct [.int,.int]) Z38 Z43)] []) (.cond Z44 (sr [qv 45 0,qv 46 3,qv 47 4,qv 48 5,qx 49 2 47 48,qs 50 2 49,qx 51 2 45 46,qu (.store 2 Z51 Z50)] (rg [qv 52 3,qn 53 .add 52 1,qv 3 53])) .skip))) (rg [qv 33 5,qn 34 .add 33 1,qv 5 34])))))) (sr [qv 54 0,qv 55 3,qq 56 (.slSl 2 (.t 54) (some Z55) none),qu (.clear 2 [vZ,vZ] (.t 56))] (sr [qv 57 0,qv 58 3,qq 59 (.slSl 2 (.t 57) none (some Z58)),qv 2 59] .ret)))) .skip))) (rg [qv 14 3,qn 15 .add 14 1,qv 3 15])))))) (sr [qv 60 0,qv 2 60] .ret))),[.t 2]⟩
def S95 : AF := cf true true Tryz.f95
def S96 : AF := cf true true Tryz.f96
def S97 : AF := cf true true Tryz.f97
def S98 : AF := cf true true Tryz.f98
def S99 : AF := cf true true Tryz.f99
def S111 : AF := cf true true Tryz.f111
def S124 : AF := cf true true Tryz.f124
def S127 : AF := cf true true Tryz.f127
def S128 : AF := cf true true Tryz.f128
def S130 : AF := cf true true Tryz.f130
def S137:AF:=⟨.draw [qv 6 0,qv 7 0,qq 8 (.nilCheck Z7),qf 9 5 8,ql 10 9,qv 11 0,qv 12 1,qq 13 (.call 192 [Z11,Z12]),qv 14 0,qv 15 2,qq 16 (.call 192 [Z14,Z15]),qq 17 (.build [vZ,vZ] [(0,1,Z13),(1,1,Z16)]),qq 18 (.buildSl true 2 [vZ,vZ] [(0,2,Z17)] 1),qq 19 (.append true 2 16 Z10 Z18),qq 20 (.nilCheck Z6),qf 21 5 20,qu (.store 1 Z21 Z19)] [(4,12)],[]⟩
def S138 : AF := cf true true Tryz.f138
def S139 : AF := cf true true Tryz.f139
def S140:AF:=⟨sr [qq 3 (.mov aN)] (sr [qq 4 (.mov aN)] (sq (sr [ql 7 1,qq 8 (.nilCheck Z7),qf 9 4 8,ql 10 9,qq 11 (lS Z10),qm 12 0] (.block 0 (.loop (sr [qb 13 .lss 12 11] (sq (.cond Z13 .skip (.exit 0)) (sq (.block 1 (sr [qv 14 12,qx 15 2 10 12,qs 16 2 15,qq 6 (.alloc [vZ,vZ]),qv 5 14,qu (.store 2 Z6 Z16)] (sq (.draw [qf 17 0 6,ql 18 17,ql 19 1,qq 20 (.nilCheck Z19),qf 21 4 20,ql 22 21,qv 23 0,qx 24 2 22 23,qf 25 0 24,ql 26 25,qb 27 .eql 18 26,qv 28 27,zT 29 (fA 1 Z6) 28,zT 30 (.load none Z29) 28,zT 31 (.load none Z1) 28,zT 32 (.nilCheck Z31) 28,zT 33 (fA 4 Z32) 28,zT 34 (.load none Z33) 28,zT 35 (.mov Z0) 28,zT 36 (.idxSl 2 Z34 Z35) 28,zT 37 (fA 1 Z36) 28,zT 38 (.load none Z37) 28,zT 39 (.bin .lss Z30 Z38) 28,qq 40 (.pick Z28 Z39 aF),qv 41 40,zT 42 (.load none Z1) 41,zT 43 (.nilCheck Z42) 41,zT 44 (fA 3 Z43) 41,zT 45 (.load none Z44) 41,zT 46 (.mov Z5) 41,zT 47 (.idxSl 1 Z45 (.t 46)) 41,zT 48 (.load none Z47) 41,zT 49 (.bin .geq (.t 48) (nn 0)) 41,qq 50 (.pick Z41 Z49 aF)] []) (.cond Z50 (rg [qv 51 4,ql 52 1,qq 53 (.nilCheck Z52),qf 54 3 53,ql 55 54,qv 56 5,qx 57 1 55 56,ql 58 57,qq 59 (.buildSl true 1 [vZ] [(0,1,Z58)] 1),qq 60 (.append true 1 8 Z51 Z59),qv 4 60]) .skip)))) (rg [qn 61 .add 12 1,qv 12 61]))))))) (sr [qv 62 4,qv 3 62] .ret))),[.t 3]⟩
def S142 : AF := cf true true Tryz.f142
def S143 : AF := cf true true Tryz.f143
def S144 : AF := cf true true Tryz.f144
def S145 : AF := cf true true Tryz.f145
def S146 : AF := cf true true Tryz.f146
def S147 : AF := cf true true Tryz.f147
def S148 : AF := cf true true Tryz.f148
def S149 : AF := cf true true Tryz.f149
def S150 : AF := cf true true Tryz.f150
def S153 : AF := cf true true Tryz.f153
def S154 : AF := cf true true Tryz.f154
def S156 : AF := cf true true Tryz.f156
def S168:AF:=cf true true Tryz.f168
def S169:AF:=cf true true Tryz.f169
def S171:AF:=cf true true Tryz.f171
def S189:AF:=cf true true Tryz.f189
def S192 : AF := cf true true Tryz.f192
def S193:AF:=⟨sr [qq 4 (.mov aN)] (sq (.seq (.draw [ql 8 1,qq 9 (.nilCheck Z8),qf 10 0 9,qf 11 2 10,ql 12 11,qq 13 (lS Z12),qv 14 0,ql 15 2] []) (sr [qq 16 (.call 194 [Z13,Z14,Z15])] (.draw [qu (.mov (.c (.tup []))),qu (.mov (.c (.tup []))),qu (.mov (.c (.tup []))),qu (.mov (.c (.tup []))),qu (.mov (.c (.tup []))),qu (.mov (.c (.tup []))),qu (.mov (.c (.tup []))),qu (.mov (.c (.tup []))),qu (.mov (.c (.tup []))),qv 7 16,qe 17 7 0,qe 18 7 1,qv 5 17,qv 6 18] []))) (sr [qv 19 5,qv 4 19] .ret)),[.t 4]⟩
def S194 : AF := cf true true Tryz.f194
def S203 : AF := cf true true Tryz.f203
def S204:AF:=⟨sr [qq 2 (.mov (.c .nilptr)),qm 3 0] (sq (sr [qv 5 0,qn 6 .lss 5 0,qv 7 6,zF 8 (.mov Z0) 7,zF 9 (.bin .gtr Z8 (nn 500)) 7,qq 10 (.pick Z7 aT Z9)] (.cond Z10 (sr [qq 2 (.mov (.c .nilptr)),qm 3 2] .ret) .skip)) (sr [qq 11 (.build [(.sl none true 0 []),(.sl none true 0 []),(.sl none true 0 []),(.bool false)] [(3,1,aT)]),qq 12 (.box 4 Z11),qv 4 12] (sq (sr [qv 13 0,qm 14 0] (.block 0 (.loop (sr [qb 15 .lss 14 13] (sq (.cond Z15 .skip (.exit 0)) (sq (.block 1 (.draw [qv 16 4,qv 17 4,qv 18 4,qq 19 (.nilCheck Z18),qf 20 0 19,ql 21 20,qq 22 (.call 78 [aN]),qq 23 (.buildSl true 1 [.nilptr] [(0,1,Z22)] 1),qq 24 (.append true 1 8 Z21 Z23),qv 25 4,qq 26 (.nilCheck Z25),qf 27 1 26,ql 28 27,qq 29 (.call 78 [aN]),qq 30 (.buildSl true 1 [.nilptr] [(0,1,Z29)] 1),qq 31 (.append true 1 8 Z28 Z30),qq 32 (.nilCheck Z16),qf 33 0 32,qu (.store 1 Z33 Z24),qq 34 (.nilCheck Z17),qf 35 1 34,qu (.store 1 Z35 Z31)] [(5,7),(7,12),(8,12),(12,14)])) (rg [qn 36 .add 14 1,qv 14 36]))))))) (sr [qv 37 4,qv 2 37,qm 3 0] .ret)))),[.t 2,.t 3]⟩
def S205 : AF := cf true true Tryz.f205
def S206 : AF := cf true true Tryz.f206
def S207:AF:=⟨sr [qq 4 (.mov aN)] (sq (sr [qv 9 1,qn 10 .lss 9 0] (.cond Z10 (rg [qq 11 (.iface 9 (.c (.str [99,97,110,110,111,116,32,98,101,32,110,101,103,97,116,105,118,101]))),qu (.stuck)]) .skip)) (sr [qv 13 0,qq 14 (lS Z13),qq 15 (.conv .u64 Z14),qv 16 1,qq 17 (.conv .u64 Z16),qq 18 (.call 250 [Z15,Z17]),qv 12 18,qe 19 12 0,qe 20 12 1,qv 5 19,qv 6 20] (sq (sr [qv 21 5,qq 22 (.bin .gtr Z21 (.c (.int .u64 0))),qv 23 22,zF 24 (.mov Z6) 23,zF 25 (.bin .gtr Z24 (.c (.int .u64 9223372036854775807))) 23,qq 26 (.pick Z23 aT Z25)] (.cond Z26 (rg [qq 27 (.iface 9 (.c (.str [116,104,101,32,114,101,115,117,108,116,32,111,102,32,40,108,101,110,40,120,41,32,42,32,99,111,117,110,116,41,32,111,118,101,114,102,108,111,119,115]))),qu (.stuck)]) .skip)) (sr [qv 28 6,qq 29 (.conv .i64 Z28),qq 30 (.mkSl true 1 8 [vZ] Z29 Z29),qv 7 30] (sr [qv 31 7,qv 32 0,qq 33 (.copy 1 Z31 Z32),qv 8 33] (sq (.block 0 (.loop (sq (sr [qv 34 8,qv 35 7,qq 36 (lS Z35),qb 37 .lss 34 36] (.cond Z37 .skip (.exit 0))) (.block 1 (.draw [qv 38 8,qv 39 7,qv 40 8,qq 41 (.slSl 1 Z39 (some Z40) none),qv 42 7,qv 43 8,qq 44 (.slSl 1 Z42 none (some Z43)),qq 45 (.copy 1 Z41 Z44),qb 46 .add 38 45,qv 8 46] []))))) (sr [qv 47 7,qv 4 47] .ret))))))),[.t 4]⟩
def S208 : AF := cf true true Tryz.f208
def S209 : AF := cf true true Tryz.f209
def S210:AF:=⟨sr [qq 5 (.mov aF)] (sq (.draw [qv 6 0,ql 7 1,qb 8 .gtr 6 7,qv 9 8,zT 10 (.load none Z2) 9,zT 11 (.mov Z0) 9,zT 12 (.idxSl 1 Z10 Z11) 9,zT 13 (.load none Z12) 9,zT 14 (.load none Z3) 9,zT 15 (.bin .eql Z13 Z14) 9,qq 16 (.pick Z9 Z15 aF),qv 5 16] []) .ret),[.t 5]⟩
def S213 : AF := cf true true Tryz.f213
def S215 : AF := cf true true Tryz.f215
def S231:AF:=cf true true Tryz.f231
def S232:AF:=cf true true Tryz.f232
def S237 : AF := cf true true Tryz.f237
def S244 : AF := cf true true Tryz.f244
def S248 : AF := cf true true Tryz.f248
def S249 : AF := cf true true Tryz.f249
def S255 : AF := cf true true Tryz.f255
def S270:AF:=cf true true Tryz.f270
def S271:AF:=cf true true Tryz.f271
def S272:AF:=cf true true Tryz.f272
def S274 : AF := cf true true Tryz.f274
def S276:AF:=⟨sr [qq 4 (.mov aF)] (sq (sr [qv 8 0,qq 9 (.eq false .ptr Z8 (.c .nilptr)),qv 10 9,zF 11 (.mov Z1) 10,zF 12 (.eq false .ptr Z11 (.c .nilptr)) 10,qq 13 (.pick Z10 aT Z12)] (.cond Z13 (sr [qq 4 (.mov aF)] .ret) .skip)) (sr [qv 14 0,qq 15 (.nilCheck Z14),qf 16 0 15,qs 17 8 16,qq 5 (.alloc [(.int .u64 0),(.int .u64 0),(.int .u64 0),(.int .u64 0),(.int .u64 0),(.int .u64 0),(.int .u64 0),(.int .u64 0)]),qu (.store 8 Z5 Z17)] (sq (sr [qv 18 1,qq 19 (.nilCheck Z18),qf 20 0 19,qs 21 8 20,qm 22 0] (.block 0 (.loop (sr [qn 23 .lss 22 8] (sq (.cond Z23 .skip (.exit 0)) (sq (.block 1 (sr [qv 24 22,qq 25 (.idxVal none 8 1 Z21 Z22),qv 6 24,qv 7 25] (.draw [qv 26 0,qv 27 6,qq 28 (.nilCheck Z26),qf 29 0 28,qq 30 (.idxArr 8 1 Z29 Z27),ql 31 30,qv 32 7,qb 33 .or 31 32,qq 34 (.nilCheck Z26),qf 35 0 34,qq 36 (.idxArr 8 1 Z35 Z27),qu (.store 1 Z36 Z33)] []))) (rg [qn 37 .add 22 1,qv 22 37]))))))) (sq (.draw [qv 38 0,qq 39 (.nilCheck Z38),qf 40 0 39,qs 41 8 40,qs 42 8 5,qq 43 (.eq true (.struct [.int,.int,.int,.int,.int,.int,.int,.int]) Z41 Z42),qv 4 43] []) .ret)))),[.t 4]⟩
def S291:AF:=cf true true Tryz.f291
def S292:AF:=cf true true Tryz.f292
def S294 : AF := cf true true Tryz.f294
def S295 : AF := cf true true Tryz.f295
def S296 : AF := cf true true Tryz.f296
def S303:AF:=cf true true Tryz.f303
def S305 : AF := cf true true Tryz.f305
def S312:AF:=cf true true Tryz.f312
end
end Go.Pv.T
namespace Go.Pv.T
open Go Go.Pv
noncomputable section
def utf8first:List V:=(List.range 256).map λi=>V.int .u8 (if i<128 then 240 else if i<194 then 241 else if i<224 then 2 else if i=224 then 19 else if i<237 then 3 else if i=237 then 35 else if i<240 then 3 else if i=240 then 52 else if i<244 then 4 else if i=244 then 68 else 241:Nat)
def words:List V:=[.str [],.str [98,101,103,105,110],.str [114,101,97,100],.str [119,114,105,116,101],.str [111,107],.str [102,97,105,108],.str [105,110,102,111]]
def accR:List V:=[.int .u8 128,.int .u8 191,.int .u8 160,.int .u8 191,.int .u8 128,.int .u8 159,.int .u8 144,.int .u8 191,.int .u8 128,.int .u8 143,.int .u8 0,.int .u8 0,.int .u8 0,.int .u8 0,.int .u8 0,.int .u8 0,.int .u8 0,.int .u8 0,.int .u8 0,.int .u8 0,.int .u8 0,.int .u8 0,.int .u8 0,.int .u8 0,.int .u8 0,.int .u8 0,.int .u8 0,.int .u8 0,.int .u8 0,.int .u8 0,.int .u8 0,.int .u8 0]
def j79:List V:=[.int .u64 0,.int .u64 0,.int .u64 0,.int .u64 0,.int .u64 0,.int .u64 0,.int .u64 0,.int .u64 0]
def bruij:List V:=([0,1,56,2,57,49,28,3,61,58,42,50,38,29,17,4,62,47,59,36,45,43,51,22,53,39,33,30,24,18,12,5,63,55,48,27,60,41,37,16,46,35,44,21,52,32,23,11,54,26,40,15,34,20,31,10,25,14,19,9,13,8,7,6]:List Int).map (V.int .u8)
def fc_2:FuncId->Option AF
 | 236=>some F236
 | 248=>some F248
 | 249=>some F249
 | 250=>some F250
 | 251=>some F251
 | 252=>some F252
 | 253=>some F253
 | 254=>some F254
 | 258=>some F258
 | 259=>some F259
 | 261=>some F261
 | 262=>some F262
 | 263=>some F263
 | 264=>some F264
 | 265=>some F265
 | 266=>some F266
 | 267=>some F267
 | 268=>some F268
 | 269=>some F269
 | 273=>some F273
 | 278=>some F278
 | 279=>some F279
 | 280=>some F280
 | 281=>some F281
 | 284=>some F284
 | 285=>some F285
 | 286=>some F286
 | 287=>some F287
 | 288=>some F288
 | 289=>some F289
 | 290=>some F290
 | 293=>some F293
 | 300=>some F300
 | 301=>some F301
 | 302=>some F302
 | 304=>some F304
 | 307=>some F307
 | 311=>some F311
 | 320=>some F320
 | _=>none
def fc_1:FuncId->Option AF
 | 127=>some F127
 | 128=>some F128
 | 130=>some F130
 | 136=>some F136
 | 145=>some F145
 | 146=>some F146
 | 147=>some F147
 | 148=>some F148
 | 149=>some F149
 | 151=>some F151
 | 152=>some F152
 | 155=>some F155
 | 157=>some F157
 | 158=>some F158
 | 159=>some F159
 | 160=>some F160
 | 161=>some F161
 | 166=>some F166
 | 167=>some F167
 | 170=>some F170
 | 172=>some F172
 | 173=>some F173
 | 174=>some F174
 | 175=>some F175
 | 176=>some F176
 | 177=>some F177
 | 188=>some F188
 | 189=>some F189
 | 190=>some F190
 | 194=>some F194
 | 206=>some F206
 | 208=>some F208
 | 209=>some F209
 | 210=>some F210
 | 211=>some F211
 | 212=>some F212
 | 214=>some F214
 | 216=>some F216
 | 217=>some F217
 | 223=>some F223
 | 224=>some F224
 | 225=>some F225
 | 226=>some F226
 | 227=>some F227
 | 228=>some F228
 | 229=>some F229
 | 230=>some F230
 | 233=>some F233
 | 234=>some F234
 | 235=>some F235
 | f=>fc_2 f
def fc:FuncId->Option AF
 | 13=>some F13
 | 15=>some F15
 | 21=>some F21
 | 22=>some F22
 | 25=>some F25
 | 31=>some F31
 | 32=>some F32
 | 33=>some F33
 | 39=>some F39
 | 42=>some F42
 | 43=>some F43
 | 44=>some F44
 | 46=>some F46
 | 47=>some F47
 | 48=>some F48
 | 49=>some F49
 | 50=>some F50
 | 52=>some F52
 | 53=>some F53
 | 57=>some F57
 | 58=>some F58
 | 59=>some F59
 | 60=>some F60
 | 61=>some F61
 | 62=>some F62
 | 63=>some F63
 | 64=>some F64
 | 71=>some F71
 | 74=>some F74
 | 75=>some F75
 | 84=>some F84
 | 86=>some F86
 | 94=>some F94
 | 100=>some F100
 | 101=>some F101
 | 102=>some F102
 | 103=>some F103
 | 104=>some F104
 | 105=>some F105
 | 106=>some F106
 | 108=>some F108
 | 109=>some F109
 | 110=>some F110
 | 112=>some F112
 | 116=>some F116
 | 118=>some F118
 | 120=>some F120
 | 121=>some F121
 | 122=>some F122
 | 124=>some F124
 | f=>fc_1 f
def fs_1:FuncId->Option AF
 | 215=>some S215
 | 231=>some S231
 | 232=>some S232
 | 237=>some S237
 | 244=>some S244
 | 248=>some S248
 | 249=>some S249
 | 255=>some S255
 | 270=>some S270
 | 271=>some S271
 | 272=>some S272
 | 274=>some S274
 | 276=>some S276
 | 291=>some S291
 | 292=>some S292
 | 294=>some S294
 | 295=>some S295
 | 296=>some S296
 | 303=>some S303
 | 305=>some S305
 | 312=>some S312
 | _=>none
def fs:FuncId->Option AF
 | 51=>some S51
 | 78=>some S78
 | 81=>some S81
 | 87=>some S87
 | 88=>some S88
 | 89=>some S89
 | 90=>some S90
 | 93=>some S93
 | 95=>some S95
 | 96=>some S96
 | 97=>some S97
 | 98=>some S98
 | 99=>some S99
 | 111=>some S111
 | 124=>some S124
 | 127=>some S127
 | 128=>some S128
 | 130=>some S130
 | 137=>some S137
 | 138=>some S138
 | 139=>some S139
 | 140=>some S140
 | 142=>some S142
 | 143=>some S143
 | 144=>some S144
 | 145=>some S145
 | 146=>some S146
 | 147=>some S147
 | 148=>some S148
 | 149=>some S149
 | 150=>some S150
 | 153=>some S153
 | 154=>some S154
 | 156=>some S156
 | 168=>some S168
 | 169=>some S169
 | 171=>some S171
 | 189=>some S189
 | 192=>some S192
 | 193=>some S193
 | 194=>some S194
 | 203=>some S203
 | 204=>some S204
 | 205=>some S205
 | 206=>some S206
 | 207=>some S207
 | 208=>some S208
 | 209=>some S209
 | 210=>some S210
 | 213=>some S213
 | f=>fs_1 f
def shl:List Nat:=[55,56,65,68,69,72,73,76,77,78,79,81,87,88,89,90,91,93,95,97,98,99,107,111,113,125,137,138,142,144,156,162,168,204,205,207,218,231,237,240,244,255,270,271,274,276,291,292,303,312,313,314,315,316,317,318,319,323,324,325,326]
def shm:List Nat:=[25,51,217]
def fzl:List Nat:=[217]
def twl:List Nat:=[217]
def E:Env:={ sh:=λnm f=>shl.any (Nat.beq f) || (nm && shm.any (Nat.beq f)),fz:=λf=>fzl.any (Nat.beq f),tw:=λf=>twl.any (Nat.beq f),srt:=λf=>match f with|69=>some none|91=>some (some 92)|_=>none,fc:=fc,fs:=fs,gl:=(λg=>match g with|0=>some bruij|1=>some words|2=>some utf8first|3=>some accR|_=>none),nw:=λf=>match f with|78=>some j79|_=>none }
end
structure Val' where
 kind:Int
 n:Int
 deriving DecidableEq
structure Op' where
 w:Bool
 key:Int
 v:Val'
 deriving DecidableEq
structure Txn' where
 s:Int
 f:Int
 nl:Bool
 ops:List Op'
structure Hist' where
 sn:Bool
 ss:List (List UInt8)
 kn:Bool
 ks:List (List UInt8)
 tn:Bool
 ts:List Txn'
def J0 (v:Val'):List V:=[.int .i64 v.kind,.int .i64 v.n]
def opC (o:Op'):List V:=[.bool o.w,.int .i64 o.key,.int .i64 o.v.kind,.int .i64 o.v.n]
def slOf {α:Type}(nl:Bool) (f:α->List V) (l:List α):V:=.sl none nl l.length (l.flatMap f)
def js (t:Txn'):List V:=[.int .i64 t.s,.int .i64 t.f,slOf t.nl opC t.ops]
def Jv (s:List UInt8):List V:=[.str s]
def histC (h:Hist'):List V:=[slOf h.sn Jv h.ss,slOf h.kn Jv h.ks,slOf h.tn js h.ts]
@[simp] theorem j4p {a:Type}(nl:Bool) (f:a->List V) (l:List a):Qu (slOf nl f l)=some (.int .i64 l.length):=rfl
@[simp] theorem j75 {a:Type}(nl:Bool) (f:a->List V) (l:List a):(slOf nl f l).leaf=true:=rfl
@[simp] theorem j69 {a:Type}(nl:Bool) (f:a->List V) (l:List a):(slOf nl f l).cells=[slOf nl f l]:=rfl
@[simp] theorem j68 {a:Type}(nl:Bool) (f:a->List V) (l:List a):(slOf nl f l).strip=slOf nl f l:=rfl
@[simp] theorem j3n {a:Type}(nl:Bool) (f:a->List V) (l:List a):(slOf nl f l).strip1=slOf nl f l:=rfl
@[simp] theorem j1u {a:Type}(nl:Bool) (f:a->List V) (l:List a):(slOf nl f l).pureTop=true:=rfl
@[simp] theorem jx8 {a:Type}(nl:Bool) (f:a->List V) (l:List a):(slOf nl f l).pureLeaf=true:=rfl
@[simp] theorem int_strip (k:IntKind) (n:Int):(V.int k n).strip=.int k n:=rfl
@[simp] theorem j7i (n:Bool):(V.bool n).strip=.bool n:=rfl
@[simp] theorem j7f (k:IntKind) (n:Int):(V.int k n).strip1=.int k n:=rfl
@[simp] theorem j6m (n:Bool):(V.bool n).strip1=.bool n:=rfl
@[simp] theorem j5m (k:IntKind) (n:Int):(V.int k n).pureTop=true:=rfl
@[simp] theorem j2x (n:Bool):(V.bool n).pureTop=true:=rfl
@[simp] theorem j2d (k:IntKind) (n:Int):(V.int k n).pureLeaf=true:=rfl
@[simp] theorem j1e (n:Bool):(V.bool n).pureLeaf=true:=rfl
@[simp] theorem agg_strip (cs:List V):(V.agg cs).strip=.agg (cs.map V.strip1):=rfl
@[simp] theorem j6t (cs:List V):(V.agg cs).pureTop=cs.all V.pureLeaf:=rfl
def YX (n:Int) (l:Nat):Bool:=decide (0<=n) && decide (n<l)
theorem ev214 (n:Int) (nl:Bool) (l:List (List UInt8)):Ev E 214 [.int .i64 n,slOf nl Jv l] (.bool (YX n l.length)):=by
 refine jS (af:=F214) rfl ?_;by_cases h:0<=n
 ·conv in (occs := *) F214=> all_goals cbv
  simp[F214,h];exact j4 rfl (by simp[YX,h]) rfl
 ·conv in (occs := *) F214=> all_goals cbv
  simp[F214,h];exact j4 rfl (by simp[YX,h]) rfl
def jdv (h:Hist') (t:Txn'):Bool:=YX t.s h.ss.length && (decide (1<=t.f) && (decide (t.f<=3) && decide (t.ops.length<=20)))
theorem ev155 (h:Hist') (t:Txn'):Ev E 155 [.agg (histC h),.agg (js t)] (.bool (jdv h t)):=by
 refine jS (af:=F155) rfl ?_;conv in (occs := *) F155=> all_goals cbv
 simp[F155,histC,js,objCells];refine Xl (vs:=[.int .i64 t.s,slOf h.sn Jv h.ss]) zS rfl zS (by simpa using ev214 t.s h.sn h.ss) ?_;unfold jdv;cases c:YX t.s h.ss.length;simp;exact j4 rfl zS rfl;by_cases a:1<=t.f;by_cases b:t.f<=3;simp[objCells,a,b];exact j4 rfl (by simp;omega) rfl;simp[objCells,a,b];exact j4 rfl zS rfl;simp[objCells,a];exact j4 rfl zS rfl
def jqe (v:Val'):Bool:=v.kind == 1 || ((v.kind == 0 || v.kind == 2) && v.n == 0)
theorem ev174 (v:Val'):Ev E 174 [.agg (J0 v)] (.bool (jqe v)):=by
 refine jS (af:=F174) rfl ?_;unfold jqe;cases a:v.kind == 1
 ·cases b:v.kind == 0
  ·cases c:v.kind == 2
   ·conv in (occs := *) F174=> all_goals cbv
    simp[F174,J0,objCells,a,b,c];exact j4 rfl zS rfl
   ·conv in (occs := *) F174=> all_goals cbv
    simp[F174,J0,objCells,a,b,c];exact j4 rfl zS rfl
  ·conv in (occs := *) F174=> all_goals cbv
   simp[F174,J0,objCells,a,b];exact j4 rfl zS rfl
 ·conv in (occs := *) F174=> all_goals cbv
  simp[F174,J0,objCells,a];exact j4 rfl zS rfl
def jcy (v:Val'):V:=if v.kind=1 then .iface 2 (.int .i64 v.n) else if v.kind=2 then .iface 316 (.agg []) else .nilif
theorem ev253 (v:Val'):Ev E 253 [.agg (J0 v)] (.agg [jcy v]):=by
 refine jS (af:=F253) rfl ?_;unfold jcy;by_cases b:v.kind=1
 ·conv in (occs := *) F253=> all_goals cbv
  simp[F253,J0,objCells,b];exact J8 rfl (l:=[.agg [.iface 2 (.int .i64 v.n)]]) (by simp[jo,objCells]) rfl rfl
 ·have b1:(v.kind == 1)=false:=by simpa using b
  by_cases a:v.kind=2
  ·conv in (occs := *) F253=> all_goals cbv
   simp[F253,J0,objCells,a];exact J8 rfl (l:=[.agg [.iface 316 (.agg [])]]) (by simp[jo,objCells]) rfl rfl
  ·have b2:(v.kind == 2)=false:=by simpa using a
   conv in (occs := *) F253=> all_goals cbv
   simp[F253,J0,objCells,b,a,b1,b2];exact J8 rfl (l:=[.agg [.nilif]]) (by simp[jo,objCells]) rfl rfl
def jr3 (v:Val'):Val':=if v.kind=1 then ⟨1,v.n⟩ else if v.kind=2 then ⟨2,0⟩ else ⟨0,0⟩
theorem ev252 (v:Val'):Ev E 252 [.agg [jcy v]] (.tup [.agg (J0 (jr3 v)),.int .i64 0]):=by
 refine jS (af:=F252) rfl ?_;unfold jcy jr3;by_cases a:v.kind=1
 ·conv in (occs := *) F252=> all_goals cbv
  simp[F252,J0,objCells,a,jxa,eqV,jjg,j2];exact J8 rfl (l:=[.agg [.int .i64 1,.int .i64 v.n],.int .i64 0]) (by simp[jo,objCells]) rfl rfl
 ·by_cases b:v.kind=2
  ·conv in (occs := *) F252=> all_goals cbv
   simp[F252,J0,objCells,b,jxa,eqV,jjg,j2];exact J8 rfl (l:=[.agg [.int .i64 2,.int .i64 0],.int .i64 0]) (by simp[jo,objCells]) rfl rfl
  ·conv in (occs := *) F252=> all_goals cbv
   simp[F252,J0,objCells,a,b,jxa,eqV];exact J8 rfl (l:=[.agg [.int .i64 0,.int .i64 0],.int .i64 0]) (by simp[jo,objCells]) rfl rfl
theorem jsp (v:Val'):jqe v=((jr3 v).kind == v.kind && (jr3 v).n == v.n):=by obtain⟨k,n⟩:=v;unfold jqe jr3;by_cases a:k=1;simp[a];by_cases b:k=2;rw[if_neg a,if_pos b,bB];simp only[bA,ai,beq_iff_eq];omega;rw[if_neg a,if_neg b,bB];simp only[bA,ai,beq_iff_eq];omega
theorem jh6 (v:Val'):(jcy v).pureLeaf=true:=by unfold jcy;split;rfl;split <;> rfl
theorem jdl (v:Val'):(jcy v).strip1=jcy v:=by unfold jcy;split;rfl;split <;> rfl
theorem ev216 (v:Val'):Ev E 216 [.agg (J0 v)] (.bool (jqe v)):=by refine jS (af:=F216) rfl ?_;simp[F216,J0,objCells];refine Xl (vs:=[.agg (J0 v)]) (by simp[J0]) rfl (by simp[J0]) (by simpa[J0] using ev253 v) ?_;simp[YS (v:=.agg [jcy v]) (by simp[V.plain,jh6])];refine Xl (vs:=[.agg [jcy v]]) zS rfl (by simp[jh6,jdl]) (by simpa[jdl] using ev252 v) ?_;rw[jsp];generalize jr3 v=b;rw[Jr (by simp[V.plain,J0])];simp[J0,objCells];exact j4 rfl zS rfl
def opB (h:Hist') (o:Op'):Bool:=YX o.key h.ks.length && (jqe o.v && (!o.w || o.v.kind == 1))
theorem ev157 (h:Hist') (o:Op'):Ev E 157 [.agg (histC h),.agg (opC o)] (.bool (opB h o)):=by
 refine jS (af:=F157) rfl ?_;conv in (occs := *) F157=> all_goals cbv
 simp[F157,histC,opC,objCells];refine Xl (vs:=[.int .i64 o.key,slOf h.kn Jv h.ks]) zS rfl zS (by simpa using ev214 o.key h.kn h.ks) ?_;unfold opB;cases b:YX o.key h.ks.length;simp;exact j4 rfl zS rfl;simp[objCells];refine Xl (vs:=[.agg (J0 o.v)]) (by simp[J0]) rfl (by simp[J0]) (by simpa[J0] using ev216 o.v) ?_;cases a:jqe o.v;simp;exact j4 rfl zS rfl;cases c:o.w;simp[objCells];exact j4 rfl zS rfl;simp[objCells];exact j4 rfl zS rfl
@[simp] theorem j7w (args:List V) (ob:ZO) (tk:Nat->Bool) (ro base ub n:Nat):(Jy args ob tk ro base ub).tm n=args.getD n ju:=rfl
@[simp] theorem j7z (args:List V) (ob:ZO) (tk:Nat->Bool) (ro base ub:Nat):(Jy args ob tk ro base ub).ob=ob:=rfl
@[simp] theorem j7x (args:List V) (ob:ZO) (tk:Nat->Bool) (ro base ub:Nat):(Jy args ob tk ro base ub).tk=tk:=rfl
@[simp] theorem j7y (args:List V) (ob:ZO) (tk:Nat->Bool) (ro base ub:Nat):(Jy args ob tk ro base ub).ro=ro:=rfl
@[simp] theorem j70 (args:List V) (ob:ZO) (tk:Nat->Bool) (ro base ub:Nat):(Jy args ob tk ro base ub).nx=ub:=rfl
@[simp] theorem j71 (args:List V) (ob:ZO) (tk:Nat->Bool) (ro base ub:Nat):(Jy args ob tk ro base ub).fb=base:=rfl
@[simp] theorem j72 (args:List V) (ob:ZO) (tk:Nat->Bool) (ro base ub:Nat):(Jy args ob tk ro base ub).df=[]:=rfl
theorem jX {n:Int}(h:-9223372036854775808<=n) (a:n<=9223372036854775807):IntKind.i64.wrap n=n:=by rw[IntKind.wrap_i64];omega
section
variable {α:Type}{f:α->List V}{k:Nat}
theorem j3 (b:∀a,(f a).length=k):∀ (l:List α),(l.flatMap f).length=l.length*k
 | []=>by simp
 | a::l=>by rw[bl,au,b,j3 b l,bo,da];omega
theorem YV (b:∀a,(f a).length=k):∀ (l:List α) (i:Nat) (h:i<l.length),((l.flatMap f).drop (i*k)).take k=f l[i]
 | a::l,0,_=>by rw[bl,dq,dt,eJ (by rw[b];omega),aK (by rw[b];omega)];rfl
 | a::l,i+1,h=>by rw[bl,da,List.drop_append,bS (by rw[b];omega),dl,b,eV];exact YV b l i (by simpa using h)
theorem j7 (b:∀a,(f a).length=k) (nl:Bool) (l:List α) (kk:IntKind) {i:Nat}(h:i<l.length):JX k (slOf nl f l) (.int kk i)=some (.eptr (l.flatMap f) (i*k)):=by simp only[slOf,Yh,j3 b];rw[if_pos (by simp;omega)];rfl
theorem jh (b:∀a,(f a).length=k) (ob:ZO) (l:List α) {i:Nat}(h:i<l.length):QI ob (some k) (.eptr (l.flatMap f) (i*k))=some (.agg (f l[i])):=by
 have:i*k+k<=l.length*k:=by rw[<- da];exact bc k h
 rw[jcn,QX,if_pos (by rw[j3 b];exact this),YV b l i h]
end
@[simp] theorem jA (t:Txn'):(js t).length=3:=rfl
@[simp] theorem jL (t:Op'):(opC t).length=4:=rfl
@[simp] theorem YO (t:List UInt8):(Jv t).length=1:=rfl
theorem WI {E:Env}{Yf:YF}{q:A}{xs:List A}{st:St}{ub:Nat}{K:St->Nat->Prop}{d:Option Nat}{nm:Bool}{f:FuncId}{first captured:List V}(e:eval E st.tm q=.fn (.func f) first captured) (c:E.sh nm f=false)
 (hp:((first++xs.map (eval E st.tm)++captured).all λv=>v.strip.pureTop)=false) {v:V}(i:EvO E f (first++xs.map (eval E st.tm)++captured) st.ob st.tk ((st.fb+d.getD 0+1)*1024) ub v) (h:wpD (Xf ub v) (WR K st d ub)) :
 j8 E Yf ⟨d,.callV q xs,none,nm⟩ st ub K:=by
 have a:jB E nm (eval E st.tm) (.callV q xs)=some (f,first++xs.map (eval E st.tm)++captured):=by simp only[jB,e,c,hp,cG,co,aj,if_false]
 simp only[j8,wanted,jk,e,a];obtain⟨g,b,j⟩:=h;exact .inr ⟨c,v,i,g,b,j⟩
theorem jb {E:Env}{Yf:YF}{f:FuncId}{xs:List A}{st:St}{ub:Nat}{K:St->Nat->Prop}{d:Option Nat}{nm:Bool}{vs:List V}(a:xs.map (eval E st.tm)=vs) (c:E.sh nm f=false) (hp:(vs.all λv=>v.strip.pureTop)=false) {v:V}
 (b:EvO E f vs st.ob st.tk ((st.fb+d.getD 0+1)*1024) ub v) (h:wpD (Xf ub v) (WR K st d ub)):j8 E Yf ⟨d,.call f xs,none,nm⟩ st ub K :=
 jsj c (by rw[a];exact hp) ⟨v,by rw[a];exact b,h⟩
theorem JL {E:Env}{f:FuncId}{af:AF}{args:List V}{ob:ZO}{tk:Nat->Bool}{base ub:Nat}{r:V}(a:E.fs f=some af) (h:wpC E YC af.body (Jy args ob (λ_=>false) ub base ub) (j19 af.res r)) (b:E.fz f=false:=by rfl):EvO E f args ob tk base ub r:=EvO_wp a h b
def HistAt (h:Hist') (ob:ZO) (l u:Nat):Prop:=l % 2=0/\ob l=some ⟨u,.cells (histC h)⟩
theorem ev154 {h:Hist'}{ob:ZO}{l u:Nat}(c:HistAt h ob l u) (t:Txn') (tk:Nat->Bool) (base ub:Nat):EvO E 154 [.agg (js t),.ptr l u 0] ob tk base ub (.bool (!jdv h t)):=by
 obtain⟨d,b⟩:=c;refine JL (af:=S154) rfl ?_;have a:¬ l=2*ub+1:=zO;conv in (occs := *) S154=> all_goals cbv
 simp[S154,objCells,a,b,js,histC];refine Xl (vs:=[.agg (histC h),.agg (js t)]) (by simp[histC,js]) rfl (by simp[histC,js]) (by simpa[histC,js] using ev155 h t) ?_;simp;exact j4 rfl zS rfl
def Yi {α:Type}(p:α->Bool) (l:List α):Int:=match l.findIdx? p with
 | some i=>i
 | none=>-1
theorem Y6 {α:Type}{p:α->Bool}{l:List α}{i:Nat}(h:i<l.length) (c:p l[i]=true) (b:∀j (a:j<l.length),j<i->p l[j]=false):Yi p l=i:=by
 unfold Yi;have:l.findIdx? p=some i:=by rw[eu];exact⟨h,c,λj a=>by rw[b j zO a];decide⟩
 rw[this]
theorem Wn {α:Type}{p:α->Bool}{l:List α}(b:∀j (a:j<l.length),p l[j]=false):Yi p l = -1:=by
 unfold Yi;have:l.findIdx? p=none:=by rw[fl];intro x c;obtain⟨j,a,e⟩:=bH c;rw[<- e];exact b j a
 rw[this]
theorem jhz {α:Type}(p:α->Bool) (l:List α):decide (0<=Yi p l)=l.any p:=by
 unfold Yi;cases h:l.findIdx? p with
 | none=>rw[fl]at h;simp;intro x c;simpa using h x c
 | some i=>rw[eu]at h;obtain⟨b,a,_⟩:=h;simp;exact⟨_,av b,a⟩
theorem ev213 {p:Txn'->Bool}{g:FuncId}{cap:V}{ob:ZO}(y:E.sh true g=false) (d:cap.strip.pureTop=false) (hp:∀ (t:Txn') (tk:Nat->Bool) (base ub:Nat),EvO E g [.agg (js t),cap] ob tk base ub (.bool (p t)))
 (nl:Bool) (l:List Txn') (z:l.length<=140737488355328) (tk:Nat->Bool) (base ub:Nat):EvO E 213 [slOf nl js l,.fn (.func g) [] [cap]] ob tk base ub (.int .i64 (Yi p l)):=by
 refine JL (af:=S213) rfl ?_;conv in (occs := *) S213=> all_goals cbv
 simp[S213];refine YN (n:=l.length) (λk s=>∃i,k=l.length - i/\i<=l.length/\s.df=[]/\s.ob=ob/\s.tm 0=slOf nl js l/\s.tm 1=.fn (.func g) [] [cap]/\s.tm 7=.int .i64 l.length/\s.tm 8=.int .i64 i/\∀j (c:j<l.length),j<i->p l[j]=false)
  ⟨0,zS⟩ ?_
 rintro k s ⟨i,rfl,B,e,u,w,x,q,m,o⟩;by_cases a:i<l.length;simp[w,x,q,m,a,j7 jA,jh jA];refine WI (f:=g) (first:=[]) (captured:=[cap]) zS y (by simp[d]) (v:=.bool (p l[i])) (by simpa[u] using hp l[i] _ _ _) ?_;cases b:p l[i];simp[w,x,q,m,e];refine⟨l.length - (i+1),zO,i+1,rfl,zO,u,by rw[jX zO zO];simp,?_⟩;intro j c r;rcases aQ.1 r with h|rfl;exact o j c h;exact b;simp;refine j4 (by simpa using e) ?_ rfl;simp;rw[Y6 a b o];have:i=l.length:=zO;subst this;simp[q,m];refine j4 (by simpa using e) ?_ rfl;simp[Wn (λj c=>o j c c)]
theorem ev153 {p:Txn'->Bool}{g:FuncId}{ob:ZO}{a b c:Nat}(e:E.sh true g=false) (hp:∀ (t:Txn') (tk:Nat->Bool) (base ub:Nat),EvO E g [.agg (js t),.ptr a b c] ob tk base ub (.bool (p t)))
 (nl:Bool) (l:List Txn') (d:l.length<=140737488355328) (tk:Nat->Bool) (base ub:Nat):EvO E 153 [slOf nl js l,.fn (.func g) [] [.ptr a b c]] ob tk base ub (.bool (l.any p)):=by
 refine JL (af:=S153) rfl ?_;conv in (occs := *) S153=> all_goals cbv
 simp[S153];refine jb (vs:=[slOf nl js l,.fn (.func g) [] [.ptr a b c]]) zS rfl rfl (ev213 e rfl hp nl l d _ _ _) ?_;simp;exact j4 rfl (by simp[jhz]) rfl
def Fr (ub:Nat) (ob ob':ZO):Prop:=∀key,(∀m,ub<=m->key≠2*m+1)->ob' key=ob key
theorem Fr.refl (ub:Nat) (ob:ZO):Fr ub ob ob:=λ_ _=>rfl
def XD (res:List ARes) (P:V × (ZO) × (Nat->Bool) × Nat->Prop):Ex->St->Prop:=λe s=>∃r,endS res (e,s)=some r/\P r
theorem JD (st:St) (d:Option Nat) (v:V) (obs:List (Nat × Obj')):(st.app d { v:=v,obs:=obs }).tk=st.tk:=by funext u;simp[ji]
theorem Fr.two {ub m:Nat}{ob ob':ZO}(h:∀a,a≠2*m+1->ob' a=ob a) (b:ub<=m):Fr ub ob ob':=λa c=>h a (c m b)
theorem joe {E:Env}{Yf:YF}{o:AOpr}{st:St}{ub:Nat}{K:St->Nat->Prop}(h:∀a,a=st->j8 E Yf o a ub K):j8 E Yf o st ub K:=h st rfl
theorem j1w {Yf:YF}(h:Hist') (hn:h.ts.length<=1000) (hm:∀t∈h.ts,t.ops.length<=1000000) {l u lh uh:Nat}{ob0:ZO}{tk0:Nat->Bool}{ro base ub0:Nat}(hh:ob0 lh=some ⟨uh,.cells (histC h)⟩) (c1:ro<=ub0)
 (J:Nat->Nat->(ZO)->(Nat->Bool)->Nat->Prop) (P:V × (ZO) × (Nat->Bool) × Nat->Prop)
 (f:∀i k ob o g e q,J i k ob g e->e<=q->Fr e ob o->J i k o g q)
 (I:∀i (hi:i<h.ts.length) ob g e,J i (h.ts[i]).ops.length ob g e->J (i+1) 0 ob g e)
 (G:∀i (hi:i<h.ts.length) k (T:k<(h.ts[i]).ops.length) ob g e,J i k ob g e->ro<=e->∃r,EvY Yf l u [.agg [.int .i64 i,.int .i64 k],.agg (opC (h.ts[i]).ops[k])] ob g ro e r/\ro<=r.2.2.2 /\
  ((r.1=.bool true/\J i (k+1) r.2.1 r.2.2.1 r.2.2.2)\/(r.1=.bool false/\∀o q,r.2.2.2<=q->Fr r.2.2.2 r.2.1 o->P (.tup [],o,r.2.2.1,q))))
 (N:∀ob g e,J h.ts.length 0 ob g e->P (.tup [],ob,g,e))
 (x:J 0 0 ob0 tk0 ub0):∃r,EvS E Yf.y 215 [.yld l u,.ptr lh uh 0] ob0 tk0 ro base ub0 r/\P r:=by
 refine Ja (af:=S215) rfl zQ ?_;show wpC E Yf S215.body _ (XD S215.res P);conv in (occs := *) S215=> all_goals cbv
 simp[S215,objCells,hh,histC];refine YN (n:=h.ts.length) (λk s=>∃i,k=h.ts.length - i/\i<=h.ts.length/\s.df=[]/\s.fb=base/\s.ro=ro/\ro<=s.nx/\s.tm 0=.yld l u/\s.tm 8=slOf h.tn js h.ts/\s.tm 9=.int .i64 h.ts.length/\s.tm 10=.int .i64 i/\J i 0 s.ob s.tk s.nx)
  ⟨0,by simp;exact⟨zO,f _ _ _ _ _ _ _ x zO (Fr.refl _ _)⟩⟩ ?_
 rintro k s ⟨i,rfl,hi,M,p,c,S,x,K,H,d,L⟩;by_cases w:i<h.ts.length;simp[K,H,d,w,j7 jA,jh jA,js,objCells,c];refine⟨zO,?_⟩;refine YN (n:=(h.ts[i]).ops.length) (λk s=>∃j,k=(h.ts[i]).ops.length - j/\j<=(h.ts[i]).ops.length/\s.df=[]/\s.fb=base/\s.ro=ro/\ro<=s.nx/\s.tm 0=.yld l u/\s.tm 8=slOf h.tn js h.ts/\s.tm 9=.int .i64 h.ts.length/\s.tm 10=.int .i64 i /\
  s.tm 3=.int .i64 i/\s.tm 16=slOf (h.ts[i]).nl opC (h.ts[i]).ops/\s.tm 17=.int .i64 (h.ts[i]).ops.length/\s.tm 18=.int .i64 j/\J i j s.ob s.tk s.nx) ⟨0,?_⟩ ?_
 simp[M,p,c,x,K,H,d];refine⟨zO,?_⟩;rw[JD,jmk,JD];refine f _ _ _ _ _ _ _ L (by omega:s.nx<=_) (Fr.two (m:=s.nx+64+64+64+64) (λb6 T=>?_) zO);simp[T];clear M p c S x K H d L s;rintro k s ⟨j,rfl,hj,M,p,c,S,x,K,H,d,h3,O,z,D,L⟩;by_cases Q:j<(h.ts[i]).ops.length;simp[x,h3,O,z,D,Q,j7 jL,jh jL,opC,objCells,c,j2];refine⟨zO,joe λb a=>?_⟩;have b8:b.tm 23=.yld l u:=by rw[a];simp
 have b7:b.tm 26=.agg [.int .i64 i,.int .i64 j]:=by rw[a];simp
 have a0:b.tm 27=.agg (opC (h.ts[i]).ops[j]):=by rw[a];simp[opC]
 have e0:b.tm 0=.yld l u:=by rw[a];simp[x]
 have e8:b.tm 8=slOf h.tn js h.ts:=by rw[a];simp[K]
 have e9:b.tm 9=.int .i64 h.ts.length:=by rw[a];simp[H]
 have Z:b.tm 10=.int .i64 i:=by rw[a];simp[d]
 have e3:b.tm 3=.int .i64 i:=by rw[a];simp[h3]
 have b5:b.tm 16=slOf (h.ts[i]).nl opC (h.ts[i]).ops:=by rw[a];simp[O]
 have b9:b.tm 17=.int .i64 (h.ts[i]).ops.length:=by rw[a];simp[z]
 have U:b.tm 18=.int .i64 j:=by rw[a];simp[D]
 have ed:b.df=[]:=by rw[a];simp[M]
 have ef:b.fb=base:=by rw[a];simp[p]
 have er:b.ro=ro:=by rw[a];simp[c]
 have et:b.tk=s.tk:=by rw[a];simp only[jmk,js7,JD]
 have eo:Fr s.nx s.ob b.ob:=by rw[a];exact Fr.two (m:=s.nx+64+64+64+64) (λb6 T=>by simp[T]) zO
 clear a;obtain⟨r,hr,c0,F⟩:=G i w j Q b.ob s.tk (s.nx+64+64+64+64+64+64+64+64+64+64+64+64) (f _ _ _ _ _ _ _ L zO eo) zO;refine jjq (l:=l) (u:=u) (by simpa using b8) ⟨r,by simpa[b7,a0,et,er] using hr,?_⟩;rcases F with⟨B,b0⟩|⟨B,hP⟩;simp[B,put,j5,U];have hb:=hm h.ts[i] (av w);refine⟨(h.ts[i]).ops.length - (j+1),zO,j+1,rfl,zO,ed,ef,er,zO,e0,e8,e9,Z,e3,b5,b9,by rw[jX zO zO];simp,?_⟩;exact f _ _ _ _ _ _ _ b0 zO (Fr.refl _ _);simp[B,put];refine⟨(.tup [],r.2.1,r.2.2.1,r.2.2.2+64),?_,hP _ _ zO (Fr.refl _ _)⟩;simp[endS,ed];have:j=(h.ts[i]).ops.length:=zO;subst this;have X:=I i w _ _ _ L;simp[z,D,x,K,H,d,M,p,c];refine⟨h.ts.length - (i+1),zO,i+1,rfl,zO,zO,by rw[jX zO zO];simp,?_⟩;exact f _ _ _ _ _ _ _ X zO (Fr.refl _ _);have:i=h.ts.length:=zO;subst this;simp[H,d];refine⟨(.tup [],s.ob,s.tk,s.nx+64),?_,N _ _ _ (f _ _ _ _ _ _ _ L (Nat.le_add_right _ _) (Fr.refl _ _))⟩;simp[endS,M]
theorem jbq {E:Env}{Yf:YF}{f:FuncId}{xs:List A}{st:St}{ub:Nat}{K:St->Nat->Prop}{d:Option Nat}{nm:Bool}{vs:List V}(g:xs.map (eval E st.tm)=vs) (b:E.sh nm f=true)
 (h:∃r,EvS E Yf.y f vs st.ob st.tk st.ro ((st.fb+d.getD 0+1)*1024) ub r/\K { st with tm:=put st.tm d r.1,ob:=r.2.1,tk:=r.2.2.1 } r.2.2.2):j8 E Yf ⟨d,.call f xs,none,nm⟩ st ub K:=by
 have a:jB E nm (eval E st.tm) (.call f xs)=some (f,vs):=by simp only[jB,b,g,cZ,bZ,aj,if_false]
 simp only[j8,wanted,jk,a];obtain⟨r,c,e⟩:=h;exact .inl ⟨b,EvS.list ⟨r,c,e⟩⟩
theorem j55 {Yf:YF}(h:Hist') (ob:ZO) (tk:Nat->Bool) (ro base ub:Nat):∃r,EvS E Yf.y 156 [.agg (histC h)] ob tk ro base ub r /\
 r.1=.fn (.func 215) [] [.ptr (2*ub+1) ub 0]/\(∀a,r.2.1 a=if a=2*ub+1 then some ⟨ub,.cells (histC h)⟩ else ob a)/\r.2.2.1=tk/\r.2.2.2=ub+256:=by
 refine Ja (af:=S156) rfl zQ ?_;show wpC E Yf S156.body _ (XD S156.res _);conv in (occs := *) S156=> all_goals cbv
 simp[S156,histC];refine⟨(.fn (.func 215) [] [.ptr (2*ub+1) ub 0],_,_,_),rfl,?_⟩;simp[JD]
def jdt (h:Hist'):List Op':=h.ts.flatMap (·.ops)
def j2g (h:Hist') (i k:Nat):Prop:=∀i' (hi:i'<h.ts.length) k' (hk:k'<(h.ts[i']).ops.length),(i'<i\/i'=i/\k'<k)->opB h (h.ts[i']).ops[k']=true
def AS70:C:=.region [
 ⟨(some 4),.alloc [(.bool false),(.int .i64 0),(.int .i64 0),(.int .i64 0)],none,false⟩,
 ⟨none,.store 4 (.t 4) (.t 17),none,false⟩]
def BD70:C:=.block 1 (.seq (.region [
            ⟨(some 18),.load (some 3) (.t 1),none,false⟩,
            ⟨(some 19),.load (some 4) (.t 4),none,false⟩,
            ⟨(some 20),.call 157 [(.t 18),(.t 19)],none,false⟩,
            ⟨(some 21),.un .not (.t 20),none,false⟩])
 (.cond (.t 21) (.seq (.region [
  ⟨none,.store 1 (.t 2) (.c (.int .i64 4)),none,false⟩])
  (.ret))
  (.skip)))
theorem jrs {h:Hist'}(f:j2g h h.ts.length 0):(jdt h).all (opB h)=true:=by rw[aw];intro o d;obtain⟨t,e,a⟩:=cg.1 d;obtain⟨i,b,rfl⟩:=bH e;obtain⟨k,c,rfl⟩:=bH a;exact f i b k c (Or.inl b)
theorem jQ {E:Env}{Yf:YF}{c:C}{st:St}{Q:Ex->St->Prop}(h:∀a,a=st->wpC E Yf c a Q):wpC E Yf c st Q:=h st rfl
theorem j2y {l k:Nat}(ob:ZO) (h:k≠l):(if Nat.beq l k then none else ob k)=ob k:=by
 cases a:Nat.beq l k with
 | false=>rfl
 | true=>exact absurd (bm a).symm h
theorem j35 (h:Hist') (hn:h.ts.length<=1000) (w:∀t∈h.ts,t.ops.length<=1000000) {st:St}{lh uh:Nat}(U:Nat) (hU:st.nx=U) (b8:64<=U) (a0:st.tm 15=.fn (.func 215) [] [.ptr lh uh 0]) (hl:∃m,lh=2*m+1/\m<U)
 (h1:st.tm 1=.ptr 2 0 0) (h2:st.tm 2=.ptr 4 64 0) (L:st.ro=0) (K:st.fb=0) (o2:st.ob 2=some ⟨0,.cells (histC h)⟩) (o4:st.ob 4=some ⟨64,.cells [.int .i64 0]⟩) (oh:st.ob lh=some ⟨uh,.cells (histC h)⟩) {Q:Ex->St->Prop}
 (hQ:∀ (e:Ex) (ob:ZO) (tk:Nat->Bool) (ub:Nat) (c:Int),ob 2=some ⟨0,.cells (histC h)⟩->ob 4=some ⟨64,.cells [.int .i64 c]⟩->ob (2*U+3)=some ⟨U+1,.dfr⟩->U+64<=ub ->
  ((jdt h).all (opB h)=true/\e=.nrm/\c=0\/(jdt h).all (opB h)=false/\e=.ret/\c=4)->Q e { st with ob:=ob,tk:=tk,nx:=ub,df:=(2*U+3,U+1)::st.df }) :
 wpC E YC (.rangeFunc (.t 15) [16,17] AS70 BD70) st Q:=by
 obtain⟨m,rfl,b5⟩:=hl
 subst hU
 refine WV (g:=215) (first:=[]) (captured:=[.ptr (2*m+1) uh 0]) (by simpa using a0) ?_
 have:=j1w (Yf:=jg7 E YC AS70 BD70 st [16,17] (2*st.nx+1) st.nx) h hn w (l:=2*st.nx+1) (u:=st.nx) (lh:=2*m+1) (uh:=uh)
  (ob0:=upd (upd st.ob (2*st.nx+3) (some ⟨st.nx+1,.dfr⟩)) (2*st.nx+1) (some ⟨st.nx,.loop .ready none⟩)) (tk0:=st.tk) (ro:=st.ro) (base:=(st.fb+1023)*1024) (ub0:=st.nx+64)
  (by have I :¬ 2 * m+1=2 * st.nx+1:=by omega
      have G:¬ 2*m+1=2*st.nx+3:=zO
      simp only[j5,I,G,if_false,oh]) zO
  (λi k ob tk ub=>j2g h i k/\ob (2*st.nx+1)=some ⟨st.nx,.loop .ready none⟩/\ob (2*st.nx+3)=some ⟨st.nx+1,.dfr⟩/\ob 2=some ⟨0,.cells (histC h)⟩/\ob 4=some ⟨64,.cells [.int .i64 0]⟩/\st.nx+64<=ub)
  (λr=>∃s x,r.2.1 (2*st.nx+1)=some ⟨st.nx,.loop s x⟩/\s≠.busy/\st.ro<=st.nx/\Q (x.getD .nrm) { st with ob:=λk=>if Nat.beq (2*st.nx+1) k then none else r.2.1 k,tk:=r.2.2.1,nx:=r.2.2.2,df:=(2*st.nx+3,st.nx+1)::st.df })
  ?_ ?_ ?_ ?_ ?_
 ·obtain⟨r,hr,hP⟩:=this
  exact⟨r,hr,hP⟩
 ·-- what J says stands behind what is new
  rintro i k ob j tk ub M ⟨q,F,S,H,O,g6⟩ b6 z
  have f:∀n,(∀m,ub<=m->n≠2*m+1)->j n=ob n:=z
  exact⟨q,by rw[f _ (λm w=>by omega)];exact F,by rw[f _ (λm w=>by omega)];exact S,by rw[f _ (λm w=>by omega)];exact H,by rw[f _ (λm w=>by omega)];exact O,zO⟩
 ·rintro i hi ob tk ub ⟨q,g⟩
  refine⟨λP d D b p=>?_,g⟩
  rcases p with B|⟨_,B⟩
  ·rcases aQ.1 B with h''|rfl
   ·exact q P d D b (Or.inl h'')
   ·exact q P d D b (Or.inr ⟨rfl,b⟩)
  ·omega
 ·rintro i hi k hk ob tk ub ⟨q,F,S,H,O,g6⟩ b7
  refine jgj (asg:=AS70) (bd:=BD70) (xs:=[.agg [.int .i64 i,.int .i64 k],.agg (opC (h.ts[i]).ops[k])]) rfl zO F zQ zQ ?_
  simp[AS70,jet,objCells,K,opC,L]
  refine⟨by rw[if_neg zO,if_neg zO];exact F,jQ λo a=>?_⟩
  have f1:o.tm 1=.ptr 2 0 0:=by rw[a];simp[j5,h1]
  have f2:o.tm 2=.ptr 4 64 0:=by rw[a];simp[j5,h2]
  have f4:o.tm 4=.ptr 8 ub 0:=by rw[a];simp
  have n2:¬ 2=2*st.nx+1:=zO
  have Z:¬ 4=2*st.nx+1:=zO
  have n8:¬ 8=2*st.nx+1:=zO
  have T:¬ 2*st.nx+3=2*st.nx+1:=zO
  have b0:¬ 2*st.nx+3=8:=zO
  have p2:o.ob 2=some ⟨0,.cells (histC h)⟩:=by rw[a];simp only[j5,n2,if_false,X6];simp[H]
  have p4:o.ob 4=some ⟨64,.cells [.int .i64 0]⟩:=by rw[a];simp only[j5,Z,if_false,X6];simp[O]
  have p8:o.ob 8=some ⟨ub,.cells (opC (h.ts[i]).ops[k])⟩:=by rw[a];simp only[j5,n8,if_false,X6];simp[opC]
  have p3:o.ob (2*st.nx+3)=some ⟨st.nx+1,.dfr⟩:=by rw[a];simp only[j5,T,b0,if_false,X6];exact S
  have p1:o.ob (2*st.nx+1)=some ⟨st.nx,.loop .busy none⟩:=by rw[a];simp
  have fr:o.ro=0:=by rw[a]
  have fn:ub<=o.nx:=by rw[a];simp;omega
  clear a
  simp[BD70,f1,f4,p2,p8,objCells,opC,histC]
  refine Xl (vs:=[.agg (histC h),.agg (opC (h.ts[i]).ops[k])]) (by simp[histC,opC]) rfl (by simp[histC,opC]) (by simpa[histC,opC] using ev157 h (h.ts[i]).ops[k]) ?_
  have m1:¬ 2*st.nx+1=4:=zO
  have m3:¬ 2*st.nx+3=4:=zO
  cases hb:opB h (h.ts[i]).ops[k]
  ·simp[f2,p4,objCells,fr,m1,p1,Wd,j2]
   intro j M b9 z
   have X:∀n,(∀m,o.nx+64+64+64+64+64<=m->n≠2*m+1)->j n=_:=z
   have N:(jdt h).all (opB h)=false:=by
    rw[eD]
    exact⟨_,cg.2 ⟨_,av hi,av hk⟩,by rw[hb];decide⟩
   have y:∀ {k:Nat},k≠2*st.nx+1->(if 2*st.nx+1=k then none else j k)=j k:=λhk=>if_neg λe=>hk e.symm
   refine⟨.done,some .ret,?_,zS,?_⟩
   ·rw[X _ (λm w=>by omega)]
    simp
   ·have:=hQ .ret (λk=>if 2*st.nx+1=k then none else j k) o.tk M 4 (by rw[y n2,X _ (λm w=>by omega)];simp only[j5,n2,if_false,X6];simp[p2]) (by rw[y Z,X _ (λm w=>by omega)];simp only[j5,Z,if_false,X6];simp)
     (by rw[y T,X _ (λm w=>by omega)];simp only[j5,T,m3,if_false,X6];exact p3) zO (Or.inr ⟨N,rfl,rfl⟩)
    rw[L,K]at this
    exact this
  ·simp[p1,Wd]
   refine⟨λP d D b p=>?_,?_,?_,?_,zO⟩
   ·rcases p with B|⟨rfl,B⟩
    ·exact q P d D b (Or.inl B)
    ·rcases aQ.1 B with h''|rfl
     ·exact q _ d D b (Or.inr ⟨rfl,h''⟩)
     ·exact hb
   ·rw[j5,if_neg T];exact p3
   ·rw[j5,if_neg n2];exact p2
   ·rw[j5,if_neg Z];exact p4
 ·rintro ob tk ub ⟨q,F,S,H,O,g6⟩
  refine⟨.ready,none,F,zS,zO,?_⟩
  exact hQ .nrm _ _ _ 0 ((j2y ob zO).trans H) ((j2y ob zO).trans O) ((j2y ob zO).trans S) g6 (Or.inl ⟨jrs q,rfl,rfl⟩)
 ·refine⟨λP d D b p=>by omega,?_,?_,?_,?_,zO⟩
  ·simp
  ·simp[j5]
  ·have I:¬ 2=2*st.nx+1:=zO
   have G:¬ 2=2*st.nx+3:=zO
   simp only[j5,I,G,if_false,o2]
  ·have I:¬ 4=2*st.nx+1:=zO
   have G:¬ 4=2*st.nx+3:=zO
   simp only[j5,I,G,if_false,o4]
def rc (l:List Op'):Nat:=(l.filter λo=>!o.w).length
def rcT (l:List Txn'):Nat:=rc (l.flatMap (·.ops))
theorem rc_le (l:List Op'):rc l<=l.length:=bD _ _
theorem j8f (a b:List Op'):rc (a++b)=rc a+rc b:=by simp[rc]
section
variable {E:Env}{Yf:YF}{st:St}{ub:Nat}{K:St->Nat->Prop}{d:Option Nat}{nm:Bool}
theorem J1 {sz a u n:Nat}{nl:Bool}{cs ys:List V}{s x:A}(j:eval E st.tm s=.sl (some (u,sz)) nl n cs) (e:st.tk u=true) (k:slCells st.ob sz (eval E st.tm x)=some ys) (c:ys≠[]) (b:cs.length=n*sz) (g:0<sz)
 (hp:ys.all V.pureLeaf=true) (i:(n+ys.length / sz)*a<=140737488355328) (f:n+ys.length / sz<=140737488355328) (h:WR K st d ub { v:=.sl (some (ub,sz)) false (n+ys.length / sz) (cs++ys),del:=some u,add:=[ub] }) :
 j8 E Yf ⟨d,.append false sz a s x,none,nm⟩ st ub K:=by
 rw[jN _ rfl rfl];simp only[aop,j,k,am,if_neg c,bZ,aj,if_false];rw[if_pos ⟨b,g,hp,i,f⟩,if_pos (by simp[e]),jM];exact h
theorem ji5 {sz a:Nat}{ys:List V}{s x:A}(g:eval E st.tm s=.sl none true 0 []) (i:slCells st.ob sz (eval E st.tm x)=some ys) (b:ys≠[]) (e:0<sz)
 (hp:ys.all V.pureLeaf=true) (f:(0+ys.length / sz)*a<=140737488355328) (c:0+ys.length / sz<=140737488355328) (h:WR K st d ub { v:=.sl (some (ub,sz)) false (0+ys.length / sz) ([]++ys),add:=[ub] }) :
 j8 E Yf ⟨d,.append false sz a s x,none,nm⟩ st ub K:=by
 rw[jN _ rfl rfl];simp only[aop,g,i,am,if_neg b,bZ,aj,if_false];rw[if_pos ⟨zS,e,hp,f,c⟩,if_pos trivial,jM];exact h
theorem jG {sz n:Nat}{zero:List V}{a:List (Nat × Nat × A)}{cs:List V}(b:fill zero (jz (eval E st.tm) a)=some cs) (c:cs.length=n*sz) (hp:(cs.map V.strip1).all V.pureLeaf=true)
 (h:WR K st d ub { v:=.sl (some (ub,sz)) false n (cs.map V.strip1),add:=[ub] }):j8 E Yf ⟨d,.buildSl false sz zero a n,none,nm⟩ st ub K:=by
 rw[jN _ rfl rfl];simp only[aop,b,am,aj,if_false];rw[if_pos ⟨c,hp⟩,jM];exact h
end
theorem jU {b:Type}{f:b->List V}{k:Nat}(c:∀a,(f a).length=k) (l:List b) {i o:Nat}(h:i<l.length) (e:o<k):(l.flatMap f)[i*k+o]? = (f l[i])[o]?:=by have:=YV c l i h;rw[<- this,ct,if_pos e,bw]
def numsTo (p:Txn'->Bool) (l:List Txn'):Nat->List Int
 | 0=>[]
 | i+1=>numsTo p l i++(match l[i]? with|some t=>if p t then [(i:Int)] else []|none=>[])
theorem JQ (p:Txn'->Bool) (l:List Txn'):∀i,(numsTo p l i).length<=i
 | 0=>by simp[numsTo]
 | i+1=>by have:=JQ p l i;simp only[numsTo,au];split;split <;> simp <;> omega;simp;omega
def intC (n:Int):List V:=[.int .i64 n]
theorem JU {p:Txn'->Bool}{l:List Txn'}{i:Nat}(h:i<l.length):numsTo p l (i+1)=numsTo p l i++(if p l[i] then [(i:Int)] else []):=by simp[numsTo,aa h]
@[simp] theorem j9 (n:Int):(intC n).length=1:=rfl
theorem QO {n u m:Nat}{st:St}{cs:List V}(a:st.df=[]) (h:st.tm n=.sl (some (u,1)) false m cs) (b:st.tk u=true):jas [.t n] (.ret,st)=some (.sl (some (0,1)) false m cs):=by simp only[jas,YJ a,YD a,if_true,bL,fW,jo,h];simp[Yd,JK,XS,jm,V.toks,V.tok,nodup,b]
def XC (t:Txn'):Bool:=t.f == 3
def Xg (h:Hist'):List Int:=numsTo XC h.ts h.ts.length
theorem ev59 (h:Hist') (t:h.ts.length<=1000):Ev E 59 [.agg (histC h)] (.sl (some (0,1)) false (Xg h).length ((Xg h).flatMap intC)):=by
 refine jS (af:=F59) rfl ?_;conv in (occs := *) F59=> all_goals cbv
 simp[F59,histC];refine jG (cs:=[]) rfl rfl rfl ?_;simp;refine YN (n:=h.ts.length) (λk s=>∃i u,k=h.ts.length - i/\i<=h.ts.length/\s.df=[]/\s.fb=0/\s.ro=0/\s.tm 1=.ptr 2 0 0/\s.ob 2=some ⟨0,.cells (histC h)⟩/\s.tm 4=.int .i64 i/\s.tk u=true /\
  s.tm 3=.sl (some (u,1)) false (numsTo XC h.ts i).length ((numsTo XC h.ts i).flatMap intC))
  ⟨0,128,by simp[numsTo,histC]⟩ ?_
 rintro k s ⟨i,u,rfl,r,l,b,c,g,j,e,m,o⟩;by_cases a:i<h.ts.length;simp[g,j,e,objCells,histC,a,j7 jA,jU jA,js];have q:=JQ XC h.ts i;cases p:h.ts[i].f == 3;simp[e];refine⟨h.ts.length - (i+1),zO,i+1,⟨rfl,zO,l,b,c,g,by simpa[histC] using j,by rw[jX zO zO];simp,u,m,?_⟩⟩;rw[o,JU a,XC,p];simp;simp[o,e];refine jG (cs:=[.int .i64 i]) (by simp[j2]) rfl rfl ?_;simp;refine J1 (u:=u) (nl:=false) (n:=(numsTo XC h.ts i).length) (cs:=(numsTo XC h.ts i).flatMap intC) (ys:=[.int .i64 i]) zS (by simp[ji,m]) (by simp[slCells]) zS (by rw[j3 j9]) zQ rfl (by simp;omega) (by simp;omega) ?_;simp[e,l,b,c,g,j,histC];refine⟨h.ts.length - (i+1),zO,i+1,rfl,zO,by rw[jX zO zO];simp,Or.inl ?_⟩;rw[JU a,XC,p];simp[intC];have:i=h.ts.length:=zO;subst this;simp[g,j,e,objCells,histC];exact QO (u:=u) (by simpa using l) (by simp[o,Xg]) (by simpa using m)
def WO (r:Int):Bool:=decide (48<=r) && decide (r<=57)
theorem ev267 (r:Int):Ev E 267 [.int .i32 r] (.bool (WO r)):=by
 refine jS (af:=F267) rfl ?_;unfold WO;by_cases h:48<=r
 ·conv in (occs := *) F267=> all_goals cbv
  simp[F267,h];exact j4 rfl zS rfl
 ·conv in (occs := *) F267=> all_goals cbv
  simp[F267,h];exact j4 rfl zS rfl
theorem ev320 (r:Int):Ev E 320 [.int .i32 r] (.bool false):=by
 refine jS (af:=F320) rfl ?_;conv in (occs := *) F320=> all_goals cbv
 simp[F320];exact j4 rfl zS rfl
def jxb (a b:Int):Int:=if a<b then -1 else if b<a then 1 else 0
theorem ev304 (a b:Int):Ev E 304 [.int .i32 a,.int .i32 b] (.int .i64 (jxb a b)):=by
 refine jS (af:=F304) rfl ?_;conv in (occs := *) F304=> all_goals cbv
 simp[F304];refine Xl (vs:=[.int .i32 a]) zS rfl rfl (ev320 a) ?_;simp;refine Xl (vs:=[.int .i32 b]) zS rfl rfl (ev320 b) ?_;unfold jxb;by_cases h:a<b;simp[h];exact j4 rfl zS rfl;by_cases c:b<a;simp[h,c];exact j4 rfl zS rfl;simp[h,c];exact j4 rfl zS rfl
def jce (r:Int):List V:=[.int .i32 r]
@[simp] theorem jey (n:Int):(jce n).length=1:=rfl
def jls:List Int->List Int->Int
 | [],[]=>0
 | [],_::_=>-1
 | _::_,[]=>1
 | a::x,b::y=>if jxb a b=0 then jls x y else jxb a b
theorem jmp (l:List Int) {i:Nat}(h:i<l.length):(l.flatMap jce)[i]? = some (.int .i32 l[i]):=by have:=jU (f:=jce) jey l h (by decide:0<1);rw[bz,bj]at this;rw[this];rfl
theorem ev293 (nx q:Bool) (x y:List Int) (u:x.length<=140737488355328):Ev E 293 [slOf nx jce x,slOf q jce y] (.int .i64 (jls x y)):=by
 refine jS (af:=F293) rfl ?_;conv in (occs := *) F293=> all_goals cbv
 simp[F293];refine YN (n:=x.length) (λk s=>∃i,k=x.length - i/\i<=x.length/\i<=y.length/\s.df=[]/\s.tm 0=slOf nx jce x/\s.tm 1=slOf q jce y/\s.tm 9=slOf nx jce x/\s.tm 10=.int .i64 x.length/\s.tm 11=.int .i64 i/\jls (x.drop i) (y.drop i)=jls x y)
  ⟨0,zS⟩ ?_
 rintro k s ⟨i,rfl,t,r,h,m,j,o,d,f,b⟩;by_cases c:i<x.length;rw[aW c]at b;by_cases a:i<y.length;rw[aW a,jls]at b;have g:¬ (y.length:Int)<=i:=zO;simp[j,o,d,f,c,g,a,j7 jey,jmp x c,jmp y a];refine Xl (vs:=[.int .i32 x[i],.int .i32 y[i]]) zS rfl rfl (ev304 x[i] y[i]) ?_;by_cases l:jxb x[i] y[i]=0;rw[if_pos l]at b;simp[l,m,j,o,d,f,h];exact⟨x.length - (i+1),zO,i+1,rfl,zO,zO,by rw[jX zO zO];simp,b⟩;rw[if_neg l]at b;have p:(jxb x[i] y[i] != 0)=true:=by simpa using l
 simp[p];exact j4 (by simpa using h) (by simp[b]) rfl;have g:(y.length:Int)<=i:=zO;have e:y.drop i=[]:=bS zO;rw[e,jls]at b;simp[j,o,d,f,c,g,j7 jey,jmp x c];exact j4 (by simpa using h) (by simp[b]) rfl;have:i=x.length:=zO;subst this;rw[dA]at b;by_cases a:x.length<y.length;rw[aW a,jls]at b;simp[m,j,d,f,a];exact j4 (by simpa using h) (by simp[b]) rfl;have e:y.drop x.length=[]:=bS zO;rw[e,jls]at b;simp[m,j,d,f,a];exact j4 (by simpa using h) (by simp[b]) rfl
def JJ (s:List UInt8):List Int:=(XQ s s.length 0).map λr=>((r:Nat):Int)
theorem jo9 {E:Env}{Yf:YF}{st:St}{ub:Nat}{K:St->Nat->Prop}{d:Option Nat}{nm:Bool}{x:A}{s:List UInt8}(f:eval E st.tm x=.str s) (c:(JJ s).length<=70368744177664)
 (h:WR K st d ub { v:=.sl (some (ub,1)) false (JJ s).length ((JJ s).flatMap jce),add:=[ub] }):j8 E Yf ⟨d,.runesOfStr x,none,nm⟩ st ub K:=by
 have e:(XQ s s.length 0).map (λr=>V.int .i32 (r:Nat))=(JJ s).flatMap jce:=by
  rw[JJ,List.flatMap_map];generalize XQ s s.length 0=l;induction l with
  | nil=>rfl
  | cons r l b=>simp only[bt,bl,b,jce];rfl
 have a:(JJ s).length=(XQ s s.length 0).length:=by simp[JJ]
 rw[jN _ rfl rfl];simp only[aop,f];rw[<- a,if_pos c,jM,e];exact h
theorem ev280 (a b:List UInt8) (c:(JJ a).length<=1000000) (d:(JJ b).length<=1000000):Ev E 280 [.str a,.str b] (.int .i64 (jls (JJ a) (JJ b))):=by
 refine jS (af:=F280) rfl ?_;conv in (occs := *) F280=> all_goals cbv
 simp[F280];refine jo9 (s:=a) zS zO ?_;simp;refine jo9 (s:=b) zS zO ?_;simp;refine Xl (vs:=[.sl (some (128,1)) false (JJ a).length ((JJ a).flatMap jce),.sl (some (256,1)) false (JJ b).length ((JJ b).flatMap jce)]) zS rfl rfl (ev293 false false _ _ zO) ?_;simp;exact j4 rfl zS rfl
theorem ev251 (a b:List UInt8) (c:(JJ a).length<=1000000) (d:(JJ b).length<=1000000):Ev E 251 [.str a,.str b] (.bool (decide (jls (JJ a) (JJ b)<0))):=by
 refine jS (af:=F251) rfl ?_;conv in (occs := *) F251=> all_goals cbv
 simp[F251];refine Xl (vs:=[.str a,.str b]) zS rfl rfl (ev280 a b c d) ?_;simp;exact j4 rfl zS rfl
def j32 (s:List UInt8):Bool:=s == [98,101,103,105,110] || s == [114,101,97,100] || s == [119,114,105,116,101] || s == [111,107] || s == [102,97,105,108] || s == [105,110,102,111] || s == [110,105,108]
theorem ev264 (s:List UInt8):Ev E 264 [.str s] (.bool (j32 s)):=by
 refine jS (af:=F264) rfl ?_;unfold j32;generalize a:(s == [98,101,103,105,110])=b1;generalize b:(s == [114,101,97,100])=b2;generalize c:(s == [119,114,105,116,101])=b3;generalize d:(s == [111,107])=b4;generalize e:(s == [102,97,105,108])=b5;generalize f:(s == [105,110,102,111])=b6;generalize g:(s == [110,105,108])=b7;cases b1
 ·cases b2
  ·cases b3
   ·cases b4
    ·cases b5
     ·cases b6
      ·cases b7;all_goals (simp[F264,a,b,c,d,e,f,g];exact j4 rfl zS rfl)
      simp[F264,a,b,c,d,e,f];exact j4 rfl zS rfl
     simp[F264,a,b,c,d,e];exact j4 rfl zS rfl
    simp[F264,a,b,c,d];exact j4 rfl zS rfl
   simp[F264,a,b,c];exact j4 rfl zS rfl
  simp[F264,a,b];exact j4 rfl zS rfl
 simp[F264,a];exact j4 rfl zS rfl
theorem ev235 (s:List UInt8):Ev E 235 [.str s] (.bool (j32 s)):=by
 refine jS (af:=F235) rfl ?_;unfold j32;generalize a:(s == [98,101,103,105,110])=b1;generalize b:(s == [114,101,97,100])=b2;generalize c:(s == [119,114,105,116,101])=b3;generalize d:(s == [111,107])=b4;generalize e:(s == [102,97,105,108])=b5;generalize f:(s == [105,110,102,111])=b6;generalize g:(s == [110,105,108])=b7;cases b1
 ·cases b2
  ·cases b3
   ·cases b4
    ·cases b5
     ·cases b6
      ·cases b7;all_goals (simp[F235,a,b,c,d,e,f,g];exact j4 rfl zS rfl)
      simp[F235,a,b,c,d,e,f];exact j4 rfl zS rfl
     simp[F235,a,b,c,d,e];exact j4 rfl zS rfl
    simp[F235,a,b,c,d];exact j4 rfl zS rfl
   simp[F235,a,b,c];exact j4 rfl zS rfl
  simp[F235,a,b];exact j4 rfl zS rfl
 simp[F235,a];exact j4 rfl zS rfl
def jci (r:Int):Bool:=decide (127<r) || (r == 95) || WO r || (decide (97<=r) && decide (r<=122)) || (decide (65<=r) && decide (r<=90))
theorem ev266 (r:Int):Ev E 266 [.int .i32 r] (.bool (jci r)):=by
 refine jS (af:=F266) rfl ?_;unfold jci;by_cases c:127<r
 ·conv in (occs := *) F266=> all_goals cbv
  simp[F266,c];exact j4 rfl zS rfl
 cases d:(r == 95)
 ·conv in (occs := *) F266=> all_goals cbv
  simp[F266,c,d];refine Xl (vs:=[.int .i32 r]) zS rfl rfl (ev267 r) ?_;cases g:WO r;by_cases b:97<=r;by_cases e:r<=122;simp[b,e];exact j4 rfl zS rfl;have a:65<=r:=zO;have f:¬ r<=90:=zO;simp[b,e,a,f];exact j4 rfl zS rfl;by_cases a:65<=r;simp[b,a];exact j4 rfl zS rfl;simp[b,a];exact j4 rfl zS rfl;simp;exact j4 rfl zS rfl
 ·conv in (occs := *) F266=> all_goals cbv
  simp[F266,c,d];exact j4 rfl zS rfl
end Go.Pv.T
namespace Go.Pv
open Go
def AOp.plainOp:AOp->Bool
 | .call ..|.callV ..|.entry _|.nextMap _=>false
 | _=>true
def AOp.valOp:AOp->Bool
 | .mov _|.pick ..|.bin ..|.eq ..|.un ..|.build ..|.load ..|.nilCheck _|.fieldAddr ..|.idxSl ..|.idxArr ..|.part ..|.idxStr ..|.idxVal ..|.slStr ..|.slSl ..|.lenStr _|.lenSl _|.lenMap _|.extract ..|.mkFn ..|.lookup ..|.iface ..|.assert ..|.conv ..|.minmax ..=>true
 | _=>false
def kDr (E:Env) (r:List AOpr) (K:List FP->St->Prop):St->Nat->Prop:=λst ub=>jF E r st ub K
def kFp (f:FP) (K:List FP->St->Prop):List FP->St->Prop:=λfs s=>K (f::fs) s
def kDQ (free:List (Nat × Nat)) (Q:Ex->St->Prop):List FP->St->Prop:=λfs s=>X5 free fs=true/\jah fs=true/\Q .nrm s
def kDGd (E:Env) (o:AOpr) (r:List AOpr) (st:St) (ub:Nat) (K:List FP->St->Prop):Bool->Prop
 | true=>jF E (o::r) st ub K
 | false=>jF E r (st.setT o.dst ju) (ub+64) (kFp {} K)
def Wy (E:Env) (r:List AOpr) (K:List FP->St->Prop) (ρ:A->V) (op:AOp) (st:St) (d:Option Nat) (ub:Nat):Delta->Prop:=λδ=>jF E r (st.app d δ) (ub+64) (kFp (jb6 ρ op δ) K)
theorem jjw {e:FuncId->List V->Option V}{g:A->V}{ob:ZO}{tk:Nat->Bool}{ro f ub:Nat}{op:AOp}{δ:Delta}(h:op.valOp=true) (b:aop e g ob tk ro f ub op=some δ):∃v,δ = { v:=v }:=by
 have a:∀ {o:Option V},o.bind one=some δ->∃v,δ = { v:=v }:=fun {o} c=>by
  cases o with
  | none=>cases c
  | some v=>cases c;exact⟨v,rfl⟩
 cases op <;> first|(cases h;done)|skip
 all_goals simp only[aop]at b
 all_goals first
  | exact a b
  | exact a (o:=some _) b
  | (repeat' split at b) <;> first|(cases b;done)|exact a b|exact a (o:=some _) b|skip
 all_goals (try simp only[dH]at b)
 all_goals first
  | (obtain⟨_,_,c⟩:=b;exact a (o:=some _) c)
  | skip
 all_goals
  obtain⟨_,_,x,_,c⟩:=b
  first|exact a (o:=some _) c|(rcases x with _|⟨_,_⟩ <;> exact a (o:=some _) c)
def kPin (E:Env) (fs:List AOpr) (st:St) (Q:Ex->St->Prop):St->Nat->Prop:=λs ub=>jF E fs s ub λ_ s'=>jds fs st s'=true/\Q .nrm s'
def kPQ (fs:List AOpr) (st:St) (Q:Ex->St->Prop):List FP->St->Prop:=λ_ s'=>jds fs st s'=true/\Q .nrm s'
section
variable {E:Env}{Yf:YF}{st:St}{ub:Nat}{K:List FP->St->Prop}{d:Option Nat}{nm:Bool}{Q:Ex->St->Prop}{r:List AOpr}
theorem kC_pin {o:AOpr}{fs:List AOpr}:wpC E Yf (.pin o fs) st Q=j8 E Yf o st st.nx (kPin E fs st Q):=propext bN
theorem jz4 {fs:List AOpr}{s:St}:kPin E fs st Q s ub=jF E fs s ub (kPQ fs st Q):=propext bN
theorem j43 {fs:List AOpr}{f:List FP}{s:St}:kPQ fs st Q f s=(jds fs st s=true/\Q .nrm s):=propext bN
theorem jta {s s':St}:jds [] s s'=true:=by simp[jds]
theorem jqp {op:AOp}{a:Option (Nat × Bool)}{t:Nat}{fs:List AOpr}{s s':St}:jds (⟨some t,op,a,nm⟩::fs) s s'=(V.eqb (s.tm t) (s'.tm t) && jds fs s s'):=by simp[jds]
theorem j03 (v:V):V.eqb v v=true:=jeb v
theorem j48:kDr E r K st ub=jF E r st ub K:=propext bN
theorem j46 {f:FP}{fs:List FP}:kFp f K fs st=K (f::fs) st:=propext bN
theorem j5f {free:List (Nat × Nat)}{fs:List FP}:kDQ free Q fs st=(X5 free fs=true/\jah fs=true/\Q .nrm st):=propext bN
theorem j5j {ops:List AOpr}{free:List (Nat × Nat)}:wpC E Yf (.draw ops free) st Q=jF E ops st st.nx (kDQ free Q):=propext bN
theorem j47:jF E [] st ub K=K [] (st.setN ub):=propext bN
theorem jld {o:AOpr}:kDGd E o r st ub K true=jF E (o::r) st ub K:=propext bN
theorem jco {o:AOpr}:kDGd E o r st ub K false=jF E r (st.setT o.dst ju) (ub+64) (kFp {} K):=propext bN
theorem jvq {op:AOp}{t:Nat}{b:Bool}:jF E (⟨d,op,some (t,b),nm⟩::r) st ub K=gdK (st.tm t) b (kDGd E ⟨d,op,none,nm⟩ r st ub K):=by
 have i:AOpr.name ⟨d,op,some (t,b),nm⟩=AOpr.name ⟨d,op,none,nm⟩:=rfl;have g:∀c,st.tm t=.bool c->(jF E (⟨d,op,some (t,b),nm⟩::r) st ub K=kDGd E ⟨d,op,none,nm⟩ r st ub K (c == b)):=λc f=>by
  cases e:(c == b);have:wanted ⟨d,op,some (t,b),nm⟩ st.tm=some false:=by simp[wanted,f,e]
  rw[jF,this,jco,<- jar];rfl;have:wanted ⟨d,op,some (t,b),nm⟩ st.tm=some true:=by simp[wanted,f,e]
  rw[jF,this,jld,jF];rfl
 cases h:st.tm t with
 | bool c=>rw[g c h];rfl
 | tup l=>cases l with
  | nil=>
   have:wanted ⟨d,op,some (t,b),nm⟩ st.tm=some false:=by simp[wanted,h]
   rw[jF,this];show _=kDGd E ⟨d,op,none,nm⟩ r st ub K false;rw[jco,<- jar];rfl
  | cons a l=>
   have:wanted ⟨d,op,some (t,b),nm⟩ st.tm=none:=by simp[wanted,h]
   rw[jF,this];rfl
 | _=>
  have:wanted ⟨d,op,some (t,b),nm⟩ st.tm=none:=by simp[wanted,h]
  rw[jF,this];rfl
theorem Jq {op:AOp}(h:op.plainOp=true):jF E (⟨d,op,none,nm⟩::r) st ub K=wpD (aop (λ_ _=>none) (eval E st.tm) st.ob st.tk st.ro (AOpr.name ⟨d,op,none,nm⟩ st.fb ub) ub op) (Wy E r K (eval E st.tm) op st d ub):=by cases op <;> first|cases h;done|(simp only[jF,wanted,jB,AOp.far,true_and];rfl)
theorem X2 {op:AOp}(h:op.valOp=true):jF E (⟨d,op,none,nm⟩::r) st ub K=j8 E Yf ⟨d,op,none,nm⟩ st ub (kDr E r (kFp { ro:=rdOb (eval E st.tm) op,rt:=rdTk (eval E st.tm) op } K)):=by
 have f:op.plainOp=true:=by cases op <;> first|rfl|cases h
 have e:op.isCall=false:=by cases op <;> first|rfl|cases h
 have g:op.isNext=false:=by cases op <;> first|rfl|cases h
 rw[Jq f,jN _ e g];refine propext ⟨?_,?_⟩;rintro⟨c,a,b⟩;obtain⟨v,rfl⟩:=jjw h a;exact⟨_,a,b⟩;rintro⟨c,a,b⟩;obtain⟨v,rfl⟩:=jjw h a;exact⟨_,a,b⟩
theorem j0a {sz:Nat}{p x:A}:jF E (⟨d,.store sz p x,none,nm⟩::r) st ub K=jb7 st sz (eval E st.tm x) (Wy E r K (eval E st.tm) (.store sz p x) st d ub) (eval E st.tm p):=by
 rw[Jq rfl];simp only[aop];generalize a:Wy E r K (eval E st.tm) (.store sz p x) st d ub=k;clear a;generalize eval E st.tm p=vp;cases vp <;> simp only[jat,jb7];rename_i l u off;cases objCells st.ob l u with
 | none=>simp[wpD]
 | some cs=>simp only[am,jek,jM,ab,exists_eq_left',ce,and_assoc]
theorem j0g {z:List V}:jF E (⟨d,.alloc z,none,nm⟩::r) st ub K=Wy E r K (eval E st.tm) (.alloc z) st d ub { v:=.ptr (jH d nm st.fb ub) ub 0,obs:=[(jH d nm st.fb ub,⟨ub,.cells z⟩)] }:=by rw[Jq rfl];simp only[aop,Jj,jM,Jx]
theorem kD_box {sz:Nat}{x:A}:jF E (⟨d,.box sz x,none,nm⟩::r) st ub K=(((eval E st.tm x).cells.length=sz/\(eval E st.tm x).cells.all V.leaf=true)/\Wy E r K (eval E st.tm) (.box sz x) st d ub { v:=.ptr (jH d nm st.fb ub) ub 0,obs:=[(jH d nm st.fb ub,⟨ub,.cells (eval E st.tm x).cells⟩)] }):=by rw[Jq rfl];simp only[aop,Jj,jek,jM,Jx]
theorem j5g {a:A->V}{op:AOp}{v:V}:Wy E r K a op st d ub { v:=v } = jF E r (st.setT d v) (ub+64) (kFp (jb6 a op { v:=v }) K):=by rw[Wy,jar]
theorem jvy {a:A->V}{op:AOp}{δ:Delta}:Wy E r K a op st d ub δ=jF E r (st.app d δ) (ub+64) (kFp (jb6 a op δ) K):=propext bN
theorem Js {f:FuncId}{xs:List A}{args:List V}{v:V}(e:Ev E f args v) (g:(xs.map λx=>(eval E st.tm x).strip)=args) (k:E.sh nm f=false) (hp:args.all V.pureTop=true) (h:wpD (Xf ub v) (Wy E r K (eval E st.tm) (.call f xs) st d ub)) :
 jF E (⟨d,.call f xs,none,nm⟩::r) st ub K:=by
 have a:(xs.all λx=>(eval E st.tm x).strip.pureTop)=true:=by rw[<- g,dF]at hp;exact hp
 have b:jB E nm (eval E st.tm) (.call f xs)=none:=by simp only[jB,k,a,cG,cB,if_true]
 obtain⟨i,c,j⟩:=h;simp only[jF,wanted,b,AOp.far,true_and];exact⟨a,v,g▸e,i,c,j⟩
theorem jJ {K:St->Nat->Prop}{f:FuncId}{xs:List A}{args:List V}{v:V}(g:Ev E f args v) (e:(xs.map λx=>(eval E st.tm x).strip)=args) (k:E.sh nm f=false) (hp:args.all V.pureTop=true) (h:wpD (Xf ub v) (WR K st d ub)) :
 j8 E Yf ⟨d,.call f xs,none,nm⟩ st ub K:=by
 have a:(xs.all λx=>(eval E st.tm x).strip.pureTop)=true:=by rw[<- e,dF]at hp;exact hp
 have b:jB E nm (eval E st.tm) (.call f xs)=none:=by simp only[jB,k,a,cG,cB,if_true]
 obtain⟨i,c,j⟩:=h;simp only[j8,wanted,jk,b,Qq];exact⟨by rw[e];exact hp,v,e▸g,i,c,j⟩
end
/-! What a loop leaves alone. -/
def inR (t:Nat):List (Nat × Nat)->Bool
 | []=>false
 | (a,b)::l=>(decide (a<=t) && decide (t<=b)) || inR t l
@[simp] theorem inR_nil (t:Nat):inR t []=false:=rfl
@[simp] theorem inR_cons (t a b:Nat) (l:List (Nat × Nat)):inR t ((a,b)::l)=((decide (a<=t) && decide (t<=b)) || inR t l):=rfl
def C.ws:C->List Nat
 | .region ops|.draw ops _=>ops.filterMap (·.dst)
 | .pin o fs=>(o::fs).filterMap (·.dst)
 | .seq a b|.cond _ a b=>a.ws++b.ws
 | .block _ a|.loop a=>a.ws
 | _=>[]
def C.noRF:C->Bool
 | .rangeFunc ..=>false
 | .seq a b|.cond _ a b=>a.noRF && b.noRF
 | .block _ a|.loop a=>a.noRF
 | _=>true
structure Keeps (p:Nat->Prop) (st s:St):Prop where
 b:s.fb=st.fb
 r:s.ro=st.ro
 d:s.df=st.df
 t:∀t,¬ p t->s.tm t=st.tm t
theorem Keeps.rfl' (p:Nat->Prop) (st:St):Keeps p st st:=⟨rfl,rfl,rfl,λ_ _=>rfl⟩
theorem Keeps.trans {p q f:Nat->Prop}{a b c:St}(h:Keeps p a b) (e:Keeps q b c) (hp:∀t,p t->f t) (i:∀t,q t->f t):Keeps f a c :=
 ⟨e.b.trans h.b,e.r.trans h.r,e.d.trans h.d,λt g=>(e.t t λh=>g (i t h)).trans (h.t t λh=>g (hp t h))⟩
theorem Keeps.weak {p q:Nat->Prop}{a b:St}(h:Keeps p a b) (hp:∀t,p t->q t):Keeps q a b:=⟨h.b,h.r,h.d,λt c=>h.t t λh=>c (hp t h)⟩
theorem jos {tm:Nat->V}{d:Option Nat}{v:V}{t:Nat}(h:¬ t∈d.toList):put tm d v t=tm t:=by
 cases d with
 | none=>rfl
 | some d=>exact JG tm v (λe=>h (by simp[e]))
theorem Keeps.app {st:St}{d:Option Nat}{δ:Delta}:Keeps (·∈d.toList) st (st.app d δ):=⟨rfl,rfl,rfl,λ_ a=>jos a⟩
section
variable {E:Env}{Yf:YF}
theorem jc3 {o:AOpr}{st:St}{ub:Nat}{K:St->Nat->Prop}(a:j8 E Yf o st ub K):j8 E Yf o st ub λs u=>K s u/\Keeps (·∈o.dst.toList) st s:=by
 have call:∀ {f:FuncId}{i:List V},Qq E f i st o.dst ub K->Qq E f i st o.dst ub λs u=>K s u/\Keeps (·∈o.dst.toList) st s:=by rintro f i ⟨D,v,z,h,c,g⟩;exact⟨D,v,z,h,c,g,Keeps.app⟩
 unfold j8 at a ⊢;cases w:wanted o st.tm with
 | none=>simp only[w]at a
 | some b=>
  cases b with
  | false=>simp only[w]at a ⊢;exact⟨a,rfl,rfl,rfl,λ_ j=>jos j⟩
  | true=>
   simp only[w]at a ⊢;cases B:jk (eval E st.tm) o.op with
   | some x=>obtain⟨l,u,i⟩:=x;simp only[B]at a ⊢;obtain⟨r,y,g⟩:=a;exact⟨r,y,g,rfl,rfl,rfl,λ_ j=>jos j⟩
   | none=>
   simp only[B]at a ⊢;cases k:jB E o.nm (eval E st.tm) o.op with
   | some I=>simp only[k]at a ⊢;rcases a with⟨t,n,l,y,m,g⟩|⟨t,v,z,h,c,g⟩;exact .inl ⟨t,n,l,y,m,λr H=>⟨g r H,rfl,rfl,rfl,λ_ j=>jos j⟩⟩;exact .inr ⟨t,v,z,h,c,g,Keeps.app⟩
   | none=>
    simp only[k]at a ⊢;cases F:o.op <;> simp only[F]at a ⊢;case call f i=>exact call a
    case callV q i=>obtain⟨f,first,e,p,a⟩:=a;exact⟨f,first,e,p,call a⟩
    case nextMap x=>obtain⟨l,G,g⟩:=a;exact⟨l,G,λh c=>⟨g h c,Keeps.app⟩⟩
    all_goals
     obtain⟨h,c,g⟩:=a
     exact⟨h,c,g,Keeps.app⟩
theorem mem_ws_cons {o:AOpr}{r:List AOpr}{t:Nat}:t∈(o::r).filterMap (·.dst) ↔ t∈o.dst.toList\/t∈r.filterMap (·.dst):=by
 cases h:o.dst with
 | none=>simp[h]
 | some d=>simp[h]
theorem jej:∀ {ops:List AOpr}{st:St}{ub:Nat}{K:St->Prop},Ws E Yf ops st ub K->Ws E Yf ops st ub λs=>K s/\Keeps (·∈ops.filterMap (·.dst)) st s
 | [],st,ub,K,hk=>⟨hk,rfl,rfl,rfl,λ_ _=>rfl⟩
 | o::r,st,ub,K,hk=>by refine WS (λs u h=>?_) (jc3 hk);refine jb8 (λc b=>?_) (jej h.1);exact⟨b.1,h.2.trans b.2 (λt a=>mem_ws_cons.2 (.inl a)) (λt a=>mem_ws_cons.2 (.inr a))⟩
theorem Q0:∀ {ops:List AOpr}{st:St}{ub:Nat}{K:List FP->St->Prop},jF E ops st ub K->jF E ops st ub λf s=>K f s/\Keeps (·∈ops.filterMap (·.dst)) st s
 | [],st,ub,K,e=>⟨e,rfl,rfl,rfl,λ_ _=>rfl⟩
 | o::r,st,ub,K,e=>by
  have g:∀ {c:Delta}{f:List FP->List FP}{ub:Nat},jF E r (st.app o.dst c) ub (λfs s=>K (f fs) s)->jF E r (st.app o.dst c) ub λfs s=>K (f fs) s/\Keeps (·∈(o::r).filterMap (·.dst)) st s:=λh=>
   J7 (λf s y=>⟨y.1,Keeps.app.trans y.2 (λt w=>mem_ws_cons.2 (.inl w)) (λt w=>mem_ws_cons.2 (.inr w))⟩) (Q0 h)
  unfold jF at e ⊢;cases p:wanted o st.tm with
  | none=>simp only[p]at e
  | some b=>
   cases b with
   | false=>simp only[p]at e ⊢;exact g (f:=λfs=>{}::fs) e
   | true=>
    simp only[p]at e ⊢;cases n:jB E o.nm (eval E st.tm) o.op with
    | some F=>simp only[n]at e ⊢;rcases e with⟨k,v,m,c,a,j⟩|⟨k,u,D,v,B,m,c,a,j⟩|⟨k,u,c,a,j⟩;exact .inl ⟨k,v,m,c,a,g (f:=λfs=>{ wt:=c.wt,all:=true,seen:=λl=>(st.ob l).isSome }::fs) j⟩;exact .inr (.inl ⟨k,u,D,v,B,m,c,a,g (f:=λfs=>{ wo:=c.wo,all:=true,seen:=λl=>(st.ob l).isSome,nw:=true }::fs) j⟩);exact .inr (.inr ⟨k,u,c,a,g (f:=λfs=>{ wo:=c.wo,nw:=true }::fs) j⟩)
    | none=>
     simp only[n]at e ⊢;refine⟨e.1,?_⟩;have e:=e.2;cases z:o.op <;> simp only[z]at e ⊢;case call f xs=>obtain⟨k,v,m,c,a,j⟩:=e;exact⟨k,v,m,c,a,g (f:=λfs=>jb6 (eval E st.tm) (.call f xs) c::fs) j⟩
     case callV q xs=>obtain⟨f,first,i,x,k,v,m,c,a,j⟩:=e;exact⟨f,first,i,x,k,v,m,c,a,g (f:=λfs=>jb6 (eval E st.tm) (.callV q xs) c::fs) j⟩
     all_goals
      obtain⟨c,a,j⟩:=e
      exact⟨c,a,g (f:=λfs=>jb6 (eval E st.tm) _ c::fs) j⟩
theorem jsn:∀ {c:C},c.noRF=true->∀ {st:St}{Q:Ex->St->Prop},wpC E Yf c st Q->wpC E Yf c st λe s=>Q e s/\Keeps (·∈c.ws) st s:=by
 intro c;induction c with
 | skip=>intro _ st Q i;exact⟨i,Keeps.rfl' _ _⟩
 | ret=>intro _ st Q i;exact⟨i,Keeps.rfl' _ _⟩
 | exit id=>intro _ st Q i;exact⟨i,Keeps.rfl' _ _⟩
 | stuck=>intro _ st Q i;exact i
 | rangeFunc f I a b=>intro k;cases k
 | region y=>intro _ st Q i;exact jej i
 | draw y free=>intro _ st Q i;exact J7 (λf s h=>⟨h.1.1,h.1.2.1,h.1.2.2,h.2⟩) (Q0 i)
 | pin o fs=>intro _ st Q i;exact WS (λs u h=>J7 (λf F w=>⟨w.1.1,w.1.2,h.2.trans w.2 (λt j=>mem_ws_cons.2 (.inl j)) (λt j=>mem_ws_cons.2 (.inr j))⟩) (Q0 h.1)) (jc3 i)
 | seq a b n p=>intro k st Q i;have k:=Bool.and_eq_true_iff.1 k;rw[j2c];refine X7 (λe s g=>?_) (n k.1 i);obtain⟨g,l⟩:=g;cases e;refine X7 (λe F m=>?_) (p k.2 g);exact⟨m.1,l.trans m.2 (λt j=>aO.2 (.inl j)) (λt j=>aO.2 (.inr j))⟩;exact⟨g,l.weak (λt j=>aO.2 (.inl j))⟩;exact⟨g,l.weak (λt j=>aO.2 (.inl j))⟩
 | cond q a b n p=>
  intro k st Q i;have k:=Bool.and_eq_true_iff.1 k;obtain⟨t,j,H,G⟩:=i;exact⟨t,j,λe=>X7 (λe s g=>⟨g.1,g.2.weak (λt j=>aO.2 (.inl j))⟩) (n k.1 (H e)),
   λe=>X7 (λe s g=>⟨g.1,g.2.weak (λt j=>aO.2 (.inr j))⟩) (p k.2 (G e))⟩
 | block id a D=>intro k st Q i;rw[jpd];refine X7 (λe s g=>?_) (D k i);obtain⟨g,l⟩:=g;cases e;exact⟨g,l⟩;simp only[jle]at g ⊢;split at g;rename_i B;simp only[B,if_true];exact⟨g,l⟩;rename_i B;simp only[B,if_false];exact⟨g,l⟩;exact⟨g,l⟩
 | loop a D=>
  intro k st Q i;obtain⟨N,i⟩:=i;refine⟨N,?_⟩;have x:∀ (N:Nat) (st:St),YW (wpC E Yf a) N st Q->YW (wpC E Yf a) N st λe s=>Q e s/\Keeps (·∈a.ws) st s:=by
   intro N;induction N with
   | zero=>intro st h;exact h
   | succ N z=>intro st h;refine X7 (λe s g=>?_) (D k h);obtain⟨g,l⟩:=g;cases e;exact Qz (W:=wpC E Yf a) (λ_ _ _ h i=>X7 h i) (λe F m=>⟨m.1,l.trans m.2 (λ_ h=>h) (λ_ h=>h)⟩) (z s g);exact⟨g,l⟩;exact⟨g,l⟩
  exact x N st i
theorem Xs {a:C}{Q:Ex->St->Prop}{n:Nat}{st:St}(ws:List (Nat × Nat)) (I:Nat->St->Prop) (q:a.noRF=true) (i:(a.ws.all λt=>inR t ws)=true) (m:I n st)
 (p:∀k s,I k s->Keeps (λt=>inR t ws=true) st s->wpC E Yf a s (jvn I k Q)):wpC E Yf (.loop a) st Q:=by
 refine YN (λk s=>I k s/\Keeps (λt=>inR t ws=true) st s) (n:=n) ⟨m,Keeps.rfl' _ _⟩ λk s ⟨l,g⟩=>?_;refine X7 (λe w b=>?_) (jsn q (p k s l g));obtain⟨b,f⟩:=b;cases e;obtain⟨j,u,c⟩:=b;exact⟨j,u,c,g.trans f (λ_ h=>h) (λt o=>aw.1 i t o)⟩;exact b;exact b
def kUp (I:Nat->St->Prop) (N i:Nat) (Q:Ex->St->Prop):Ex->St->Prop:=λe s=>match e with
 | .nrm=>i<N/\I (i+1) s
 | e=>Q e s
theorem j6 {a:C}{Q:Ex->St->Prop}{st:St}(ws:List (Nat × Nat)) (N:Nat) (I:Nat->St->Prop) (o:a.noRF=true) (c:(a.ws.all λt=>inR t ws)=true) (j:I 0 st)
 (l:∀i s,i<=N->I i s->Keeps (λt=>inR t ws=true) st s->wpC E Yf a s (kUp I N i Q)):wpC E Yf (.loop a) st Q:=by
 refine Xs (n:=N) ws (λk s=>∃i,k=N - i/\i<=N/\I i s) o c ⟨0,rfl,cL _,j⟩ ?_;rintro k s ⟨i,rfl,m,g⟩ f;refine X7 (λe p b=>?_) (l i s m g f);cases e;obtain⟨q,h⟩:=b;exact⟨N - (i+1),zO,i+1,rfl,zO,h⟩;exact b;exact b
end
theorem j4v {I:Nat->St->Prop}{N i:Nat}{Q:Ex->St->Prop}{st:St}:kUp I N i Q .nrm st=(i<N/\I (i+1) st):=propext bN
theorem jzq {I:Nat->St->Prop}{N i j:Nat}{Q:Ex->St->Prop}{st:St}:kUp I N i Q (.exit j) st=Q (.exit j) st:=propext bN
theorem j4u {I:Nat->St->Prop}{N i:Nat}{Q:Ex->St->Prop}{st:St}:kUp I N i Q .ret st=Q .ret st:=propext bN
theorem juo:jup []=true:=rfl
theorem jrc (f:FP) (fs:List FP):jup (f::fs)=(!f.nw && jup fs):=rfl
theorem j5t (a:A->V) (o:AOp) (δ:Delta):(jb6 a o δ).nw=false:=rfl
theorem jm9 {fs:List FP}(h:jup fs=true):jah fs=true:=by simp only[jah,h,gi]
theorem jrw (fs:List FP):X5 [] fs=true:=rfl
section
variable {E:Env}{st:St}{ub:Nat}{K:List FP->St->Prop}{d:Option Nat}{nm:Bool}{r:List AOpr}
theorem kD_mov {x:A}:jF E (⟨d,.mov x,none,nm⟩::r) st ub K=j8 E YC ⟨d,.mov x,none,nm⟩ st ub (kDr E r (kFp { ro:=rdOb (eval E st.tm) (.mov x),rt:=rdTk (eval E st.tm) (.mov x) } K)):=X2 rfl
theorem j5a {c a b:A}:jF E (⟨d,.pick c a b,none,nm⟩::r) st ub K=j8 E YC ⟨d,.pick c a b,none,nm⟩ st ub (kDr E r (kFp { ro:=rdOb (eval E st.tm) (.pick c a b),rt:=rdTk (eval E st.tm) (.pick c a b) } K)):=X2 rfl
theorem kD_bin {op:BinOp}{x y:A}:jF E (⟨d,.bin op x y,none,nm⟩::r) st ub K=j8 E YC ⟨d,.bin op x y,none,nm⟩ st ub (kDr E r (kFp { ro:=rdOb (eval E st.tm) (.bin op x y),rt:=rdTk (eval E st.tm) (.bin op x y) } K)):=X2 rfl
theorem kD_eq {neg:Bool}{k:EqK}{x y:A}:jF E (⟨d,.eq neg k x y,none,nm⟩::r) st ub K=j8 E YC ⟨d,.eq neg k x y,none,nm⟩ st ub (kDr E r (kFp { ro:=rdOb (eval E st.tm) (.eq neg k x y),rt:=rdTk (eval E st.tm) (.eq neg k x y) } K)):=X2 rfl
theorem kD_un {op:UnOp}{x:A}:jF E (⟨d,.un op x,none,nm⟩::r) st ub K=j8 E YC ⟨d,.un op x,none,nm⟩ st ub (kDr E r (kFp { ro:=rdOb (eval E st.tm) (.un op x),rt:=rdTk (eval E st.tm) (.un op x) } K)):=X2 rfl
theorem j0f {z:List V}{ps:List (Nat × Nat × A)}:jF E (⟨d,.build z ps,none,nm⟩::r) st ub K=j8 E YC ⟨d,.build z ps,none,nm⟩ st ub (kDr E r (kFp { ro:=rdOb (eval E st.tm) (.build z ps),rt:=rdTk (eval E st.tm) (.build z ps) } K)):=X2 rfl
theorem j5d {g:Option Nat}{x:A}:jF E (⟨d,.load g x,none,nm⟩::r) st ub K=j8 E YC ⟨d,.load g x,none,nm⟩ st ub (kDr E r (kFp { ro:=rdOb (eval E st.tm) (.load g x),rt:=rdTk (eval E st.tm) (.load g x) } K)):=X2 rfl
theorem jnj {x:A}:jF E (⟨d,.nilCheck x,none,nm⟩::r) st ub K=j8 E YC ⟨d,.nilCheck x,none,nm⟩ st ub (kDr E r (kFp { ro:=rdOb (eval E st.tm) (.nilCheck x),rt:=rdTk (eval E st.tm) (.nilCheck x) } K)):=X2 rfl
theorem jlc {o:Nat}{x:A}:jF E (⟨d,.fieldAddr o x,none,nm⟩::r) st ub K=j8 E YC ⟨d,.fieldAddr o x,none,nm⟩ st ub (kDr E r (kFp { ro:=rdOb (eval E st.tm) (.fieldAddr o x),rt:=rdTk (eval E st.tm) (.fieldAddr o x) } K)):=X2 rfl
theorem j0d {sz:Nat}{x i:A}:jF E (⟨d,.idxSl sz x i,none,nm⟩::r) st ub K=j8 E YC ⟨d,.idxSl sz x i,none,nm⟩ st ub (kDr E r (kFp { ro:=rdOb (eval E st.tm) (.idxSl sz x i),rt:=rdTk (eval E st.tm) (.idxSl sz x i) } K)):=X2 rfl
theorem jvx {len sz:Nat}{x i:A}:jF E (⟨d,.idxArr len sz x i,none,nm⟩::r) st ub K=j8 E YC ⟨d,.idxArr len sz x i,none,nm⟩ st ub (kDr E r (kFp { ro:=rdOb (eval E st.tm) (.idxArr len sz x i),rt:=rdTk (eval E st.tm) (.idxArr len sz x i) } K)):=X2 rfl
theorem j5b {g:Option Nat}{o:Nat}{x:A}:jF E (⟨d,.part g o x,none,nm⟩::r) st ub K=j8 E YC ⟨d,.part g o x,none,nm⟩ st ub (kDr E r (kFp { ro:=rdOb (eval E st.tm) (.part g o x),rt:=rdTk (eval E st.tm) (.part g o x) } K)):=X2 rfl
theorem jvw {x i:A}:jF E (⟨d,.idxStr x i,none,nm⟩::r) st ub K=j8 E YC ⟨d,.idxStr x i,none,nm⟩ st ub (kDr E r (kFp { ro:=rdOb (eval E st.tm) (.idxStr x i),rt:=rdTk (eval E st.tm) (.idxStr x i) } K)):=X2 rfl
theorem j0b {x:A}{lo hi:Option A}:jF E (⟨d,.slStr x lo hi,none,nm⟩::r) st ub K=j8 E YC ⟨d,.slStr x lo hi,none,nm⟩ st ub (kDr E r (kFp { ro:=rdOb (eval E st.tm) (.slStr x lo hi),rt:=rdTk (eval E st.tm) (.slStr x lo hi) } K)):=X2 rfl
theorem j49 {sz:Nat}{x:A}{lo hi:Option A}:jF E (⟨d,.slSl sz x lo hi,none,nm⟩::r) st ub K=j8 E YC ⟨d,.slSl sz x lo hi,none,nm⟩ st ub (kDr E r (kFp { ro:=rdOb (eval E st.tm) (.slSl sz x lo hi),rt:=rdTk (eval E st.tm) (.slSl sz x lo hi) } K)):=X2 rfl
theorem jvu {x:A}:jF E (⟨d,.lenStr x,none,nm⟩::r) st ub K=j8 E YC ⟨d,.lenStr x,none,nm⟩ st ub (kDr E r (kFp { ro:=rdOb (eval E st.tm) (.lenStr x),rt:=rdTk (eval E st.tm) (.lenStr x) } K)):=X2 rfl
theorem j0c {x:A}:jF E (⟨d,.lenSl x,none,nm⟩::r) st ub K=j8 E YC ⟨d,.lenSl x,none,nm⟩ st ub (kDr E r (kFp { ro:=rdOb (eval E st.tm) (.lenSl x),rt:=rdTk (eval E st.tm) (.lenSl x) } K)):=X2 rfl
theorem jvv {x:A}:jF E (⟨d,.lenMap x,none,nm⟩::r) st ub K=j8 E YC ⟨d,.lenMap x,none,nm⟩ st ub (kDr E r (kFp { ro:=rdOb (eval E st.tm) (.lenMap x),rt:=rdTk (eval E st.tm) (.lenMap x) } K)):=X2 rfl
theorem jrn {x:A}{i:Nat}:jF E (⟨d,.extract x i,none,nm⟩::r) st ub K=j8 E YC ⟨d,.extract x i,none,nm⟩ st ub (kDr E r (kFp { ro:=rdOb (eval E st.tm) (.extract x i),rt:=rdTk (eval E st.tm) (.extract x i) } K)):=X2 rfl
theorem j5c {f:Fn}{a b:List A}:jF E (⟨d,.mkFn f a b,none,nm⟩::r) st ub K=j8 E YC ⟨d,.mkFn f a b,none,nm⟩ st ub (kDr E r (kFp { ro:=rdOb (eval E st.tm) (.mkFn f a b),rt:=rdTk (eval E st.tm) (.mkFn f a b) } K)):=X2 rfl
theorem jvt {q:LK}{z:V}{a:Bool}{m k:A}:jF E (⟨d,.lookup q z a m k,none,nm⟩::r) st ub K=j8 E YC ⟨d,.lookup q z a m k,none,nm⟩ st ub (kDr E r (kFp { ro:=rdOb (eval E st.tm) (.lookup q z a m k),rt:=rdTk (eval E st.tm) (.lookup q z a m k) } K)):=X2 rfl
theorem j5e {k:IntKind}{x:A}:jF E (⟨d,.conv k x,none,nm⟩::r) st ub K=j8 E YC ⟨d,.conv k x,none,nm⟩ st ub (kDr E r (kFp { ro:=rdOb (eval E st.tm) (.conv k x),rt:=rdTk (eval E st.tm) (.conv k x) } K)):=X2 rfl
theorem jvs {b:Bool}{xs:List A}:jF E (⟨d,.minmax b xs,none,nm⟩::r) st ub K=j8 E YC ⟨d,.minmax b xs,none,nm⟩ st ub (kDr E r (kFp { ro:=rdOb (eval E st.tm) (.minmax b xs),rt:=rdTk (eval E st.tm) (.minmax b xs) } K)):=X2 rfl
end
attribute [simp ↓] kC_pin jz4 j43 j5j j47 jvq j0a j0g kD_box kD_mov j5a kD_bin kD_eq kD_un j0f j5d jnj jlc j0d jvx j5b jvw j0b j49 jvu j0c jvv jrn j5c jvt j5e jvs
attribute [simp ↓] j48 j46 j5f jld jco j5g jvy j4v jzq j4u
attribute [simp] jta jqp j03 jrw juo jrc j5t jm9
def kL (E:Env) (Yf:YF) (a:C) (n:Nat) (Q:Ex->St->Prop):Ex->St->Prop:=λe s=>match e with
 | .nrm=>YW (wpC E Yf a) n s Q
 | e=>Q e s
section
variable {E:Env}{Yf:YF}{a:C}{Q:Ex->St->Prop}{s:St}{n:Nat}
theorem kL_nrm:kL E Yf a n Q .nrm s=YW (wpC E Yf a) n s Q:=propext bN
theorem j44 {i:Nat}:kL E Yf a n Q (.exit i) s=Q (.exit i) s:=propext bN
theorem kL_ret:kL E Yf a n Q .ret s=Q .ret s:=propext bN
theorem jxn:YW (wpC E Yf a) 1 s Q=wpC E Yf a s (kL E Yf a 0 Q):=propext bN
theorem jxm:YW (wpC E Yf a) 2 s Q=wpC E Yf a s (kL E Yf a 1 Q):=propext bN
theorem jxl:YW (wpC E Yf a) 3 s Q=wpC E Yf a s (kL E Yf a 2 Q):=propext bN
theorem jxk:YW (wpC E Yf a) 4 s Q=wpC E Yf a s (kL E Yf a 3 Q):=propext bN
theorem jeh (n:Nat) (h:YW (wpC E Yf a) n s Q):wpC E Yf (.loop a) s Q:=⟨n,h⟩
end
def j25 (k:List UInt8->Prop):V->Prop
 | .str s=>k s
 | _=>False
@[simp] theorem j7m (k:List UInt8->Prop) (s:List UInt8):j25 k (.str s)=k s:=rfl
def MP {α:Type}(f:α->V) (m:List (Int × α)):List (V × V):=m.map λp=>(.int .i64 p.1,f p.2)
def Jd {α:Type}:List (Int × α)->Int->Option (Nat × α)
 | [],_=>none
 | (k',a)::m,k=>if k=k' then some (0,a) else (Jd m k).map λp=>(p.1+1,p.2)
def jjo {α:Type}(m:List (Int × α)) (k:Int) (a:α):List (Int × α):=match Jd m k with
 | some (i,_)=>m.set i (k,a)
 | none=>m++[(k,a)]
theorem jct {b:Type}(f:b->V) (k:Int):∀m:List (Int × b),findKey .int (.int .i64 k) (MP f m)=some ((Jd m k).map λp=>(p.1,f p.2))
 | []=>rfl
 | (k',a)::m=>by have c:=jct f k m;unfold MP at c ⊢;simp only[bt,findKey,Wu,if_true,Jd];by_cases h:k=k';simp[h];rw[if_neg h,show(k == k')=false by simpa using h];simp only[c,aU,Option.map_map];rfl
@[simp] theorem MP_length {b:Type}(f:b->V) (m:List (Int × b)):(MP f m).length=m.length:=by simp[MP]
def j0l (n:Int):V:=.int .i64 n
def j7b (m:List (Int × Int)) (k:Int):Int:=((Jd m k).map (·.2)).getD 0
theorem jhr {c:Type}{f:c->V}{ob:ZO}{l u:Nat}{z:V}{b:Bool}{k:Int}(m:List (Int × c)) (h:jn ob l u=some (MP f m)) :
 jak ob .int z b (.map l u) (.int .i64 k)=some (match Jd m k with|some p=>if b then .tup [f p.2,.bool true] else f p.2|none=>if b then .tup [z,.bool false] else z):=by
 simp only[jak,jbs,if_true,h,am,jct,aU];cases Jd m k <;> rfl
theorem jhs {ob:ZO}{l u:Nat}{k:Int}(m:List (Int × Int)) (h:jn ob l u=some (MP j0l m)):jak ob .int (.int .i64 0) false (.map l u) (.int .i64 k)=some (.int .i64 (j7b m k)):=by rw[jhr m h,j7b];cases Jd m k <;> rfl
section
variable {E:Env}{Yf:YF}{st:St}{ub:Nat}{K:St->Nat->Prop}{d:Option Nat}{nm:Bool}
theorem jne {x:A}:j8 E Yf ⟨d,.range true x,none,nm⟩ st ub K=j25 (λs=>WR K st d ub { v:=.iter (jH d nm st.fb ub) ub,obs:=[(jH d nm st.fb ub,⟨ub,.siter s 0⟩)] }) (eval E st.tm x):=by rw[jN _ rfl rfl];simp only[aop,Jx];cases eval E st.tm x <;> simp only[jat,j25,Jj,jM];rfl
theorem jrj {x:A}{l u pos:Nat}{s:List UInt8}(g:eval E st.tm x=.iter l u) (c:st.ob l=some ⟨u,.siter s pos⟩) (b:st.ro<=u)
 (f:pos<s.length->WR K st d ub { v:=.tup [.bool true,.int .i64 pos,.int .i32 ((Utf8.decode ⟨s.toArray⟩ pos).1:Nat)],obs:=[(l,⟨u,.siter s (pos+(Utf8.decode ⟨s.toArray⟩ pos).2)⟩)] })
 (e:¬ pos<s.length->jal K st d ub (.tup [.bool false])):j8 E Yf ⟨d,.nextStr x,none,nm⟩ st ub K:=by
 rw[jN _ rfl rfl];simp only[aop,g,c];rw[if_pos (by simpa using b)];by_cases h:pos<s.length;rw[if_pos h,jM];exact f h;rw[if_neg h,WU,jar];exact e h
theorem jzv:j8 E Yf ⟨d,.mkMap,none,nm⟩ st ub K=WR K st d ub { v:=.map (jH d nm st.fb ub) ub,obs:=[(jH d nm st.fb ub,⟨ub,.mp 0 []⟩)] }:=by rw[jN _ rfl rfl];simp only[aop,Jj,jM,Jx];rfl
theorem jbp {c:Type}{f:c->V}{x y z:A}{l u ver:Nat}{k:Int}{a:c}(m:List (Int × c)) (q:eval E st.tm x=.map l u) (r:eval E st.tm y=.int .i64 k) (t:(eval E st.tm z).strip=f a)
 (o:st.ob l=some ⟨u,.mp ver (MP f m)⟩) (g:st.ro<=u) (h:WR K st d ub { v:=ju,obs:=[(l,⟨u,.mp (ver+1) (MP f (jjo m k a))⟩)] }):j8 E Yf ⟨d,.mapSet .int x y z,none,nm⟩ st ub K:=by
 have i:jn st.ob l u=some (MP f m):=by simp[jn,o]
 have b:jq st.ob l=ver:=by simp[jq,o]
 rw[jN _ rfl rfl];simp only[aop,q,r,jbs,if_true,i,am,jct,b,t];rw[if_pos (by simpa using g)];unfold jjo at h;cases j:Jd m k with
 | none=>rw[j]at h;simp only[ee,jM];simpa[MP] using h
 | some p=>
  rw[j]at h;simp only[aU,jM];have e:(MP f m).set p.1 (V.int .i64 k,f a)=MP f (m.set p.1 (k,a)):=by simp[MP,dM]
  rw[e];exact h
end
attribute [simp ↓] kL_nrm j44 kL_ret jxn jxm jxl jxk jne jzv
@[simp] theorem j4q (ob:ZO) (l u:Nat):ji3 ob (.map l u)=(jn ob l u).map λb=>.int .i64 b.length:=rfl
def jgt (l:List Int) (k:Int):List Int:=if k∈l then l else l++[k]
def dd (l:List Int):List Int:=l.foldl jgt []
theorem jwm (l:List Int) (k:Int):dd (l++[k])=jgt (dd l) k:=by simp[dd]
theorem mfind_none {c:Type}{m:List (Int × c)}{k:Int}:Jd m k=none ↔ k ∉ m.map (·.1):=by
 induction m with
 | nil=>simp[Jd]
 | cons p m b=>obtain⟨e,a⟩:=p;by_cases h:k=e;simp[Jd,h];simp[Jd,h,b]
theorem jre {e:Type}{m:List (Int × e)}{k:Int}{i:Nat}{a:e}(h:Jd m k=some (i,a)):∃r:i<m.length,m[i]=(k,a):=by
 induction m generalizing i with
 | nil=>cases h
 | cons p m l=>obtain⟨q,t⟩:=p;by_cases c:k=q;simp only[Jd,c,if_true,ab,bW]at h;obtain⟨rfl,rfl⟩:=h;exact⟨zS,by simp[c]⟩;simp only[Jd,c,if_false,bg,bW]at h;obtain⟨⟨j,b⟩,g,rfl,rfl⟩:=h;obtain⟨o,f⟩:=l g;exact⟨by simpa using o,by simpa using f⟩
theorem jk1 {f:Type}(m:List (Int × f)) (k:Int) (a:f):(jjo m k a).map (·.1)=jgt (m.map (·.1)) k:=by
 unfold jjo jgt;cases h:Jd m k with
 | none=>rw[if_neg (mfind_none.1 h)];simp
 | some p=>obtain⟨i,b⟩:=p;obtain⟨l,g⟩:=jre h;have c:k∈m.map (·.1):=aJ.2 ⟨_,av l,by rw[g]⟩;rw[if_pos c,dM];apply dJ zS;intro j q o;simp only[gt,List.getElem_map];split;rename_i e;subst e;rw[g];rfl
theorem jux {l:List Int}{k x:Int}:x∈jgt l k ↔ x∈l\/x=k:=by unfold jgt;split;constructor;exact .inl;rintro(h|rfl) <;> assumption;simp
theorem mem_dd {l:List Int}{x:Int}:x∈dd l ↔ x∈l:=by
 have c:∀ (l b:List Int),x∈l.foldl jgt b ↔ x∈b\/x∈l:=by
  intro l;induction l with
  | nil=>intro b;simp
  | cons a l e=>intro b;simp only[dO,e,jux,br,or_assoc]
 simpa[dd] using c l []
theorem jm6 {l:List Int}{k:Int}(h:l.Nodup):(jgt l k).Nodup:=by unfold jgt;split;exact h;rename_i f;rw[di];refine⟨h,zS,?_⟩;intro a g b c e;simp only[ae]at c;subst c;subst e;exact f g
theorem jy9 (l:List Int):(dd l).Nodup:=by
 have c:∀ (l b:List Int),b.Nodup->(l.foldl jgt b).Nodup:=by
  intro l;induction l with
  | nil=>intro b h;exact h
  | cons a l e=>intro b h;exact e _ (jm6 h)
 exact c l [] dS
theorem j1y:∀ (n:Nat) (l:List Int),l.Nodup->(∀x∈l,0<=x/\x<n)->l.length<=n/\(l.length=n ↔ ∀k:Nat,k<n->(k:Int)∈l)
 | 0,l,hn,hb=>by
  have:l=[]:=by
   cases l with
   | nil=>rfl
   | cons a l=>have:=hb a zS;omega
  subst this;simp
 | n+1,l,hn,hb=>by
  have g:(l.erase (n:Int)).Nodup:=hn.erase _;have i:∀x∈l.erase (n:Int),0<=x/\x<n:=λx o=>by
   have m:=hb x (List.mem_of_mem_erase o);have f:x≠n:=λe=>by subst e;exact(List.Nodup.not_mem_erase hn) o
   omega
  obtain⟨m,f⟩:=j1y n _ g i;by_cases c:(n:Int)∈l;have q:=List.length_erase_of_mem c;have p:0<l.length:=List.length_pos_of_mem c;refine⟨zO,?_⟩;constructor;intro e k j;rcases aQ.1 j with h|rfl;exact List.mem_of_mem_erase (f.1 zO k h);exact c;intro b;have:=f.2 (λk j=>(List.Nodup.mem_erase_iff hn).2 ⟨zO,b k zO⟩);omega;rw[List.erase_of_not_mem c]at m f;refine⟨zO,?_⟩;constructor;intro e;omega;intro b;exact absurd (b n zO) c
end Go.Pv
namespace Go.Pv.T
open Go Go.Pv
def jR (n b0 b1 b2 b3:Nat):Nat × Nat :=
 if b0<128 then (1,b0)
 else if 194<=b0/\b0<=223 then (if n<2\/b1<128\/191<b1 then (1,65533) else (2,64*(b0 - 192)+b1 - 128))
 else if 224<=b0/\b0<=239 then (if n<3\/b1<128\/191<b1\/b2<128\/191<b2 then (1,65533) else
  if 64*(64*(b0 - 224)+b1 - 128)+b2 - 128<2048\/55296<=64*(64*(b0 - 224)+b1 - 128)+b2 - 128/\64*(64*(b0 - 224)+b1 - 128)+b2 - 128<=57343 then (1,65533) else (3,64*(64*(b0 - 224)+b1 - 128)+b2 - 128))
 else if 240<=b0/\b0<=244 then (if n<4\/b1<128\/191<b1\/b2<128\/191<b2\/b3<128\/191<b3 then (1,65533) else
  if 64*(64*(64*(b0 - 240)+b1 - 128)+b2 - 128)+b3 - 128<65536\/1114111<64*(64*(64*(b0 - 240)+b1 - 128)+b2 - 128)+b3 - 128 then (1,65533) else (4,64*(64*(64*(b0 - 240)+b1 - 128)+b2 - 128)+b3 - 128))
 else (1,65533)
theorem jtm (n a b1 b2 b3:Nat) (_:1<=n) (d:a<256) (c:b1<256) (b:b2<256) (e:b3<256):jR n a b1 b2 b3=((Lib.decodeN n a b1 b2 b3).2,(Lib.decodeN n a b1 b2 b3).1):=by
 unfold jR Lib.decodeN;repeat' split
 all_goals first|(exfalso;omega)|(apply Prod.ext <;> simp only <;> omega)
theorem dlt_t {a b:Int}(h:a<b):decide (a<b)=true:=decide_eq_true h
theorem jrx {a b:Int}(h:b<=a):decide (a<b)=false:=decide_eq_false zO
theorem jry {a b:Int}(h:a<=b):decide (a<=b)=true:=decide_eq_true h
theorem jgs {a b:Int}(h:b<a):decide (a<=b)=false:=decide_eq_false zO
theorem Y5 {s:List UInt8}{i:Nat}{x:Int}(kk:IntKind) (h:i<s.length) (a:x=(i:Int)):QK (.str s) (.int kk x)=some (.int .u8 ((s.getD i 0).toNat:Nat)):=by subst a;simp[QK,aa h,List.getD]
theorem ev273 (s:List UInt8) (T:s.length<=1000000) (p:Nat) (h:p<s.length):Ev E 273 [.str s,.int .i64 p]
 (.tup [.int .i64 ((jR (s.length - p) (s.getD p 0).toNat (s.getD (p+1) 0).toNat (s.getD (p+2) 0).toNat (s.getD (p+3) 0).toNat).1:Nat),
  .int .i64 ((jR (s.length - p) (s.getD p 0).toNat (s.getD (p+1) 0).toNat (s.getD (p+2) 0).toNat (s.getD (p+3) 0).toNat).2:Nat)]):=by
 have L:=Y5 (s:=s) (x:=(p:Int)) .i64 h rfl;have b:p+1<s.length->_:=λh=>Y5 (s:=s) (x:=(p:Int)+1) .i64 h zS;have e:p+2<s.length->_:=λh=>Y5 (s:=s) (x:=(p:Int)+2) .i64 h zS;have n:p+3<s.length->_:=λh=>Y5 (s:=s) (x:=(p:Int)+3) .i64 h zS;have P:=(s.getD p 0).toNat_lt;have U:=(s.getD (p+1) 0).toNat_lt;have X:=(s.getD (p+2) 0).toNat_lt;have O:=(s.getD (p+3) 0).toNat_lt;generalize (s.getD p 0).toNat=d at *;generalize (s.getD (p+1) 0).toNat=i at *;generalize (s.getD (p+2) 0).toNat=k at *;generalize (s.getD (p+3) 0).toNat=r at *;have M:IntKind.i64.wrap (d:Int)=d:=jX zO zO;have Q:IntKind.i64.wrap (i:Int)=i:=jX zO zO;have Z:IntKind.i64.wrap (k:Int)=k:=jX zO zO;have S:IntKind.i64.wrap (r:Int)=r:=jX zO zO;refine jS (af:=F273) rfl ?_;conv in (occs := *) F273=> all_goals cbv
 simp[F273,L,XN,M];by_cases a1:(d:Int)<128;simp[a1];exact JY rfl (by simp[jR,show d<128 by omega]) (by simp[jR,show d<128 by omega]) rfl rfl;have a:∀x:Int,-1000000000<=x->x<=1000000000->IntKind.i64.wrap x=x:=λx h N=>jX zO zO;by_cases J:194<=(d:Int)/\(d:Int)<=223
 ·obtain⟨F,w⟩:=J;by_cases m:(s.length:Int)<(p:Int)+2
  ·simp(disch:=omega) [a1,F,w,m,a,jgs,aD]
   exact JY     rfl (by simp;unfold jR    ;repeat' split
                        all_goals omega) (by simp;unfold jR    ;repeat' split
                                             all_goals omega) rfl rfl
  have b:=b zO;simp(disch:=omega) [a1,F,w,m,a,jgs,aD];refine jeh 2 ?_;by_cases c:(i:Int)<128
  ·simp(disch:=omega) [b,c,a,XN,aD]
   exact JY     rfl (by simp;unfold jR    ;repeat' split
                        all_goals omega) (by simp;unfold jR    ;repeat' split
                                             all_goals omega) rfl rfl
  by_cases u:191<(i:Int)
  ·simp(disch:=omega) [b,c,u,a,XN,aD]
   exact JY     rfl (by simp;unfold jR    ;repeat' split
                        all_goals omega) (by simp;unfold jR    ;repeat' split
                                             all_goals omega) rfl rfl
  simp(disch:=omega) [b,c,u,a,XN,aD,jrx,jgs]
  exact JY     rfl (by simp;unfold jR    ;repeat' split
                       all_goals omega) (by simp;unfold jR    ;repeat' split
                                            all_goals omega) rfl rfl
 by_cases I:224<=(d:Int)/\(d:Int)<=239
 ·obtain⟨t,B⟩:=I;by_cases m:(s.length:Int)<(p:Int)+3
  ·simp(disch:=omega) [a1,t,B,m,a,jry,jgs,aD]
   exact JY     rfl (by simp;unfold jR    ;repeat' split
                        all_goals omega) (by simp;unfold jR    ;repeat' split
                                             all_goals omega) rfl rfl
  have b:=b zO;have e:=e zO;simp(disch:=omega) [a1,t,B,m,a,jry,jgs,aD];refine jeh 3 ?_;by_cases c:(i:Int)<128
  ·simp(disch:=omega) [b,c,a,XN,aD]
   exact JY     rfl (by simp;unfold jR    ;repeat' split
                        all_goals omega) (by simp;unfold jR    ;repeat' split
                                             all_goals omega) rfl rfl
  by_cases f:191<(i:Int)
  ·simp(disch:=omega) [b,c,f,a,XN,aD]
   exact JY     rfl (by simp;unfold jR    ;repeat' split
                        all_goals omega) (by simp;unfold jR    ;repeat' split
                                             all_goals omega) rfl rfl
  by_cases g:(k:Int)<128
  ·simp(disch:=omega) [b,e,c,f,g,a,XN,aD]
   exact JY     rfl (by simp;unfold jR    ;repeat' split
                        all_goals omega) (by simp;unfold jR    ;repeat' split
                                             all_goals omega) rfl rfl
  by_cases j:191<(k:Int)
  ·simp(disch:=omega) [b,e,c,f,g,j,a,XN,aD]
   exact JY     rfl (by simp;unfold jR    ;repeat' split
                        all_goals omega) (by simp;unfold jR    ;repeat' split
                                             all_goals omega) rfl rfl
  by_cases l:64*(64*((d:Int) - 224)+i - 128)+k - 128<2048
  ·simp(disch:=omega) [b,e,c,f,g,j,l,a,XN,aD]
   exact JY     rfl (by simp;unfold jR    ;repeat' split
                        all_goals omega) (by simp;unfold jR    ;repeat' split
                                             all_goals omega) rfl rfl
  by_cases o:55296<=64*(64*((d:Int) - 224)+i - 128)+k - 128
  ·by_cases H:64*(64*((d:Int) - 224)+i - 128)+k - 128<=57343
   ·simp(disch:=omega) [b,e,c,f,g,j,l,o,H,a,jrx,XN,aD]
    exact JY     rfl (by simp;unfold jR    ;repeat' split
                         all_goals omega) (by simp;unfold jR    ;repeat' split
                                              all_goals omega) rfl rfl
   simp(disch:=omega) [b,e,c,f,g,j,l,o,H,a,jrx,XN,aD]
   exact JY     rfl (by simp;unfold jR    ;repeat' split
                        all_goals omega) (by simp;unfold jR    ;repeat' split
                                             all_goals omega) rfl rfl
  simp(disch:=omega) [b,e,c,f,g,j,l,o,a,jrx,XN,aD]
  exact JY     rfl (by simp;unfold jR    ;repeat' split
                       all_goals omega) (by simp;unfold jR    ;repeat' split
                                            all_goals omega) rfl rfl
 by_cases K:240<=(d:Int)/\(d:Int)<=244
 ·obtain⟨z,y⟩:=K;by_cases m:(s.length:Int)<(p:Int)+4
  ·simp(disch:=omega) [a1,z,y,m,a,jry,jgs,aD]
   exact JY     rfl (by simp;unfold jR    ;repeat' split
                        all_goals omega) (by simp;unfold jR    ;repeat' split
                                             all_goals omega) rfl rfl
  have b:=b zO;have e:=e zO;have n:=n zO;simp(disch:=omega) [a1,z,y,m,a,jry,jgs,aD];refine jeh 4 ?_;by_cases c:(i:Int)<128
  ·simp(disch:=omega) [b,c,a,XN,aD]
   exact JY     rfl (by simp;unfold jR    ;repeat' split
                        all_goals omega) (by simp;unfold jR    ;repeat' split
                                             all_goals omega) rfl rfl
  by_cases f:191<(i:Int)
  ·simp(disch:=omega) [b,c,f,a,XN,aD]
   exact JY     rfl (by simp;unfold jR    ;repeat' split
                        all_goals omega) (by simp;unfold jR    ;repeat' split
                                             all_goals omega) rfl rfl
  by_cases g:(k:Int)<128
  ·simp(disch:=omega) [b,e,c,f,g,a,XN,aD]
   exact JY     rfl (by simp;unfold jR    ;repeat' split
                        all_goals omega) (by simp;unfold jR    ;repeat' split
                                             all_goals omega) rfl rfl
  by_cases j:191<(k:Int)
  ·simp(disch:=omega) [b,e,c,f,g,j,a,XN,aD]
   exact JY     rfl (by simp;unfold jR    ;repeat' split
                        all_goals omega) (by simp;unfold jR    ;repeat' split
                                             all_goals omega) rfl rfl
  by_cases D:(r:Int)<128
  ·simp(disch:=omega) [b,e,n,c,f,g,j,D,a,XN,aD]
   exact JY     rfl (by simp;unfold jR    ;repeat' split
                        all_goals omega) (by simp;unfold jR    ;repeat' split
                                             all_goals omega) rfl rfl
  by_cases G:191<(r:Int)
  ·simp(disch:=omega) [b,e,n,c,f,g,j,D,G,a,XN,aD]
   exact JY     rfl (by simp;unfold jR    ;repeat' split
                        all_goals omega) (by simp;unfold jR    ;repeat' split
                                             all_goals omega) rfl rfl
  by_cases l:64*(64*(64*((d:Int) - 240)+i - 128)+k - 128)+r - 128<65536
  ·simp(disch:=omega) [b,e,n,c,f,g,j,D,G,l,a,XN,aD]
   exact JY     rfl (by simp;unfold jR    ;repeat' split
                        all_goals omega) (by simp;unfold jR    ;repeat' split
                                             all_goals omega) rfl rfl
  by_cases o:1114111<64*(64*(64*((d:Int) - 240)+i - 128)+k - 128)+r - 128
  ·simp(disch:=omega) [b,e,n,c,f,g,j,D,G,l,o,a,XN,aD]
   exact JY     rfl (by simp;unfold jR    ;repeat' split
                        all_goals omega) (by simp;unfold jR    ;repeat' split
                                             all_goals omega) rfl rfl
  simp(disch:=omega) [b,e,n,c,f,g,j,D,G,l,o,a,jry,jgs,XN,aD]
  exact JY     rfl (by simp;unfold jR    ;repeat' split
                       all_goals omega) (by simp;unfold jR    ;repeat' split
                                            all_goals omega) rfl rfl
 have q:d<194\/244<d:=zO;rcases q with q|q
 ·simp(disch:=omega) [a1,jgs]
  exact JY     rfl (by simp;unfold jR    ;repeat' split
                       all_goals omega) (by simp;unfold jR    ;repeat' split
                                            all_goals omega) rfl rfl
 ·simp(disch:=omega) [a1,jry,jgs]
  exact JY     rfl (by simp;unfold jR    ;repeat' split
                       all_goals omega) (by simp;unfold jR    ;repeat' split
                                            all_goals omega) rfl rfl
@[simp] theorem j7v (s:List UInt8):(V.str s).strip=.str s:=rfl
@[simp] theorem j3j (s:List UInt8):(V.str s).pureTop=true:=rfl
@[simp] theorem j1r (s:List UInt8):(V.str s).pureLeaf=true:=rfl
@[simp] theorem sl_strip (t:Option (Nat × Nat)) (nl:Bool) (n:Nat) (cs:List V):(V.sl t nl n cs).strip=.sl none nl n cs:=rfl
@[simp] theorem j74 (t:Option (Nat × Nat)) (nl:Bool) (n:Nat) (cs:List V):(V.sl t nl n cs).strip1=.sl none nl n cs:=rfl
@[simp] theorem j67 (nl:Bool) (n:Nat) (cs:List V):(V.sl none nl n cs).pureTop=true:=rfl
@[simp] theorem j3l (nl:Bool) (n:Nat) (cs:List V):(V.sl none nl n cs).pureLeaf=true:=rfl
def rU (s:List UInt8) (p:Nat):Nat:=(Utf8.decode ⟨s.toArray⟩ p).1
def rW (s:List UInt8) (p:Nat):Nat:=(Utf8.decode ⟨s.toArray⟩ p).2
theorem jt9 {s:List UInt8}{p:Nat}(h:p<s.length):jR (s.length - p) (s.getD p 0).toNat (s.getD (p+1) 0).toNat (s.getD (p+2) 0).toNat (s.getD (p+3) 0).toNat=(rW s p,rU s p):=by rw[jtm _ _ _ _ _ zO (s.getD p 0).toNat_lt (s.getD (p+1) 0).toNat_lt (s.getD (p+2) 0).toNat_lt (s.getD (p+3) 0).toNat_lt];unfold rW rU;rw[Lib.decode_N]
theorem one_w (n a b1 b2 b3:Nat) (b:1<=n):1<=(jR n a b1 b2 b3).1/\(jR n a b1 b2 b3).1<=n:=by
 unfold jR;repeat' split
 all_goals (simp only;omega)
theorem j39 (n a b1 b2 b3:Nat) (b:b1<256) (_:b2<256) (h:(jR n a b1 b2 b3).2=65533):(jR n a b1 b2 b3).1=1\/(jR n a b1 b2 b3).1=3:=by
 revert h;unfold jR;repeat' split
 all_goals (intro h;simp at h ⊢;try omega)
theorem jki {s:List UInt8}{p:Nat}(h:p<s.length):1<=rW s p/\p+rW s p<=s.length:=by have:=one_w (s.length - p) (s.getD p 0).toNat (s.getD (p+1) 0).toNat (s.getD (p+2) 0).toNat (s.getD (p+3) 0).toNat zO;rw[jt9 h]at this;simp only at this;omega
theorem j8g {s:List UInt8}{p:Nat}(h:p<s.length) (a:rU s p=65533):rW s p=1\/rW s p=3:=by have:=j39 (s.length - p) (s.getD p 0).toNat (s.getD (p+1) 0).toNat (s.getD (p+2) 0).toNat (s.getD (p+3) 0).toNat (s.getD (p+1) 0).toNat_lt (s.getD (p+2) 0).toNat_lt;rw[jt9 h]at this;exact this a
def RN (s:List UInt8) (p:Nat):List Int:=(XQ s (s.length - p) p).map λr=>((r:Nat):Int)
theorem jex (s:List UInt8):JJ s=RN s 0:=rfl
theorem jew (s:List UInt8):∀ (b c p:Nat),s.length<=p+b->s.length<=p+c->XQ s b p=XQ s c p
 | 0,0,_,_,_=>rfl
 | 0,c+1,p,h,_=>by unfold XQ;rw[if_neg zO]
 | b+1,0,p,_,h=>by unfold XQ;rw[if_neg zO]
 | b+1,c+1,p,h,h'=>by unfold XQ;by_cases a:p<s.length;rw[if_pos a,if_pos a];have:=(jki a).1;unfold rW at this;rw[jew s b c _ zO zO];rw[if_neg a,if_neg a]
theorem jw3 {s:List UInt8}{p:Nat}(h:p<s.length):RN s p=(rU s p:Int)::RN s (p+rW s p):=by
 have a:=jki h;unfold RN;obtain⟨n,b⟩:∃n,s.length - p=n+1:=⟨s.length - p - 1,zO⟩;rw[b];conv=>lhs;unfold XQ
 rw[if_pos h,bt];congr 2;exact jew s _ _ _ (by unfold rW at a;omega) (by unfold rW at a ⊢;omega)
theorem j20 {s:List UInt8}{p:Nat}(h:s.length<=p):RN s p=[]:=by unfold RN;rw[show s.length - p=0 by omega];rfl
theorem jg5 (s:List UInt8):∀ (b p:Nat),(XQ s b p).length<=b
 | 0,_=>dr _
 | b+1,p=>by unfold XQ;split;have:=jg5 s b (p+(Utf8.decode ⟨s.toArray⟩ p).2);simp only[bo];omega;simp
theorem YR (s:List UInt8):(JJ s).length<=s.length:=by rw[jex,RN,bC];exact jg5 s _ _
def VD (s:List UInt8) (p:Nat):Bool:=Lib.validD (s.drop p)
theorem j07 (s:List UInt8) (p:Nat):Lib.decodeL (s.drop p)=(rU s p,rW s p):=Lib.decodeL_drop ⟨s.toArray⟩ p
theorem j6w {s:List UInt8}{p:Nat}(h:p<s.length):VD s p=if rU s p=65533/\rW s p=1 then false else VD s (p+rW s p):=by
 have a:s.drop p≠[]:=λe=>by have:=congrArg List.length e;rw[ba]at this;simp at this;omega
 unfold VD;rw[Lib.validD_step _ a,j07];simp only[dK]
theorem VD_end {s:List UInt8}{p:Nat}(h:s.length<=p):VD s p=true:=by unfold VD;rw[bS h];rfl
theorem j2s (s:List UInt8) (a:s.length<=1000000) (p:Nat) (h:p<s.length):Ev E 273 [.str s,.int .i64 p] (.tup [.int .i64 (rW s p:Nat),.int .i64 (rU s p:Nat)]):=by have:=ev273 s a p h;rw[jt9 h]at this;exact this
theorem j54 (s:List UInt8) (m:s.length<=1000000):Ev E 234 [.str s] (.sl (some (0,1)) false (JJ s).length ((JJ s).flatMap intC)):=by
 refine jS (af:=F234) rfl ?_;conv in (occs := *) F234=> all_goals cbv
 simp[F234];refine jG (cs:=[]) rfl rfl rfl ?_;simp;refine Xs (n:=s.length) [(3,24)] (λk e=>∃p u a,k=s.length - p/\p<=s.length/\e.tm 4=.int .i64 (p:Nat)/\JJ s=a++RN s p/\e.tm 3=.sl (some (u,1)) false a.length (a.flatMap intC)/\e.tk u=true) rfl rfl
  ⟨0,64,[],by simp[jex]⟩ ?_
 rintro k e ⟨p,u,a,rfl,r,g,b,i,h⟩ f;have j:e.tm 0=.str s:=by rw[f.t 0 zS];simp
 have l:a.length<=1000000:=by have o:=congrArg List.length b;have w:=YR s;rw[au]at o;omega
 by_cases c:p<s.length;have q:=jki c;simp[g,j,c];refine jJ (j2s s m p c) zS rfl rfl ?_;simp[i];refine jG (cs:=[.int .i64 (rU s p)]) (by simp[j2]) rfl rfl ?_;simp;refine J1 (u:=u) (nl:=false) (n:=a.length) (cs:=a.flatMap intC) (ys:=[.int .i64 (rU s p)]) zS (by simp[ji,h]) (by simp[slCells]) zS (by rw[j3 j9]) zQ rfl (by simp;omega) (by simp;omega) ?_;simp[g];refine⟨s.length - (p+rW s p),zO,p+rW s p,zO,zO,by rw[jX zO zO];simp,_,a++[(rU s p:Int)],?_,?_,Or.inl rfl⟩;rw[b,jw3 c];simp;simp[intC];have:p=s.length:=zO;subst this;simp[g,j];rw[j20 zK,aS]at b;exact QO (u:=u) (by simp[f.d]) (by simp[i,b]) (by simpa using h)
theorem ev236 (s:List UInt8) (j:s.length<=1000000):Ev E 236 [.str s] (.bool (Lib.validD s)):=by
 refine jS (af:=F236) rfl ?_;conv in (occs := *) F236=> all_goals cbv
 simp[F236];refine Xs (n:=s.length) [(2,24)] (λk h=>∃p,k=s.length - p/\p<=s.length/\h.tm 3=.int .i64 (p:Nat)/\Lib.validD s=VD s p) rfl rfl
  ⟨0,by simp[VD]⟩ ?_
 rintro k h ⟨p,rfl,m,c,b⟩ f;have i:h.tm 0=.str s:=by rw[f.t 0 zS];simp
 by_cases a:p<s.length;have l:=jki a;rw[j6w a]at b;simp[c,i,a];refine jJ (j2s s j p a) zS rfl rfl ?_;by_cases e:rU s p=65533;rcases j8g a e with h1|h1;rw[if_pos ⟨e,h1⟩]at b;simp[e,h1];exact j4 (by simp[f.d]) (by simp[b]) rfl;rw[if_neg zO]at b;simp[e,h1,c];exact⟨s.length - (p+3),zO,p+3,rfl,zO,by rw[jX zO zO];simp,by rw[b,h1]⟩;rw[if_neg zO]at b;have g:((rU s p:Int) == 65533)=false:=by rw[beq_eq_false_iff_ne];omega
 simp[g,c];exact⟨s.length - (p+rW s p),zO,p+rW s p,rfl,zO,by rw[jX zO zO];simp,b⟩;have:p=s.length:=zO;subst this;rw[VD_end zK]at b;simp[c,i];exact j4 (by simp[f.d]) (by simp[b]) rfl
theorem jv {b:Type}{f:b->List V}{k:Nat}(c:∀a,(f a).length=k) (t:Option (Nat × Nat)) (nl:Bool) (l:List b) (kk:IntKind) {i:Nat}(h:i<l.length):JX k (.sl t nl l.length (l.flatMap f)) (.int kk i)=some (.eptr (l.flatMap f) (i*k)):=by simp only[Yh,j3 c];rw[if_pos (by simp;omega)];rfl
theorem jfx {b:Type}{f:b->List V}{k:Nat}(c:∀a,(f a).length=k) (t:Option (Nat × Nat)) (nl:Bool) (l:List b) (kk:IntKind) (h:0<l.length):JX k (.sl t nl l.length (l.flatMap f)) (.int kk 0)=some (.eptr (l.flatMap f) 0):=by have:=jv c t nl l kk h;simpa using this
theorem jr (l:List Int) {i:Nat}(h:i<l.length):(l.flatMap intC)[i]? = some (.int .i64 l[i]):=by have:=jU (f:=intC) j9 l h (by decide:0<1);rw[bz,bj]at this;rw[this];rfl
theorem jgy (l:List (List UInt8)) {i:Nat}(h:i<l.length):(l.flatMap Jv)[i]? = some (.str l[i]):=by have:=jU (f:=Jv) YO l h (by decide:0<1);rw[bz,bj]at this;rw[this];rfl
theorem jZ {i N:Nat}(h:i<N) (a:N<=1000000000):IntKind.i64.wrap ((i:Int)+1)=(i:Int)+1:=jX zO zO
theorem dne_t {a b:Int}(h:a<b\/b<a):(a != b)=true:=by simp;omega
theorem dne_f {a b:Int}(h:a=b):(a != b)=false:=by simp[h]
def jfz:List Int->Bool
 | []=>false
 | c::_=>WO c
def nmOk (l:List Int):Bool:=decide (1<=l.length) && decide (l.length<=20) && !(jfz l) && l.all jci
def jiy (s:List UInt8):Bool:=!j32 s && Lib.validD s && nmOk (JJ s)
def ji1 (a b:List UInt8):Bool:=decide (jls (JJ a) (JJ b)<0)
def jq9 (t:List (List UInt8)) (j:Nat):Bool:=jiy (t.getD j []) && (j == 0 || ji1 (t.getD (j - 1) []) (t.getD j []))
def jw6 (t:List (List UInt8)):Bool:=(List.range t.length).all (jq9 t)
theorem jv6 {l:List Int}(h:0<l.length):jfz l=WO l[0]:=by
 cases l with
 | nil=>simp at h
 | cons a l=>rfl
theorem all_at {b:Type}{p:b->Bool}{l:List b}(h:∀j (a:j<l.length),p l[j]=true):l.all p=true:=by rw[aw];intro x c;obtain⟨j,a,rfl⟩:=bH c;exact h j a
theorem jnz {a:Type}{p:a->Bool}{l:List a}{j:Nat}(b:j<l.length) (h:p l[j]=false):l.all p=false:=by rw[eD];exact⟨_,av b,by rw[h];decide⟩
theorem jqz (c:Int):(jci c=false/\(c<48\/(57<c/\c<65)\/(90<c/\c<95)\/c=96\/(122<c/\c<128)))\/(jci c=true/\((48<=c/\c<=57)\/(65<=c/\c<=90)\/c=95\/(97<=c/\c<=122)\/127<c)):=by simp[jci,WO];omega
def L126:C:=.seq (.seq (.region [
 ⟨(some 37),.mov (.t 4),none,false⟩,
 ⟨(some 38),.mov (.t 3),none,false⟩,
 ⟨(some 39),.lenSl (.t 38),none,false⟩,
 ⟨(some 40),.bin .lss (.t 37) (.t 39),none,false⟩])
 (.cond (.t 40) (.skip)
  (.exit 0)))
 (.seq (.block 1 (.seq (.region [
  ⟨(some 43),.mov (.t 3),none,false⟩,
  ⟨(some 44),.mov (.t 4),none,false⟩,
  ⟨(some 45),.idxSl 1 (.t 43) (.t 44),none,false⟩,
  ⟨(some 46),.load none (.t 45),none,false⟩,
  ⟨(some 5),.mov (.t 46),none,false⟩])
  (.seq (.region [
   ⟨(some 47),.mov (.t 5),none,false⟩,
   ⟨(some 48),.bin .lss (.t 47) (.c (.int .i64 128)),none,false⟩,
   ⟨(some 49),.mov (.t 48),none,false⟩,
   ⟨(some 50),.mov (.t 5),(some (49,true)),false⟩,
   ⟨(some 51),.bin .neq (.t 50) (.c (.int .i64 95)),(some (49,true)),false⟩,
   ⟨(some 52),.pick (.t 49) (.t 51) (.c (.bool false)),none,false⟩,
   ⟨(some 53),.mov (.t 52),none,false⟩,
   ⟨(some 54),.mov (.t 5),(some (53,true)),false⟩,
   ⟨(some 55),.bin .lss (.t 54) (.c (.int .i64 48)),(some (53,true)),false⟩,
   ⟨(some 56),.mov (.t 55),(some (53,true)),false⟩,
   ⟨(some 57),.mov (.t 5),(some (56,false)),false⟩,
   ⟨(some 58),.bin .gtr (.t 57) (.c (.int .i64 57)),(some (56,false)),false⟩,
   ⟨(some 59),.pick (.t 56) (.c (.bool true)) (.t 58),(some (53,true)),false⟩,
   ⟨(some 60),.pick (.t 53) (.t 59) (.c (.bool false)),none,false⟩,
   ⟨(some 61),.mov (.t 60),none,false⟩,
   ⟨(some 62),.mov (.t 5),(some (61,true)),false⟩,
   ⟨(some 63),.bin .lss (.t 62) (.c (.int .i64 65)),(some (61,true)),false⟩,
   ⟨(some 64),.mov (.t 63),(some (61,true)),false⟩,
   ⟨(some 65),.mov (.t 5),(some (64,false)),false⟩,
   ⟨(some 66),.bin .gtr (.t 65) (.c (.int .i64 90)),(some (64,false)),false⟩,
   ⟨(some 67),.pick (.t 64) (.c (.bool true)) (.t 66),(some (61,true)),false⟩,
   ⟨(some 68),.pick (.t 61) (.t 67) (.c (.bool false)),none,false⟩,
   ⟨(some 69),.mov (.t 68),none,false⟩,
   ⟨(some 70),.mov (.t 5),(some (69,true)),false⟩,
   ⟨(some 71),.bin .lss (.t 70) (.c (.int .i64 97)),(some (69,true)),false⟩,
   ⟨(some 72),.mov (.t 71),(some (69,true)),false⟩,
   ⟨(some 73),.mov (.t 5),(some (72,false)),false⟩,
   ⟨(some 74),.bin .gtr (.t 73) (.c (.int .i64 122)),(some (72,false)),false⟩,
   ⟨(some 75),.pick (.t 72) (.c (.bool true)) (.t 74),(some (69,true)),false⟩,
   ⟨(some 76),.pick (.t 69) (.t 75) (.c (.bool false)),none,false⟩])
   (.cond (.t 76) (.seq (.region [
    ⟨(some 2),.mov (.c (.bool false)),none,false⟩])
    (.ret))
    (.skip)))))
  (.region [
   ⟨(some 41),.mov (.t 4),none,false⟩,
   ⟨(some 42),.bin .add (.t 41) (.c (.int .i64 1)),none,false⟩,
   ⟨(some 4),.mov (.t 42),none,false⟩]))
theorem ev172 (s:List UInt8) (D:s.length<=1000000):Ev E 172 [.str s] (.bool (jiy s)):=by
 refine jS (af:=F172) rfl ?_;conv in (occs := *) F172=> all_goals cbv
 simp[F172];refine jJ (j54 s D) zS rfl rfl ?_;have I:=YR s;unfold jiy nmOk;generalize J:JJ s=l at *;simp[Xf,toksRes,V.toks,V.tok,jcr,jcq,YL];by_cases a1:(l.length:Int)<1;simp[a1];exact j4 rfl (by simp;omega) rfl;by_cases a2:20<(l.length:Int);simp[a1,a2];exact j4 rfl (by simp;omega) rfl;have g:0<l.length:=zO;have u:=jv6 g;simp[a1,a2];refine jJ (ev235 s) zS rfl rfl ?_;cases b1:j32 s;case true=>simp;exact j4 rfl zS rfl
 simp;refine jJ (ev236 s D) zS rfl rfl ?_;cases b2:Lib.validD s;case false=>simp;exact j4 rfl zS rfl
 have e:∀ {k:St},k.df=[]->k.tm 4=.int .i64 0->k.tm 3=.sl (some (128,1)) false l.length (l.flatMap intC)->jfz l=false ->
  wpC E YC (.loop L126) k (kBlk 0 (jsc E YC (.seq (.region [⟨(some 2),.mov (.c (.bool true)),none,false⟩]) (.ret)) (j19 [.t 2] (.bool (!false && true && (decide (1<=l.length) && decide (l.length<=20) && !(jfz l) && l.all jci)))))):=by
  intro k z n G H
  refine j6 [(2,2),(4,5),(37,76)] l.length (λi s=>s.tm 4=.int .i64 i/\∀j (m:j<l.length),j<i->jci l[j]=true) rfl rfl ⟨by simp[n],λj _ h=>by omega⟩ ?_
  rintro i s K ⟨n,B⟩ f
  have x:s.tm 3=.sl (some (128,1)) false l.length (l.flatMap intC):=by rw[f.t 3 zS];simp[G]
  by_cases b:i<l.length
  ·have F:=jZ b zO;obtain⟨c,p⟩:∃c,l[i]=c:=⟨_,rfl⟩;have a:=jr l b;rw[p]at a;rcases jqz c with⟨w,q⟩|⟨w,q⟩
   ·rcases q with q|q|q|q|q;all_goals
     simp(disch:=omega) [L126,n,x,b,jv j9,a,dlt_t,jrx,dne_t]
     exact j4 (by simp[f.d,z]) (by simp[jnz b (p▸w)]) rfl
   ·rcases q with q|q|q|q|q;all_goals
     simp(disch:=omega) [L126,n,x,b,jv j9,a,dlt_t,jrx,dne_t,dne_f,F]
     intro j m y
     rcases aQ.1 y with h|rfl
     ·exact B j m h
     ·exact p▸w
  ·have:i=l.length:=zO;subst this;simp[L126,n,x];exact j4 (by simp[f.d,z]) (by simp[H,all_at (λj m=>B j m m)];omega) rfl
 obtain⟨c,p⟩:∃c,l[0]=c:=⟨_,rfl⟩;have a:=jr l g;rw[p]at u a;by_cases o:48<=c;by_cases r:c<=57;simp[jfx j9 _ _ l _ g,a,o,r];exact j4 rfl (by simp[u,WO,o,r]) rfl;simp[jfx j9 _ _ l _ g,a,o,r];exact e rfl zS zS (by simp[u,WO,r]);simp[jfx j9 _ _ l _ g,a,o];exact e rfl zS zS (by simp[u,WO,o])
theorem j6g (a b:Int):(jxb a b<0)=(a<b):=by unfold jxb;split;simp[*];split <;> simp[*]
theorem cmpI_z {a b:Int}:jxb a b=0 ↔ a=b:=by unfold jxb;split;simp;omega;split;simp;omega;simp;omega
theorem ev173 (a b:List UInt8) (J:a.length<=1000000) (H:b.length<=1000000):Ev E 173 [.str a,.str b] (.bool (ji1 a b)):=by
 refine jS (af:=F173) rfl ?_;conv in (occs := *) F173=> all_goals cbv
 simp[F173];refine jJ (j54 a J) zS rfl rfl ?_;have F:=YR a;have I:=YR b;unfold ji1;simp[Xf,toksRes,V.toks,V.tok,jcr,jcq,YL];refine jJ (j54 b H) zS rfl rfl ?_;generalize JJ a=x at *;generalize JJ b=y at *;simp[Xf,toksRes,V.toks,V.tok,jcr,jcq,YL];refine j6 [(4,4),(7,7),(12,41)] x.length (λi s=>s.tm 7=.int .i64 i/\i<=y.length/\jls (x.drop i) (y.drop i)=jls x y) rfl rfl ⟨zS,zS,zS⟩ ?_;rintro i s K ⟨r,G,k⟩ f;have o:s.tm 5=.sl (some (128,1)) false x.length (x.flatMap intC):=by rw[f.t 5 zS];simp
 have p:s.tm 6=.sl (some (256,1)) false y.length (y.flatMap intC):=by rw[f.t 6 zS];simp
 have n:s.df=[]:=by rw[f.d];simp
 clear f;by_cases j:i<x.length;by_cases g:i<y.length;have D:=jZ j zO;rw[aW j,aW g,jls]at k;obtain⟨c,B⟩:∃c,x[i]=c:=⟨_,rfl⟩;obtain⟨d,w⟩:∃d,y[i]=d:=⟨_,rfl⟩;have l:=jr x j;have m:=jr y g;rw[B]at k l;rw[w]at k m;by_cases q:c=d;rw[if_pos (cmpI_z.2 q)]at k;simp[r,o,p,j,g,jv j9,l,m,q,D];exact⟨zO,k⟩;rw[if_neg (λh=>q (cmpI_z.1 h))]at k;have z:(c != d)=true:=by simpa using q
 simp[r,o,p,j,g,jv j9,l,m,z];exact j4 (by simp[n]) (by simp[<- k,j6g]) rfl;have e:y.drop i=[]:=bS zO;rw[aW j,e,jls]at k;have u:¬ x.length<y.length:=zO;simp[r,o,p,j,g];exact j4 (by simp[n]) (by simp[<- k,u]) rfl;have:i=x.length:=zO;subst this;rw[dA]at k;simp[r,o,p];by_cases g:x.length<y.length;rw[aW g,jls]at k;exact j4 (by simp[n]) (by simp[<- k,g]) rfl;rw[bS (by omega:y.length<=x.length),jls]at k;exact j4 (by simp[n]) (by simp[<- k,g]) rfl
theorem j1q {t:List (List UInt8)}(h:∀j,j<t.length->jq9 t j=true):jw6 t=true:=aw.2 λj a=>h j (aH.1 a)
theorem joc {t:List (List UInt8)}{j:Nat}(a:j<t.length) (h:jq9 t j=false):jw6 t=false:=eD.2 ⟨j,aH.2 a,by rw[h];decide⟩
theorem X4 {a:Type}{l:List a}{i:Nat}{d:a}(h:i<l.length):l.getD i d=l[i]:=by simp[List.getD,h]
theorem j7k {i:Nat}(h:0<i) (a:i<=1000000000):IntKind.i64.wrap ((i:Int) - 1)=((i - 1:Nat):Int):=by rw[jX zO zO];omega
theorem ev110 (nl:Bool) (t:List (List UInt8)) (K:t.length<=1000000) (B:∀s∈t,s.length<=1000000):Ev E 110 [slOf nl Jv t] (.bool (jw6 t)):=by
 refine jS (af:=F110) rfl ?_;simp[F110];refine j6 [(2,4),(5,32)] t.length (λi s=>s.tm 3=.int .i64 i/\∀j,j<t.length->j<i->jq9 t j=true) rfl rfl ⟨zS,λj _ h=>by omega⟩ ?_;rintro i s J ⟨o,F⟩ f;have x:s.tm 0=slOf nl Jv t:=by rw[f.t 0 zS];simp
 have w:s.df=[]:=by rw[f.d];simp
 clear f;by_cases a:i<t.length;have G:=jZ a zO;have b:jq9 t i=(jiy t[i] && (i == 0 || ji1 (t.getD (i - 1) []) t[i])):=by unfold jq9;rw[X4 a]
 have k:=B _ (av a);obtain⟨c,I⟩:∃c,t[i]=c:=⟨_,rfl⟩;have l:=jgy t a;rw[I]at b l k;have step:jq9 t i=true->∀j,j<t.length->j<i+1->jq9 t j=true:=λh j m y=>by rcases aQ.1 y with h'|rfl;exact F j m h';exact h
 simp[o,x,a,j7 YO,l];refine Js (ev172 c k) zS rfl rfl ?_;cases q:jiy c;rw[q]at b;simp;exact j4 (by simp[w]) (by simp[joc a b]) rfl;rw[q]at b;by_cases D:i=0;subst D;simp[o];exact⟨a,zQ,λj m h=>by subst h;exact step (by simp[b]) 0 m zO⟩;have u:0<i:=zO;have z:=j7k u zO;have g:i - 1<t.length:=zO;have p:=B _ (av g);have n:=jgy t g;rw[X4 g]at b;obtain⟨e,H⟩:∃e,t[i - 1]=e:=⟨_,rfl⟩;rw[H]at b n p;simp[o,x,u,z,g,j7 YO,n,a,l];refine Js (ev173 e c p k) zS rfl rfl ?_;cases r:ji1 e c;simp;exact j4 (by simp[w]) (by simp[joc a (by simp[b,r,D])]) rfl;simp[o,G];exact⟨a,step (by simp[b,r])⟩;have:i=t.length:=zO;subst this;simp[o,x];exact j4 (by simp[w]) (by simp[j1q (λj m=>F j m m)]) rfl
theorem jjx {a b:Nat}(d:a<2 ^ 64) (c:b<2 ^ 64):Xd .or (.int .u64 (a:Int)) (.int .u64 (b:Int))=some (.int .u64 ((a ||| b:Nat):Int)):=by
 have h:a ||| b<2 ^ 64:=eA d c;simp only[Xd,Xb,if_true];have e:(BitVec.ofInt IntKind.u64.bits (a:Int) ||| BitVec.ofInt IntKind.u64.bits (b:Int)).toNat=a ||| b:=by rw[BitVec.toNat_or,eK,eK,eZ,eZ];rw[show IntKind.u64.bits=64 from rfl,eI d,eI c]
 rw[e,IntKind.wrap_u64];congr 2;omega
theorem jb9 {a b:Nat}{m:Int}(d:m=(b:Int)) (f:a<2 ^ 64) (c:b<2 ^ 64):Xd .and (.int .u64 (a:Int)) (.int .u64 m)=some (.int .u64 ((a &&& b:Nat):Int)):=by
 subst d;have h:a &&& b<2 ^ 64:=Nat.and_lt_two_pow _ c;simp only[Xd,Xb,if_true];have e:(BitVec.ofInt IntKind.u64.bits (a:Int) &&& BitVec.ofInt IntKind.u64.bits (b:Int)).toNat=a &&& b:=by rw[BitVec.toNat_and,eK,eK,eZ,eZ];rw[show IntKind.u64.bits=64 from rfl,eI f,eI c]
 rw[e,IntKind.wrap_u64];congr 2;omega
theorem jsq {a k:Nat}{m:Int}(b:m=(k:Int)) (c:k<=64) (h:a*2 ^ k<2 ^ 64):Xd .shl (.int .u64 (a:Int)) (.int .u64 m)=some (.int .u64 ((a*2 ^ k:Nat):Int)):=by subst b;simp only[Xd,Wc];rw[if_neg zO];simp only[aZ,show IntKind.u64.bits=64 from rfl,cP c];rw[IntKind.wrap_u64];congr 2;have:((a:Int)*2 ^ k)=((a*2 ^ k:Nat):Int):=zS;rw[this];omega
theorem Jc {l:List UInt8}{kk:IntKind}{k:Nat}{x:Int}(a:x=(k:Int)) (h:k<=l.length):Xe (some (.int kk x)) none (.str l)=some (.str (l.drop k)):=by subst a;simp[Xe,Jg,h]
def wd (l:List UInt8):Nat:=Lib.leNat (l.take 8)
theorem j8m (a b k:Nat) (h:a<2 ^ k):a ||| b*2 ^ k=a+b*2 ^ k:=by have:=Nat.shiftLeft_add_eq_or_of_lt h b;rw[Nat.shiftLeft_eq]at this;rw[Nat.or_comm,<- this,fH]
theorem wd_8 (a b c d e f g h:UInt8) (t:List UInt8):wd (a::b::c::d::e::f::g::h::t) =
 a.toNat+b.toNat*2 ^ 8+c.toNat*2 ^ 16+d.toNat*2 ^ 24+e.toNat*2 ^ 32+f.toNat*2 ^ 40+g.toNat*2 ^ 48+h.toNat*2 ^ 56:=by
 simp only[wd,List.take,Lib.leNat];omega
theorem jes (x:UInt8) (k:Nat) {m:Int}(a:m=(k:Int)) (d:k<=56):∃B:Nat,B=x.toNat*2 ^ k/\Xd .shl (.int .u64 (x.toNat:Int)) (.int .u64 m)=some (.int .u64 (B:Int)):=by
 have c:=x.toNat_lt;have b:x.toNat*2 ^ k<2 ^ 64:=by
  calc x.toNat*2 ^ k<2 ^ 8*2 ^ k:=Nat.mul_lt_mul_of_pos_right c (Nat.two_pow_pos k)
   _=2 ^ (8+k):=(Nat.pow_add ..).symm
   _<=2 ^ 64:=ci zQ zO
 exact⟨_,rfl,jsq a zO b⟩
theorem jmz {O B:Nat}(k c:Nat) (h:O<2 ^ k) (b:B=c*2 ^ k) (d:c<2 ^ 8) (e:k<=56):∃a:Nat,a=O+B/\a<2 ^ (k+8)/\Xd .or (.int .u64 (O:Int)) (.int .u64 (B:Int))=some (.int .u64 (a:Int)):=by
 have f:B+2 ^ k<=2 ^ (k+8):=by rw[b,Nat.pow_add,Nat.mul_comm (2 ^ k),<- da];exact bc _ d
 have g:2 ^ (k+8)<=2 ^ 64:=ci zQ zO;refine⟨O+B,rfl,zO,?_⟩;rw[jjx zO zO,b,j8m _ _ _ h]
theorem jnq (l:List UInt8) (hl:8<=l.length):Ev E 289 [.str l] (.int .u64 (wd l)):=by
 match l,hl with
 | a::b::c::d::e::f::g::h::t,_=>
  rw[wd_8];have l0:=a.toNat_lt;have l1:=b.toNat_lt;have l2:=c.toNat_lt;have l3:=d.toNat_lt;have l4:=e.toNat_lt;have l5:=f.toNat_lt;have l6:=g.toNat_lt;have l7:=h.toNat_lt;refine jS (af:=F289) rfl ?_;have cv:∀x:UInt8,XN .u64 (.int .u8 (x.toNat:Int))=some (.int .u64 (x.toNat:Int)):=λx=>by have:=x.toNat_lt;simp only[XN,IntKind.wrap_u64];congr 2;omega
  have j:∀ (s:List UInt8) (i:Nat) (x:UInt8) (y:Int),y=(i:Int)->s[i]? = some x->QK (.str s) (.int .i64 y)=some (.int .u8 (x.toNat:Int)):=by intro s i x y hy hx;subst hy;simp[QK,hx]
  have i0:=j (a::b::c::d::e::f::g::h::t) 0 a 0 rfl rfl;have i1:=j (a::b::c::d::e::f::g::h::t) 1 b 1 rfl rfl;have T:=j (a::b::c::d::e::f::g::h::t) 2 c 2 rfl rfl;have i3:=j (a::b::c::d::e::f::g::h::t) 3 d 3 rfl rfl;have i4:=j (a::b::c::d::e::f::g::h::t) 4 e 4 rfl rfl;have i5:=j (a::b::c::d::e::f::g::h::t) 5 f 5 rfl rfl;have i6:=j (a::b::c::d::e::f::g::h::t) 6 g 6 rfl rfl;have i7:=j (a::b::c::d::e::f::g::h::t) 7 h 7 rfl rfl;obtain⟨B1,k,s1⟩:=jes b 8 (m:=8) rfl zQ;obtain⟨B2,u,s2⟩:=jes c 16 (m:=16) rfl zQ;obtain⟨B3,p,s3⟩:=jes d 24 (m:=24) rfl zQ;obtain⟨B4,q,Q⟩:=jes e 32 (m:=32) rfl zQ;obtain⟨B5,o,s5⟩:=jes f 40 (m:=40) rfl zQ;obtain⟨B6,w,s6⟩:=jes g 48 (m:=48) rfl zQ;obtain⟨B7,r,s7⟩:=jes h 56 (m:=56) rfl zQ;obtain⟨O1,z,N,o1⟩:=jmz (O:=a.toNat) 8 _ l0 k l1 zQ;obtain⟨O2,F,L,o2⟩:=jmz (O:=O1) 16 _ N u l2 zQ;obtain⟨O3,D,J,o3⟩:=jmz (O:=O2) 24 _ L p l3 zQ;obtain⟨O4,I,P,o4⟩:=jmz (O:=O3) 32 _ J q l4 zQ;obtain⟨O5,B,K,X⟩:=jmz (O:=O4) 40 _ P o l5 zQ;obtain⟨U,H,M,S⟩:=jmz (O:=O5) 48 _ K w l6 zQ;obtain⟨O7,G,q7,Z⟩:=jmz (O:=U) 56 _ M r l7 zQ;have n:O7=a.toNat+b.toNat*2 ^ 8+c.toNat*2 ^ 16+d.toNat*2 ^ 24+e.toNat*2 ^ 32+f.toNat*2 ^ 40+g.toNat*2 ^ 48+h.toNat*2 ^ 56:=zO;rw[<- n];clear n k u p q o w r G q7 H M B K I P D J F L z N;simp[F289,cv,i0,i1,T,i3,i4,i5,i6,i7,s1,o1,s2,o2,s3,o3,Q,o4,s5,X,s6,S,s7,Z];exact j4 rfl zS rfl
theorem j53 (tm:Nat->V):eval E tm (.g 2)=.eptr utf8first 0:=rfl
theorem j52 (tm:Nat->V):eval E tm (.g 3)=.eptr accR 0:=rfl
theorem j0u (b:Nat) (h:b<256):utf8first[b]? = some (.int .u8 (Lib.firstT b:Nat)):=by unfold utf8first;rw[aX,dk h];rfl
theorem acc_at (y:Nat) (h:y<16):(accR.drop (y*2)).take 2=[.int .u8 (Lib.accLo y:Nat),.int .u8 (Lib.accHi y:Nat)]:=by have:y=0\/y=1\/y=2\/y=3\/y=4\/y=5\/y=6\/y=7\/y=8\/y=9\/y=10\/y=11\/y=12\/y=13\/y=14\/y=15:=zO;rcases this with h|h|h|h|h|h|h|h|h|h|h|h|h|h|h|h <;> subst h <;> rfl
theorem and7:∀x:Fin 256,IntKind.u8.wrap ((BitVec.ofInt IntKind.u8.bits ((x.val:Nat):Int) &&& BitVec.ofInt IntKind.u8.bits 7).toNat:Int)=((x.val % 8:Nat):Int):=by decide +kernel
theorem j3c (x:Nat) (h:x<256):Xd .and (.int .u8 (x:Int)) (.int .u8 7)=some (.int .u8 ((x % 8:Nat):Int)):=by simp only[Xd,Xb,if_true];have:=and7 ⟨x,h⟩;simp only at this;rw[this]
theorem j3b (x:Nat) (_:x<256):Xd .shr (.int .u8 (x:Int)) (.int .u64 4)=some (.int .u8 ((x / 16:Nat):Int)):=by
 simp only[Xd,Wc];rw[if_neg zQ];have e:min (Int.toNat 4) IntKind.u8.bits=4:=by decide
 rw[e];congr 2;rw[eX _ zQ];omega
theorem j0s (b:Nat):Lib.firstT b<256:=by
 unfold Lib.firstT;repeat' split
 all_goals omega
abbrev M8:Nat:=9259542123273814144
theorem jmd (l:List UInt8):wd l<2 ^ 64:=by
 have h:=Lib.leNat_lt (l.take 8);have a:(256:Nat) ^ (l.take 8).length<=256 ^ 8:=ci zQ (by rw[ap];omega);have b:(256:Nat) ^ 8=2 ^ 64:=by decide
 unfold wd;omega
theorem WW {l:List UInt8}(a:8<=l.length) (h:wd l &&& M8=0):Lib.validD l=Lib.validD (l.drop 8):=by
 have e:(l.take 8).length=8:=by rw[ap];omega
 have:=(Lib.leNat_mask (l.take 8)).1 (by rw[e,Lib.maskN8];exact h);exact Lib.validD_ascii 8 l this
theorem jw0 (w:Nat) (a:w<2 ^ 64):∃q:Nat,q=w &&& M8/\Xd .and (.int .u64 (w:Int)) (.int .u64 9259542123273814144)=some (.int .u64 (q:Int)) :=
 ⟨_,rfl,jb9 (b:=M8) rfl a zQ⟩
theorem jov {a b:Nat}(d:a<2 ^ 64) (c:b<2 ^ 64):∃q:Nat,q=a ||| b/\q<2 ^ 64/\Xd .or (.int .u64 (a:Int)) (.int .u64 (b:Int))=some (.int .u64 (q:Int)) :=
 ⟨_,rfl,eA d c,jjx d c⟩
theorem beq0 (q:Nat):((q:Int) == 0)=decide (q=0):=by rw[bB];simp
theorem ev265 (s:List UInt8) (_:s.length<=1000000):Ev E 265 [.str s] (.bool (Lib.validD s)):=by
 refine jS (af:=F265) rfl ?_;simp[F265];refine Xs (n:=s.length) [(0,200)] (λk st=>∃l,k=l.length/\st.tm 0=.str l/\Lib.validD s=Lib.validD l/\l.length<=s.length) rfl rfl ⟨s,zS⟩ ?_;rintro k st ⟨l,rfl,p,hv,hl⟩ f;have H:st.df=[]:=by rw[f.d];simp
 have fb:st.fb=0:=by rw[f.b];simp
 have fr:st.ro=0:=by rw[f.r];simp
 clear f;cases J:l with
 | nil=>subst J;simp[p];exact j4 (by simp[H]) (by simp[hv];rfl) rfl
 | cons b t=>
 rw[<- J];have h3:l.length=t.length+1:=by rw[J];rfl
 have g3:=b.toNat_lt;have M:l.getD 0 0=b:=by rw[J];rfl
 have i0:QK (.str l) (.int .i64 0)=some (.int .u8 (b.toNat:Int)):=by have:=Y5 (s:=l) (i:=0) (x:=0) .i64 zO rfl;rw[M]at this;exact this
 have O:0<l.length:=zO;by_cases hb:(b.toNat:Int)<128;have c4:Lib.validD s=Lib.validD t:=by rw[hv,J,Lib.validD_cons b t zO]
 have d1:Xe (some (.int .i64 1)) none (.str l)=some (.str t):=by rw[Jc (k:=1) (x:=1) rfl (by omega:1<=l.length),J];rfl
 by_cases h8:8<(t.length:Int);obtain⟨w,hw⟩:∃w,wd t=w:=⟨_,rfl⟩;have g8:w<2 ^ 64:=hw▸jmd t;obtain⟨q,hq,aq⟩:=jw0 w g8;simp[p,O,i0,hb,d1,h8];refine jJ (jnq t zO) zS rfl rfl ?_;rw[hw];by_cases c5:q=0;have T:Lib.validD s=Lib.validD (t.drop 8):=by rw[c4,WW zO (by rw[hw,<- hq,c5])]
 have d8:Xe (some (.int .i64 8)) none (.str t)=some (.str (t.drop 8)):=Jc (k:=8) rfl zO;have g1:(t.drop 8).length=t.length - 8:=ba;obtain⟨u,hu⟩:∃u,t.drop 8=u:=⟨_,rfl⟩;rw[hu]at T d8 g1;simp[aq,c5,d8];by_cases d0:16<(u.length:Int);have c6:Xe (some (.int .i64 8)) none (.str u)=some (.str (u.drop 8)):=Jc (k:=8) rfl zO;have d6:Xe (some (.int .i64 16)) none (.str u)=some (.str (u.drop 16)):=Jc (k:=16) rfl zO;have g4:(u.drop 8).length=u.length - 8:=ba;obtain⟨w1,c3⟩:∃w,wd u=w:=⟨_,rfl⟩;obtain⟨w2,b9⟩:∃w,wd (u.drop 8)=w:=⟨_,rfl⟩;obtain⟨o,ho,g7,oo⟩:=jov (c3▸jmd u) (b9▸jmd (u.drop 8));obtain⟨q2,h2,f7⟩:=jw0 o g7;have e1:=jnq u zO;have G:=jnq (u.drop 8) zO;rw[c3]at e1;rw[b9]at G;obtain⟨u8,U⟩:∃x,u.drop 8=x:=⟨_,rfl⟩;rw[U]at c6 G g4;simp[d0];refine Js e1 zS rfl rfl ?_;simp[c6];refine Js G zS rfl rfl ?_;by_cases Q:q2=0;have f6:=(Lib.or_mask w1 w2 M8).1 (by rw[<- ho,<- h2,Q]);have b5:Lib.validD s=Lib.validD (u.drop 16):=by rw[T,WW zO (by rw[c3];exact f6.1),U,WW zO (by rw[<- U,b9];exact f6.2),<- U,dK]
 have d4:(u.drop 16).length=u.length - 16:=ba;obtain⟨v,g9⟩:∃x,u.drop 16=x:=⟨_,rfl⟩;rw[g9]at d6 b5 d4;simp[oo,f7,Q,d6];refine Xs (n:=v.length) [(0,0),(42,64)] (λk st=>∃x,k=x.length/\st.tm 0=.str x/\Lib.validD s=Lib.validD x/\x.length<=v.length) rfl rfl ⟨v,by simp[b5]⟩ ?_;rintro k h5 ⟨x,rfl,g0,gv,gl⟩ _;by_cases c9:32<(x.length:Int);have f0:Xe (some (.int .i64 8)) none (.str x)=some (.str (x.drop 8)):=Jc (k:=8) rfl zO;have b6:Xe (some (.int .i64 16)) none (.str x)=some (.str (x.drop 16)):=Jc (k:=16) rfl zO;have b0:Xe (some (.int .i64 24)) none (.str x)=some (.str (x.drop 24)):=Jc (k:=24) rfl zO;have b7:Xe (some (.int .i64 32)) none (.str x)=some (.str (x.drop 32)):=Jc (k:=32) rfl zO;have e6:(x.drop 32).length=x.length - 32:=ba;obtain⟨y0,X⟩:∃w,wd x=w:=⟨_,rfl⟩;obtain⟨y1,S⟩:∃w,wd (x.drop 8)=w:=⟨_,rfl⟩;obtain⟨y2,Z⟩:∃w,wd (x.drop 16)=w:=⟨_,rfl⟩;obtain⟨y3,a0⟩:∃w,wd (x.drop 24)=w:=⟨_,rfl⟩;obtain⟨p1,e5,d2,f9⟩:=jov (X▸jmd x) (S▸jmd (x.drop 8));obtain⟨p2,d3,d5,c7⟩:=jov (Z▸jmd (x.drop 16)) (a0▸jmd (x.drop 24));obtain⟨p3,c8,e0,f1⟩:=jov d2 d5;obtain⟨q3,d9,f8⟩:=jw0 p3 e0;have e1:=jnq x zO;have G:=jnq (x.drop 8) (by rw[ba];omega);have e3:=jnq (x.drop 16) (by rw[ba];omega);have e4:=jnq (x.drop 24) (by rw[ba];omega);rw[X]at e1;rw[S]at G;rw[Z]at e3;rw[a0]at e4;have b8:q3=0->Lib.validD s=Lib.validD (x.drop 32):=by
  intro hz;rw[d9,c8,Lib.or_mask,e5,d3,Lib.or_mask,Lib.or_mask]at hz;obtain⟨⟨z0,z1⟩,z2,z3⟩:=hz;rw[gv,WW zO (by rw[X];exact z0),WW (by rw[ba];omega) (by rw[S];exact z1),dK,
   WW (by rw[ba];omega) (by rw[Z];exact z2),dK,WW (by rw[ba];omega) (by rw[a0];exact z3),dK]
 clear X S Z a0 e5 d3 c8 d9;obtain⟨x8,g5⟩:∃z,x.drop 8=z:=⟨_,rfl⟩;obtain⟨h6,d7⟩:∃z,x.drop 16=z:=⟨_,rfl⟩;obtain⟨h4,e9⟩:∃z,x.drop 24=z:=⟨_,rfl⟩;obtain⟨f5,e7⟩:∃z,x.drop 32=z:=⟨_,rfl⟩;rw[g5]at f0 G;rw[d7]at b6 e3;rw[e9]at b0 e4;rw[e7]at b7 e6 b8;simp[g0,c9];refine Js e1 zS rfl rfl ?_;simp[f0,g0];refine Js G zS rfl rfl ?_;simp[b6,f9,g0];refine Js e3 zS rfl rfl ?_;simp[b0,g0];refine Js e4 zS rfl rfl ?_;by_cases P:q3=0;simp[c7,f1,f8,P,b7,g0];exact⟨f5.length,zO,f5,rfl,rfl,b8 P,zO⟩;simp[c7,f1,f8,beq0,P,g0];exact⟨x.length,zO,x,rfl,rfl,gv,zO⟩;simp[g0,c9];exact⟨x.length,zO,x,rfl,rfl,gv,zO⟩;simp[oo,f7,beq0,Q];exact⟨u.length,zO,u,rfl,rfl,T,zO⟩;simp[d0];exact⟨u.length,zO,u,rfl,rfl,T,zO⟩;simp[aq,beq0,c5];exact⟨t.length,zO,t,rfl,rfl,c4,zO⟩;simp[p,O,i0,hb,d1,h8];exact⟨t.length,zO,t,rfl,rfl,c4,zO⟩;have a:=Lib.validD_lead l (by rw[J];simp) (by rw[M];omega);rw[M]at a;rw[<- hv]at a;obtain⟨x,hx⟩:∃x,Lib.firstT b.toNat=x:=⟨_,rfl⟩;have N:x<256:=hx▸j0s _;have e8:=j0u b.toNat b.toNat_lt;have g6:W4 256 1 (.eptr utf8first 0) (.int .u8 (b.toNat:Int))=some (.eptr utf8first b.toNat):=by simp only[W4];rw[if_pos zO];simp
 have a7:=j3c x N;have s4:=j3b x N;obtain⟨y,hy⟩:∃y,x / 16=y:=⟨_,rfl⟩;obtain⟨j,g2⟩:∃y,x % 8=y:=⟨_,rfl⟩;have f4:y<16:=zO;have h1:W4 16 2 (.eptr accR 0) (.int .u8 (y:Int))=some (.eptr accR (y*2)):=by simp only[W4];rw[if_pos zO];simp
 have ld2:∀ob,QI ob (some 2) (.eptr accR (y*2))=some (.agg [.int .u8 (Lib.accLo y:Nat),.int .u8 (Lib.accHi y:Nat)]):=λob=>by rw[jcn,QX,acc_at y f4,if_pos (by show y*2+2<=32;omega)]
 have cv:XN .i64 (.int .u8 (j:Int))=some (.int .i64 (j:Int)):=by simp only[XN];rw[jX zO zO]
 rw[hx]at a e8;rw[g2]at a7 a;rw[hy]at s4 a;have B:1<l.length->_:=λh=>Y5 (s:=l) (i:=1) (x:=1) .i64 h rfl;have L:2<l.length->_:=λh=>Y5 (s:=l) (i:=2) (x:=2) .i64 h rfl;have i3:3<l.length->_:=λh=>Y5 (s:=l) (i:=3) (x:=3) .i64 h rfl;generalize (l.getD 1 0).toNat=b1 at *;generalize (l.getD 2 0).toNat=b2 at *;generalize (l.getD 3 0).toNat=b3 at *;generalize Lib.accLo y=lo at *;generalize Lib.accHi y=m at *;simp[p,O,i0,hb,j53,g6,e8,a7,cv,s4,j52,h1,ld2,objCells,fb,fr,j2];by_cases F:j=2;by_cases D:(l.length:Int)<2;have c:Lib.checkN l.length b1 b2 b3 j lo m=none:=by unfold Lib.checkN;simp[F];omega
 rw[c]at a;simp[F,p,D];exact j4 (by simp[H]) (by simp[a]) rfl;have B:=B zO;by_cases I:(b1:Int)<lo;have c:Lib.checkN l.length b1 b2 b3 j lo m=none:=by unfold Lib.checkN;simp[F];omega
 rw[c]at a;simp[F,p,objCells,D,B,I];exact j4 (by simp[H]) (by simp[a]) rfl;by_cases K:(m:Int)<b1;have c:Lib.checkN l.length b1 b2 b3 j lo m=none:=by unfold Lib.checkN;simp[F];omega
 rw[c]at a;simp[F,p,objCells,D,B,I,K];exact j4 (by simp[H]) (by simp[a]) rfl;have c:Lib.checkN l.length b1 b2 b3 j lo m=some 2:=by unfold Lib.checkN;simp[F];omega
 rw[c]at a;have dd:Xe (some (.int .i64 2)) none (.str l)=some (.str (l.drop 2)):=Jc (k:=2) rfl zO;simp[F,p,objCells,D,B,I,K,dd];exact⟨(l.drop 2).length,by rw[ba];omega,l.drop 2,zS,rfl,a,by rw[ba];omega⟩;by_cases g:j=3;by_cases D:(l.length:Int)<3;have c:Lib.checkN l.length b1 b2 b3 j lo m=none:=by unfold Lib.checkN;simp[g];omega
 rw[c]at a;simp[g,p,D];exact j4 (by simp[H]) (by simp[a]) rfl;have B:=B zO;have L:=L zO;by_cases I:(b1:Int)<lo;have c:Lib.checkN l.length b1 b2 b3 j lo m=none:=by unfold Lib.checkN;simp[g];omega
 rw[c]at a;simp[g,p,objCells,D,B,I];exact j4 (by simp[H]) (by simp[a]) rfl;by_cases K:(m:Int)<b1;have c:Lib.checkN l.length b1 b2 b3 j lo m=none:=by unfold Lib.checkN;simp[g];omega
 rw[c]at a;simp[g,p,objCells,D,B,I,K];exact j4 (by simp[H]) (by simp[a]) rfl;by_cases G:(b2:Int)<128;have c:Lib.checkN l.length b1 b2 b3 j lo m=none:=by unfold Lib.checkN;simp[g];omega
 rw[c]at a;simp[g,p,objCells,D,B,L,I,K,G];exact j4 (by simp[H]) (by simp[a]) rfl;by_cases f2:191<(b2:Int);have c:Lib.checkN l.length b1 b2 b3 j lo m=none:=by unfold Lib.checkN;simp[g];omega
 rw[c]at a;simp[g,p,objCells,D,B,L,I,K,G,f2];exact j4 (by simp[H]) (by simp[a]) rfl;have c:Lib.checkN l.length b1 b2 b3 j lo m=some 3:=by unfold Lib.checkN;simp[g];omega
 rw[c]at a;have dd:Xe (some (.int .i64 3)) none (.str l)=some (.str (l.drop 3)):=Jc (k:=3) rfl zO;simp[g,p,objCells,D,B,L,I,K,G,f2,dd];exact⟨(l.drop 3).length,by rw[ba];omega,l.drop 3,zS,rfl,a,by rw[ba];omega⟩;by_cases e:j=4;by_cases D:(l.length:Int)<4;have c:Lib.checkN l.length b1 b2 b3 j lo m=none:=by unfold Lib.checkN;simp[e];omega
 rw[c]at a;simp[e,p,D];exact j4 (by simp[H]) (by simp[a]) rfl;have B:=B zO;have L:=L zO;have i3:=i3 zO;by_cases I:(b1:Int)<lo;have c:Lib.checkN l.length b1 b2 b3 j lo m=none:=by unfold Lib.checkN;simp[e];omega
 rw[c]at a;simp[e,p,objCells,D,B,I];exact j4 (by simp[H]) (by simp[a]) rfl;by_cases K:(m:Int)<b1;have c:Lib.checkN l.length b1 b2 b3 j lo m=none:=by unfold Lib.checkN;simp[e];omega
 rw[c]at a;simp[e,p,objCells,D,B,I,K];exact j4 (by simp[H]) (by simp[a]) rfl;by_cases G:(b2:Int)<128;have c:Lib.checkN l.length b1 b2 b3 j lo m=none:=by unfold Lib.checkN;simp[e];omega
 rw[c]at a;simp[e,p,objCells,D,B,L,I,K,G];exact j4 (by simp[H]) (by simp[a]) rfl;by_cases f2:191<(b2:Int);have c:Lib.checkN l.length b1 b2 b3 j lo m=none:=by unfold Lib.checkN;simp[e];omega
 rw[c]at a;simp[e,p,objCells,D,B,L,I,K,G,f2];exact j4 (by simp[H]) (by simp[a]) rfl;by_cases e3:(b3:Int)<128;have c:Lib.checkN l.length b1 b2 b3 j lo m=none:=by unfold Lib.checkN;simp[e];omega
 rw[c]at a;simp[e,p,objCells,D,B,L,i3,I,K,G,f2,e3];exact j4 (by simp[H]) (by simp[a]) rfl;by_cases f3:191<(b3:Int);have c:Lib.checkN l.length b1 b2 b3 j lo m=none:=by unfold Lib.checkN;simp[e];omega
 rw[c]at a;simp[e,p,objCells,D,B,L,i3,I,K,G,f2,e3,f3];exact j4 (by simp[H]) (by simp[a]) rfl;have c:Lib.checkN l.length b1 b2 b3 j lo m=some 4:=by unfold Lib.checkN;simp[e];omega
 rw[c]at a;have dd:Xe (some (.int .i64 4)) none (.str l)=some (.str (l.drop 4)):=Jc (k:=4) rfl zO;simp[e,p,objCells,D,B,L,i3,I,K,G,f2,e3,f3,dd];exact⟨(l.drop 4).length,by rw[ba];omega,l.drop 4,zS,rfl,a,by rw[ba];omega⟩;have c:Lib.checkN l.length b1 b2 b3 j lo m=none:=by unfold Lib.checkN;simp[F,g,e]
 rw[c]at a;have z2:((j:Int) == 2)=false:=by simp;omega
 have z3:((j:Int) == 3)=false:=by simp;omega
 have z4:((j:Int) == 4)=false:=by simp;omega
 simp[z2,z3,z4];exact j4 (by simp[H]) (by simp[a]) rfl
def Qt:Nat->List Int->Bool
 | n,[]=>decide (0<n) && decide (n<=20)
 | n,c::l=>if !jci c || (decide (n=0) && WO c) then false else Qt (n+1) l
theorem jhk:∀ (l:List Int) (n:Nat),0<n->Qt n l=(l.all jci && decide (n+l.length<=20))
 | [],n,h=>by simp[Qt,h]
 | c::l,n,h=>by have b:¬ n=0:=zO;rw[Qt,jhk l (n+1) zO];cases a:jci c;simp[a];simp only[a,b,decide_false,bZ,bq,cZ,aj,if_false,cQ,co,bo];congr 2;exact propext ⟨λh=>by omega,λh=>by omega⟩
theorem jza (l:List Int):Qt 0 l=nmOk l:=by
 cases l with
 | nil=>rfl
 | cons c l=>
  rw[Qt,jhk l 1 zO];unfold nmOk jfz;have e:decide (1+l.length<=20)=decide (l.length+1<=20):=by rw[fH]
  cases b:jci c <;> cases a:WO c <;> simp[b,a,e];rw[fX]
theorem j4z {E:Env}{Yf:YF}{st:St}{ub:Nat}{K:St->Nat->Prop}{d:Option Nat}{nm:Bool}{x:A}{l u pos:Nat}{s:List UInt8}(e:eval E st.tm x=.iter l u) (b:st.ob l=some ⟨u,.siter s pos⟩) (a:st.ro<=u)
 (f:pos<s.length->WR K st d ub { v:=.tup [.bool true,.int .i64 pos,.int .i32 (rU s pos:Nat)],obs:=[(l,⟨u,.siter s (pos+rW s pos)⟩)] })
 (c:¬ pos<s.length->jal K st d ub (.tup [.bool false])):j8 E Yf ⟨d,.nextStr x,none,nm⟩ st ub K:=jrj e b a f c
theorem ev229 (s:List UInt8) (x:s.length<=1000000):Ev E 229 [.str s] (.bool (jiy s)):=by
 refine jS (af:=F229) rfl ?_;conv in (occs := *) F229=> all_goals cbv
 simp[F229];refine jJ (ev264 s) zS rfl rfl ?_;unfold jiy;cases b1:j32 s;case true=>simp;exact j4 rfl zS rfl
 simp;refine jJ (ev265 s x) zS rfl rfl ?_;cases b2:Lib.validD s;case false=>simp;exact j4 rfl zS rfl
 simp;rw[<- jza];refine Xs (n:=s.length) [(2,3),(5,5),(15,30)] (λk i=>∃p n u,k=s.length - p/\p<=s.length/\n<=p/\i.tm 3=.int .i64 (n:Nat)/\i.tm 14=.iter 28 u/\i.ob 28=some ⟨u,.siter s p⟩/\Qt 0 (JJ s)=Qt n (RN s p)) rfl rfl
  ⟨0,0,640,by simp[jex]⟩ ?_
 rintro k i ⟨p,n,u,rfl,D,z,m,h,w,a⟩ f;have q:i.df=[]:=by rw[f.d];simp
 have F:i.fb=0:=by rw[f.b];simp
 have fr:i.ro=0:=by rw[f.r];simp
 clear f;simp;refine j4z (l:=28) (u:=u) (pos:=p) (s:=s) (by simp[h]) (by simp[w]) (by simp[fr]) (λj=>?_) (λt=>?_);have B:=jki j;rw[jw3 j,Qt]at a;obtain⟨c,y⟩:∃c:Int,(rU s p:Int)=c:=⟨_,rfl⟩;rw[y]at a ⊢;simp;refine jJ (ev266 c) zS rfl rfl ?_;cases g:jci c;rw[g]at a;simp;exact j4 (by simp[q]) (by simp[a]) rfl;by_cases e:n=0;subst e;simp[m];refine jJ (ev267 c) zS rfl rfl ?_;cases o:WO c;simp[m,h,o,g]at a ⊢;exact⟨s.length - (p+rW s p),zO,p+rW s p,rfl,zO,1,zO,zQ,rfl,a⟩;simp[o,g]at a ⊢;exact j4 (by simp[q]) (by simp[a]) rfl;simp[m,h,g,beq0,e]at a ⊢;exact⟨s.length - (p+rW s p),zO,p+rW s p,rfl,zO,n+1,zO,by rw[jX zO zO];simp,rfl,a⟩;have:p=s.length:=zO;subst this;rw[j20 zK,Qt]at a;by_cases e:0<n;simp[m,e]at a ⊢;exact j4 (by simp[q]) (by simp[a];omega) rfl;simp[m,e]at a ⊢;exact j4 (by simp[q]) (by simp[a]) rfl
theorem ev212 (nl:Bool) (t:List (List UInt8)) (P:t.length<=1000000) (F:∀s∈t,s.length<=1000000):Ev E 212 [slOf nl Jv t] (.bool (jw6 t)):=by
 refine jS (af:=F212) rfl ?_;conv in (occs := *) F212=> all_goals cbv
 simp[F212];refine j6 [(2,4),(7,29)] t.length (λi s=>s.tm 7=.int .i64 i/\∀j,j<t.length->j<i->jq9 t j=true) rfl rfl ⟨zS,λj _ h=>by omega⟩ ?_;rintro i s O ⟨u,D⟩ f;have H:s.tm 0=slOf nl Jv t:=by rw[f.t 0 zS];simp
 have J:s.tm 5=slOf nl Jv t:=by rw[f.t 5 zS];simp
 have G:s.tm 6=.int .i64 t.length:=by rw[f.t 6 zS];simp
 have w:s.df=[]:=by rw[f.d];simp
 clear f;by_cases a:i<t.length;have I:=jZ a zO;have b:jq9 t i=(jiy t[i] && (i == 0 || ji1 (t.getD (i - 1) []) t[i])):=by unfold jq9;rw[X4 a]
 have o:=F _ (av a);obtain⟨c,N⟩:∃c,t[i]=c:=⟨_,rfl⟩;have p:=jgy t a;rw[N]at b p o;have step:jq9 t i=true->∀j,j<t.length->j<i+1->jq9 t j=true:=λh j m x=>by rcases aQ.1 x with h'|rfl;exact D j m h';exact h
 simp[u,J,G,a,j7 YO,p];refine jJ (ev229 c o) zS rfl rfl ?_;cases q:jiy c;rw[q]at b;simp;exact j4 (by simp[w]) (by simp[joc a b]) rfl;rw[q]at b;by_cases B:i=0;subst B;simp[u];exact⟨a,zQ,λj m h=>by subst h;exact step (by simp[b]) 0 m zO⟩;have r:0<i:=zO;have z:=j7k r zO;have k:i - 1<t.length:=zO;have y:=F _ (av k);have n:=jgy t k;rw[X4 k]at b;obtain⟨e,L⟩:∃e,t[i - 1]=e:=⟨_,rfl⟩;rw[L]at b n y;have M:=YR e;have K:=YR c;simp[H,r,z,k,j7 YO,n];refine jJ (ev251 e c zO zO) zS rfl rfl ?_;cases l:ji1 e c;have g:=l;unfold ji1 at g;rw[g];simp;exact j4 (by simp[w]) (by simp[joc a (by simp[b,l,B])]) rfl;have g:=l;unfold ji1 at g;rw[g];simp[u,I];exact⟨a,step (by simp[b,l])⟩;have:i=t.length:=zO;subst this;simp[u,G];exact j4 (by simp[w]) (by simp[j1q (λj m=>D j m m)]) rfl
end Go.Pv.T
