/- Which transactions may have committed; which reads were lost. -/
import Derived.Test.YtphecmnehkdihaaGreatDoorOD
import Derived.Sort.AssemblyPlain
import Derived.Laws.Bits64
set_option maxRecDepth 100000
namespace Go.Pv.T
open Go Go.Pv
def SlR (v:V) (nl:Bool) (n:Nat) (cs:List V):Prop:=∃t:Option (Nat × Nat),v=.sl t nl n cs∧∀p∈t.toList,p.1<64
theorem jzk {st:St}{n k:Nat}{t:Option (Nat × Nat)}{nl:Bool}{cs:List V}(hd:st.df=[]) (h:st.tm n=.sl t nl k cs):∃r,jce [.t n] (.ret,st)=some r∧SlR r nl k cs:=by
 have hres:[ARes.t n].mapM (jw st)=some [.sl t nl k cs]:=by simp[jw,h]
 obtain⟨a,ha,ha'⟩:=jc8 st t nl k cs (nodup (List.flatMap V.toks [.sl t nl k cs])) 0
 refine⟨.sl a nl k cs,?_,a,rfl,?_⟩
 ·simp only[jce,Wj hd,Wb hd,if_true,hres,Option.bind_some,Wp]
  generalize nodup (List.flatMap V.toks [.sl t nl k cs])=keep at *
  have e:Xv st keep 0 (.sl t nl k cs)=some (.sl a nl k cs):=ha
  simp only[JU,e,Option.bind_some,Option.map_some]
  have hnd:nodup (List.flatMap V.toks [.sl a nl k cs])=true:=by
   rcases ha' with rfl|⟨_,rfl⟩ <;> rfl
  show(if nodup (List.flatMap V.toks [.sl a nl k cs])=true then some (V.sl a nl k cs) else none)=_
  rw[if_pos hnd]
 ·intro p hp
  rcases ha' with rfl|⟨_,rfl⟩
  ·simp at hp
  ·simp at hp;subst hp;simp
theorem jha {ub:Nat}{v:V}{nl:Bool}{n:Nat}{cs:List V}(h:SlR v nl n cs):∃t add,YB ub v=some { v:=.sl t nl n cs,add:=add }:=by
 obtain⟨t,rfl,hlt⟩:=h
 cases t with
 | none=>exact⟨none,[],rfl⟩
 | some p=>
  have:=hlt p zS
  refine⟨some (ub+p.1,p.2),[ub+p.1],?_⟩
  rw[YB,if_pos (by simp[toksRes,V.toks,V.tok,Nat.blt_eq,this])]
  rfl
theorem slE {st:St}{n k:Nat}{t:Option (Nat × Nat)}{nl:Bool}{cs:List V}{P:V→Prop}(hP:∀r,SlR r nl k cs→P r) (hd:st.df=[]) (h:st.tm n=.sl t nl k cs):jfr [.t n] P .ret st:=by
 obtain⟨r,h1,h2⟩:=jzk hd h
 exact⟨r,h1,hP r h2⟩
def NumR (l:List Int) (v:V):Prop:=∃nl,SlR v nl l.length (l.flatMap intC)
theorem ev160 (t:Txn'):Ev E 160 [.agg (jl t)] (.bool (Jv t)):=by
 refine jU (af:=F160) rfl ?_
 simp[F160,jl,j1]
 exact j4 rfl (by simp[Jv]) rfl
theorem Wd {g:Hist'}(hm:XC g=true):errH g=0:=by unfold errH;rw[hm];rfl
theorem ev159 {g:Hist'}(hs:Small g) (hm:XC g=true):∃v,Ev E 159 [.agg (j2 g),.fn (.func 160) [] []] v∧NumR (Xa g) v:=by
 have e70:=jqe hs
 rw[Wd hm]at e70
 have hts:=hs.ts
 refine YE (af:=F159) rfl (by decide) ?_
 simp[F159,j2,j1]
 refine jV e70 (by simp[j2]) rfl (by simp[j2]) ?_
 simp[j1]
 refine jE [(4,7),(14,26)] g.ts.length (fun i s=>s.tm 14=.int .i64 i∧Grow s.tk 0 s.nx intC 1 (numsTo Jv g.ts i) (s.tm 5)) rfl rfl ⟨zS,by simp[numsTo];exact Grow.nil _ _ _ _ _⟩ ?_
 rintro i s hi ⟨h14,hG⟩ f
 have f1:s.tm 1=.fn (.func 160) [] []:=by rw[f.t 1 zS];simp
 have f12:s.tm 12=jN g.tn jl g.ts:=by rw[f.t 12 zS];simp
 have f13:s.tm 13=.int .i64 g.ts.length:=by rw[f.t 13 zS];simp
 have fd:s.df=[]:=by rw[f.d];simp
 have fb:s.fb=0:=by rw[f.b];simp
 have fr:s.ro=0:=by rw[f.r];simp
 clear f
 by_cases hlt:i<g.ts.length
 ·have hw:=J0 hlt zO
  have hsn:=JM (p:=Jv) hlt
  obtain⟨t,ht⟩:∃t,g.ts[i]=t:=⟨_,rfl⟩
  rw[ht]at hsn
  have hll:=JJ Jv g.ts i
  simp[h14,f12,f13,hlt,j7 jA,jk jA,ht,jl,j1,fb,fr,j6,f1]
  refine j9y (f:=160) (first:=[]) (captured:=[]) (ev160 t) zS (by simp[jl]) rfl (by simp[jl]) ?_
  cases hi:Jv t
  ·rw[hi]at hsn
   simp only[Bool.false_eq_true,if_false,List.append_nil]at hsn
   simp[h14,hw]
   exact⟨hlt,by rw[hsn];exact hG.mono (fun u _ _ h=>by simpa[JG] using h) zO⟩
  ·rw[hi]at hsn
   simp only[if_true]at hsn
   simp
   refine jS (cs:=[.int .i64 i]) (by simp[j6]) rfl rfl ?_
   simp
   refine YL (f:=intC) (lo:=0) (hi:=s.nx) (l:=numsTo Jv g.ts i) (a:=(i:Int)) (v:=s.tm 5) (hG.mono (fun u _ _ h=>by simp[jv,h]) (Nat.le_refl _)) zS (by simp[jI,intC]) jG (by decide) rfl zO zO (fun del hdel=>?_)
   have hne:numsTo Jv g.ts (i+1)≠[]:=by rw[hsn];simp
   have hlen:(numsTo Jv g.ts i).length+1=(numsTo Jv g.ts (i+1)).length:=by rw[hsn];simp
   rw[← hsn,hlen]
   simp[h14,hw]
   exact⟨hlt,.inr ⟨hne,_,rfl,by simp[jv],Nat.zero_le _,zO⟩⟩
 ·have:i=g.ts.length:=by omega
  subst this
  obtain⟨t,ht⟩:=hG.form
  simp[h14,f13]
  exact slE (t:=t) (nl:=(numsTo Jv g.ts g.ts.length).isEmpty) (k:=(Xa g).length) (cs:=(Xa g).flatMap intC) (fun r h=>⟨_,h⟩) (by simp[fd]) (by simp[ht,Xa])
theorem ev104 {g:Hist'}(hs:Small g) (hm:XC g=true):∃v,Ev E 104 [.agg (j2 g)] v∧NumR (Xa g) v:=by
 obtain⟨v,ev,nl,hv⟩:=ev159 hs hm
 refine YE (af:=F104) rfl (by decide) ?_
 simp[F104,j2,j1]
 refine jV ev (by simp[j2]) rfl (by simp[j2]) ?_
 obtain⟨t,add,hr⟩:=jha (ub:=192) hv
 rw[hr]
 simp
 exact slE (t:=t) (nl:=nl) (k:=(Xa g).length) (cs:=(Xa g).flatMap intC) (fun r h=>⟨_,h⟩) rfl zS
theorem j5r {st:St}{n k l u:Nat}{t:Option (Nat × Nat)}{nl:Bool}{cs:List V}{P:V→Prop}(hP:∀r,SlR r nl k cs→P r) (hd:st.df=[(l,u)]) (ho:st.ob l=some ⟨u,.dfr⟩) (hr:st.ro≤u) (h:st.tm n=.sl t nl k cs):jfr [.t n] P .ret st:=by
 obtain⟨r,h1,h2⟩:=jzk (st:={ st with ob:=fun k=>if Nat.beq l k then none else st.ob k,df:=[] }) rfl h
 exact⟨r,QI hd ho hr h1,hP r h2⟩
def jH (p:Int × Int):List V:=[.int .i64 p.1,.int .i64 p.2]
@[simp] theorem X0 (p:Int × Int):(jH p).length=2:=rfl
def jem (i:Nat) (ops:List Op'):Nat→List (Int × Int)
 | 0=>[]
 | k+1=>jem i ops k++(match ops[k]? with|some o=>if o.v.kind == 2 then [((i:Int),(k:Int))] else []|none=>[])
def jel (ts:List Txn'):Nat→List (Int × Int)
 | 0=>[]
 | i+1=>jel ts i++(match ts[i]? with|some t=>jem i t.ops t.ops.length|none=>[])
def Jr (h:Hist') (i k:Nat):List (Int × Int):=jel h.ts i++(match h.ts[i]? with|some t=>jem i t.ops k|none=>[])
def jb1 (h:Hist'):List (Int × Int):=jel h.ts h.ts.length
theorem jb0 (i:Nat) (ops:List Op'):∀k,(jem i ops k).length≤k
 | 0=>Nat.le_refl _
 | k+1=>by
  have:=jb0 i ops k
  simp only[jem,List.length_append]
  split
  ·split <;> simp <;> omega
  ·simp;omega
theorem jbz {ts:List Txn'}(h:∀t∈ts,t.ops.length≤1000):∀i,(jel ts i).length≤i*1000
 | 0=>Nat.zero_le _
 | i+1=>by
  have:=jbz h i
  simp only[jel,List.length_append]
  rw[show(i+1)*1000=i*1000+1000 by omega]
  split
  ·rename_i t ht
   have h1:=jb0 i t.ops t.ops.length
   have h2:=h t (List.mem_of_getElem? ht)
   omega
  ·simp only[List.length_nil];omega
theorem jeo {h:Hist'}{i k:Nat}(hi:i<h.ts.length) (hk:k<(h.ts[i]).ops.length):Jr h i (k+1)=Jr h i k++(if (h.ts[i]).ops[k].v.kind == 2 then [((i:Int),(k:Int))] else []):=by
 simp only[Jr,List.getElem?_eq_getElem hi,jem,List.getElem?_eq_getElem hk,List.append_assoc]
theorem jep {h:Hist'}{i:Nat}(hi:i<h.ts.length):Jr h i (h.ts[i]).ops.length=Jr h (i+1) 0:=by
 simp only[Jr,List.getElem?_eq_getElem hi,jel]
 cases h.ts[i+1]? <;> simp[jem]
theorem jgn (h:Hist'):Jr h h.ts.length 0=jb1 h:=by simp[Jr,jb1]
theorem jen (h:Hist'):Jr h 0 0=[]:=by unfold Jr;cases h.ts[0]? <;> rfl
theorem jgm {h:Hist'}(hs:Small h) {i k:Nat}(hi:i<h.ts.length) (hk:k≤(h.ts[i]).ops.length):(Jr h i k).length≤1001000:=by
 have h1:=jbz hs.os i
 have h2:=hs.ts
 have h3:=jb0 i (h.ts[i]).ops k
 have h4:=hs.os _ (List.getElem_mem hi)
 simp only[Jr,List.getElem?_eq_getElem hi,List.length_append]
 have:i*1000≤1000*1000:=Nat.mul_le_mul_right _ zO
 omega
def PlR (l:List (Int × Int)) (v:V):Prop:=∃nl,SlR v nl l.length (l.flatMap jH)
theorem ev105 {g:Hist'}(hs:Small g) (hm:XC g=true):∃v,Ev E 105 [.agg (j2 g)] v∧PlR (jb1 g) v:=by
 have e70:=jqe hs
 rw[Wd hm]at e70
 have hts:=hs.ts
 refine YE (af:=F105) rfl (by decide) ?_
 simp[F105,j2,j1]
 refine jV e70 (by simp[j2]) rfl (by simp[j2]) ?_
 simp[j1]
 refine ja7 (vs:=[.agg (j2 g)]) (by simp[j2]) rfl ?_
 obtain⟨r,hr,e1,e2,e3,e4⟩:=j3v (Yf:=YC) g _ _ 0 _ _
 refine⟨r,hr,?_⟩
 simp
 refine JS fun st hst=>?_
 obtain⟨m,hmm,hmU,g10,p2,p6,pl⟩:∃m,m % 64=0∧m<st.nx∧st.tm 10=.fn (.func 215) [] [.ptr (2*m+1) m 0]∧st.ob 2=some ⟨0,.cells (j2 g)⟩∧(∃u,st.tm 3=.ptr 6 u 0∧st.ob 6=some ⟨u,.cells [.sl none true 0 []]⟩)∧st.ob (2*m+1)=some ⟨m,.cells (j2 g)⟩:=by
  refine⟨_,?_,?_,by rw[hst];simp only[jky,put,Yg];exact e1,?_,⟨320,?_,?_⟩,?_⟩
  ·decide
  ·rw[hst,jg7,e4];omega
  ·rw[hst];simp only[JD];rw[e2];simp[j2]
  ·rw[hst];simp[put,j5]
  ·rw[hst];simp only[JD];rw[e2];simp
  ·rw[hst];simp only[JD];rw[e2];simp
 obtain⟨u6,g3,p6⟩:=p6
 have gd:st.df=[]:=by rw[hst];simp
 have gb:st.fb=0:=by rw[hst];simp
 have gr:st.ro=0:=by rw[hst];simp
 clear hst e1 e2 e3 e4 hr
 refine jga g hts (fun t ht=>by have:=hs.os t ht;omega) rfl rfl rfl (by simpa using g10) pl zO zO gr
  (fun i k ob tk ub=>∃Lv,ob 6=some ⟨u6,.cells [Lv]⟩∧Grow tk 0 ub jH 2 (Jr g i k) Lv) ?_ ?_ ?_ ?_ ?_
 ·rintro i k ob ob' tk ub ub' ⟨Lv,h1,h2⟩ hub hfr
  exact⟨Lv,(hfr 6 (fun m _=>by omega)).trans h1,h2.mono (fun _ _ _ h=>h) hub⟩
 ·rintro i hi ob tk ub ⟨Lv,h1,h2⟩
  exact⟨Lv,h1,by rw[← jep hi];exact h2⟩
 ·rintro i hi k hk ob tk ub ⟨Lv,h1,h2⟩ w1 w3 hub
  have r1:¬ 2*st.nx+1=8:=by omega
  have r3:¬ 2*st.nx+1=10:=by omega
  have r5:¬ 2*st.nx+1=6:=by omega
  have q1:¬ 2*st.nx+3=8:=by omega
  have q3:¬ 2*st.nx+3=10:=by omega
  have q5:¬ 2*st.nx+3=6:=by omega
  have q7:¬ 2*st.nx+3=2*st.nx+1:=by omega
  have b8:¬ 8=2*st.nx+1:=by omega
  have b10:¬ 10=2*st.nx+1:=by omega
  have b6:¬ 6=2*st.nx+1:=by omega
  have hstep:=jeo hi hk
  have hll:=jgm hs hi (Nat.le_of_lt hk)
  obtain⟨o,ho⟩:∃o,(g.ts[i]).ops[k]=o:=⟨_,rfl⟩
  rw[ho]at hstep ⊢
  obtain⟨tL,hLv⟩:=h2.form
  simp[jdx,j5,opC,j1,gb,j6,r1,r3,w1,b10]
  cases hl:(o.v.kind == 2)
  ·rw[hl]at hstep
   simp only[Bool.false_eq_true,if_false,List.append_nil]at hstep
   simp[j5,q1,q3,w3,b6,h1]
   exact⟨zO,by rw[hstep];exact h2.mono (fun u _ _ h=>by simpa[JG] using h) zO⟩
  ·rw[hl]at hstep
   simp only[if_true]at hstep
   simp[g3,j5,b6,h1,j1,b8]
   refine jS (cs:=jH (i,k)) (by simp[j6,jH]) rfl rfl ?_
   simp
   refine YL (f:=jH) (lo:=0) (hi:=ub) (l:=Jr g i k) (a:=((i:Int),(k:Int))) (v:=Lv) (h2.mono (fun u _ _ h=>by simp[JG,jv,h]) (Nat.le_refl _)) zS (by simp[jI,jH]) X0 (by decide) rfl zO zO (fun del hdel=>?_)
   have hne:Jr g i (k+1)≠[]:=by rw[hstep];simp
   have hlen:(Jr g i k).length+1=(Jr g i (k+1)).length:=by rw[hstep];simp
   rw[← hstep,hlen]
   simp[g3,j5,b6,h1,j1,j6,r5,q5,q1,q3,w3]
   exact⟨zO,.inr ⟨hne,_,rfl,by simp[JG,jv],Nat.zero_le _,zO⟩⟩
 ·exact⟨_,p6,by rw[jen];exact Grow.nil _ _ _ _ _⟩
 ·rintro ob tk ub ⟨Lv,h1,h2⟩ w3 hub
  rw[jgn]at h2
  obtain⟨tL,hLv⟩:=h2.form
  simp[g3,j1,h1,hLv]
  exact j5r (l:=2*st.nx+3) (u:=st.nx+1) (t:=tL) (nl:=(jb1 g).isEmpty) (k:=(jb1 g).length) (cs:=(jb1 g).flatMap jH) (fun r h=>⟨_,h⟩) (by simp[gd]) (by simp[w3]) (by simp[gr]) zS
def GrowT {α:Type}(tk:Nat→Bool) (nx:Nat) (f:α→List V) (sz:Nat) (l:List α) (v:V):Prop:=∃u,v=.sl (some (u,sz)) false l.length (l.flatMap f)∧tk u=true∧u<nx
theorem GrowT.mono {α:Type}{tk tk':Nat→Bool}{nx nx':Nat}{f:α→List V}{sz:Nat}{l:List α}{v:V}(h:GrowT tk nx f sz l v) (ht:∀u,u<nx→tk u=true→tk' u=true) (hn:nx≤nx'):GrowT tk' nx' f sz l v:=by
 obtain⟨u,hv,h1,h2⟩:=h
 exact⟨u,hv,ht u h2 h1,zO⟩
theorem WA {E:Env}{Yf:YF}{st:St}{ub:Nat}{K:St→Nat→Prop}{d:Option Nat}{nm:Bool}{α:Type}{f:α→List V}{sz bytes hi:Nat}{l:List α}{a:α}{v:V}{s x:A}(hg:GrowT st.tk hi f sz l v) (hs:eval E st.tm s=v) (hx:jI st.ob sz (eval E st.tm x)=some (f a)) (hf:∀a,(f a).length=sz) (h0:0<sz)
 (hp:(f a).all V.pureLeaf=true) (hb:(l.length+1)*bytes≤140737488355328) (hb2:l.length+1≤140737488355328)
 (h:∀del:Option Nat,(∀u,del=some u→u<hi)→jaj K st d ub { v:=.sl (some (ub,sz)) false (l.length+1) ((l++[a]).flatMap f),del:=del,add:=[ub] }):j8 E Yf ⟨d,.append false sz bytes s x,none,nm⟩ st ub K:=by
 have hne:f a≠[]:=fun e=>by have:=hf a;rw[e]at this;simp at this;omega
 have h1:(f a).length / sz=1:=by rw[hf];exact Nat.div_self h0
 obtain⟨u,rfl,ht,h3⟩:=hg
 refine X3 hs ht hx hne (by rw[j9 hf]) h0 hp (by rw[h1];exact hb) (by rw[h1];exact hb2) ?_
 rw[h1]
 have:=h (some u) (fun u' e=>by cases e;exact h3)
 simpa using this
theorem ev60 {g:Hist'}(hs:Small g):∃v,Ev E 60 [.agg (j2 g)] v∧PlR (jb1 g) v:=by
 have hts:=hs.ts
 refine YE (af:=F60) rfl (by decide) ?_
 simp[F60,j2]
 refine jS (cs:=[]) rfl rfl rfl ?_
 simp
 refine jE [(3,5),(7,42)] g.ts.length (fun i s=>s.tm 4=.int .i64 i∧s.ob 2=some ⟨0,.cells (j2 g)⟩∧GrowT s.tk s.nx jH 2 (Jr g i 0) (s.tm 3)) rfl rfl ⟨zS,by simp[j2],by rw[jen];exact⟨128,zS,by simp[jv],zS⟩⟩ ?_
 rintro i s hi ⟨h4,o2,hG⟩ f
 have f1:s.tm 1=.ptr 2 0 0:=by rw[f.t 1 zS];simp
 have fd:s.df=[]:=by rw[f.d];simp
 clear f
 by_cases hlt:i<g.ts.length
 ·have hw:=J0 hlt zO
  simp[h4,f1,o2,j1,j2,hlt]
  refine jE [(3,3),(5,5),(14,42)] (g.ts[i]).ops.length (fun k s'=>s'.tm 5=.int .i64 k∧s'.ob=s.ob∧GrowT s'.tk s'.nx jH 2 (Jr g i k) (s'.tm 3)) rfl rfl ⟨zS,zS,by simp;exact hG.mono (fun _ _ h=>h) zO⟩ ?_
  rintro k s' hk ⟨h5,hob,hG'⟩ f
  have e1:s'.tm 1=.ptr 2 0 0:=by rw[f.t 1 zS];simp[f1]
  have e4:s'.tm 4=.int .i64 i:=by rw[f.t 4 zS];simp[h4]
  have ed:s'.df=[]:=by rw[f.d];simp[fd]
  clear f
  have o2':s'.ob 2=some ⟨0,.cells (j2 g)⟩:=by rw[hob];exact o2
  obtain⟨t,ht⟩:∃t,g.ts[i]=t:=⟨_,rfl⟩
  have hos:=hs.os t (ht▸List.getElem_mem hlt)
  have hfo:(g.ts.flatMap jl)[i*3+2]? = some (jN t.nl opC t.ops):=by
   rw[jh jA g.ts hlt (by decide:2<3),ht];rfl
  by_cases hkt:k<(g.ts[i]).ops.length
  ·have hstep:=jeo hlt hkt
   have hll:=jgm hs hlt (Nat.le_of_lt hkt)
   obtain⟨o,ho⟩:∃o,(g.ts[i]).ops[k]=o:=⟨_,rfl⟩
   rw[ho]at hstep
   subst ht
   have hw':=J0 hkt zO
   have hfk:((g.ts[i]).ops.flatMap opC)[k*4+2]? = some (.int .i64 o.v.kind):=by
    rw[jh jK (g.ts[i]).ops hkt (by decide:2<4),ho];rfl
   cases hl:(o.v.kind == 2)
   ·rw[hl]at hstep
    simp only[Bool.false_eq_true,if_false,List.append_nil]at hstep
    simp[h5,e1,e4,j1,j2,hlt,j7 jA,hfo,hkt,j7 jK,hfk,hl,hw',hob,o2]
    rw[hstep]
    exact hG'.mono (fun _ _ h=>h) zO
   ·rw[hl]at hstep
    simp only[if_true]at hstep
    simp[h5,e1,e4,o2',j1,j2,hlt,j7 jA,hfo,hkt,j7 jK,hfk,hl,j6]
    refine jS (cs:=jH (i,k)) (by simp[j6,jH]) rfl rfl ?_
    simp
    refine WA (f:=jH) (hi:=s'.nx) (l:=Jr g i k) (a:=((i:Int),(k:Int))) (v:=s'.tm 3) (hG'.mono (fun u _ h=>by simp[jv,h]) (Nat.le_refl _)) zS (by simp[jI,jH]) X0 (by decide) rfl zO zO (fun del hdel=>?_)
    have hlen:(Jr g i k).length+1=(Jr g i (k+1)).length:=by rw[hstep];simp
    rw[← hstep,hlen]
    simp[h5,hw',hob]
    exact⟨hkt,_,rfl,by simp[jv],zO⟩
  ·have:k=(g.ts[i]).ops.length:=by omega
   subst this
   subst ht
   simp[h5,e1,e4,o2',j1,j2,hlt,j7 jA,hfo,hw]
   rw[← jep hlt]
   exact hG'.mono (fun _ _ h=>h) zO
 ·have:i=g.ts.length:=by omega
  subst this
  rw[jgn]at hG
  obtain⟨u,hv,_,_⟩:=hG
  simp[h4,f1,o2,j1,j2]
  exact slE (t:=some (u,2)) (nl:=false) (k:=(jb1 g).length) (cs:=(jb1 g).flatMap jH) (fun r h=>⟨_,h⟩) (by simp[fd]) (by simp[hv])
def wkB (k:Int) (o:Op'):Bool:=o.w && o.key == k
def wrB (k:Int) (t:Txn'):Bool:=t.f != 2 && t.ops.any (wkB k)
def KeyAt (k:Int) (ob:ZO) (l u:Nat):Prop:=l % 2=0∧ob l=some ⟨u,.cells [.int .i64 k]⟩
theorem evo296 {k:Int}{ob:ZO}{l u:Nat}(hk:KeyAt k ob l u) (o:Op') (tk:Nat→Bool) (base ub:Nat):EvO E 296 [.agg (opC o),.ptr l u 0] ob tk base ub (.bool (wkB k o)):=by
 obtain⟨h2,ho⟩:=hk
 refine JR (af:=S296) rfl ?_
 have hne:¬ l=2*ub+1:=by omega
 unfold wkB
 cases hw:o.w
 ·simp[S296,opC,j1,hw]
  exact j4 rfl zS rfl
 ·simp[S296,opC,j1,hw,hne,ho]
  exact j4 rfl zS rfl
theorem evo305 {p:Op'→Bool}{g:FuncId}{cap:V}{ob:ZO}(hs:E.sh true g=false) (hcap:cap.strip.pureTop=false) (hp:∀ (t:Op') (tk:Nat→Bool) (base ub:Nat),EvO E g [.agg (opC t),cap] ob tk base ub (.bool (p t)))
 (nl:Bool) (l:List Op') (hl:l.length≤1000000000) (tk:Nat→Bool) (base ub:Nat):EvO E 305 [jN nl opC l,.fn (.func g) [] [cap]] ob tk base ub (.int .i64 (Qo p l)):=by
 refine JR (af:=S305) rfl ?_
 simp[S305]
 refine jE [(4,5),(8,18)] l.length (fun i s=>s.tm 8=.int .i64 i∧s.ob=ob∧∀j (hj:j<l.length),j<i→p l[j]=false) rfl rfl ⟨zS,zS,fun _ _ h=>by omega⟩ ?_
 rintro i s hi ⟨h8,ho,hb⟩ f
 have h0:s.tm 0=jN nl opC l:=by rw[f.t 0 zS];simp
 have h1:s.tm 1=.fn (.func g) [] [cap]:=by rw[f.t 1 zS];simp
 have h7:s.tm 7=.int .i64 l.length:=by rw[f.t 7 zS];simp
 have hd:s.df=[]:=by rw[f.d];simp
 clear f
 by_cases hlt:i<l.length
 ·have hw:=J0 hlt hl
  simp[h0,h1,h7,h8,hlt,j7 jK,jk jK]
  refine Q8 (f:=g) (first:=[]) (captured:=[cap]) zS hs (by simp[hcap]) (v:=.bool (p l[i])) (by simpa[ho] using hp l[i] _ _ _) ?_
  cases hpi:p l[i]
  ·simp[h8,hw]
   refine⟨hlt,ho,?_⟩
   intro j hj hji
   rcases Nat.lt_succ_iff_lt_or_eq.1 hji with h|rfl
   ·exact hb j hj h
   ·exact hpi
  ·simp
   refine j4 (by simpa using hd) ?_ rfl
   simp
   rw[Yl hlt hpi hb]
 ·have:i=l.length:=by omega
  subst this
  simp[h7,h8]
  refine j4 (by simpa using hd) ?_ rfl
  simp[Wg (fun j hj=>hb j hj hj)]
theorem evo295 {p:Op'→Bool}{g:FuncId}{ob:ZO}{a b c:Nat}(hs:E.sh true g=false) (hp:∀ (t:Op') (tk:Nat→Bool) (base ub:Nat),EvO E g [.agg (opC t),.ptr a b c] ob tk base ub (.bool (p t)))
 (nl:Bool) (l:List Op') (hl:l.length≤1000000000) (tk:Nat→Bool) (base ub:Nat):EvO E 295 [jN nl opC l,.fn (.func g) [] [.ptr a b c]] ob tk base ub (.bool (l.any p)):=by
 refine JR (af:=S295) rfl ?_
 simp[S295]
 refine J7 (vs:=[jN nl opC l,.fn (.func g) [] [.ptr a b c]]) zS rfl rfl (evo305 hs rfl hp nl l hl _ _ _) ?_
 simp
 exact j4 rfl (by simp[QV]) rfl
theorem evo294 {k:Int}{ob:ZO}{l u:Nat}(hk:KeyAt k ob l u) (t:Txn') (ht:t.ops.length≤1000000) (tk:Nat→Bool) (base ub:Nat):EvO E 294 [.agg (jl t),.ptr l u 0] ob tk base ub (.bool (wrB k t)):=by
 have hne:¬ l=2*ub+1:=by have:=hk.1;omega
 refine JR (af:=S294) rfl ?_
 unfold wrB
 cases hf:(t.f != 2)
 ·simp[S294,jl,j1,hf]
  exact j4 rfl zS rfl
 ·simp[S294,jl,j1,hf]
  refine J7 (vs:=[jN t.nl opC t.ops,.fn (.func 296) [] [.ptr l u 0]]) zS rfl rfl (evo295 (p:=wkB k) rfl (fun t' tk base ub'=>evo296 ?_ t' tk base ub') t.nl t.ops zO _ _ _) ?_
  ·obtain⟨h2,ho⟩:=hk
   exact⟨h2,by simp[hne,ho]⟩
  ·simp
   exact j4 rfl zS rfl
def writersH (g:Hist') (k:Int):List Int:=numsTo (wrB k) g.ts g.ts.length
theorem ev281 {g:Hist'}(hs:Small g) (hm:XC g=true) (k:Int):∃v,Ev E 281 [.agg (j2 g),.int .i64 k] v∧NumR (writersH g k) v:=by
 have e70:=jqe hs
 rw[Wd hm]at e70
 have hts:=hs.ts
 refine YE (af:=F281) rfl (by decide) ?_
 simp[F281,j2,j1]
 refine jV e70 (by simp[j2]) rfl (by simp[j2]) ?_
 simp[j1]
 refine jE [(4,4),(6,8),(16,28)] g.ts.length (fun i s=>s.tm 16=.int .i64 i∧s.ob 6=some ⟨64,.cells [.int .i64 k]⟩∧Grow s.tk 0 s.nx intC 1 (numsTo (wrB k) g.ts i) (s.tm 6)) rfl rfl ⟨zS,zS,by simp[numsTo];exact Grow.nil _ _ _ _ _⟩ ?_
 rintro i s hi ⟨h16,o6,hG⟩ f
 have f5:s.tm 5=.fn (.func 294) [] [.ptr 6 64 0]:=by rw[f.t 5 zS];simp
 have f14:s.tm 14=jN g.tn jl g.ts:=by rw[f.t 14 zS];simp
 have f15:s.tm 15=.int .i64 g.ts.length:=by rw[f.t 15 zS];simp
 have fd:s.df=[]:=by rw[f.d];simp
 have fb:s.fb=0:=by rw[f.b];simp
 have fr:s.ro=0:=by rw[f.r];simp
 clear f
 by_cases hlt:i<g.ts.length
 ·have hw:=J0 hlt zO
  have hsn:=JM (p:=wrB k) hlt
  obtain⟨t,ht⟩:∃t,g.ts[i]=t:=⟨_,rfl⟩
  rw[ht]at hsn
  have hos:=hs.os t (ht▸List.getElem_mem hlt)
  have hll:=JJ (wrB k) g.ts i
  simp[h16,f14,f15,hlt,j7 jA,jk jA,ht,jl,j1,fb,fr,j6,f5]
  refine Q8 (f:=294) (first:=[]) (captured:=[.ptr 6 64 0]) zS rfl (by simp;rfl) (evo294 (k:=k) (l:=6) (u:=64) ⟨rfl,by simp[o6]⟩ t zO _ _ _) ?_
  cases hi:wrB k t
  ·rw[hi]at hsn
   simp only[Bool.false_eq_true,if_false,List.append_nil]at hsn
   simp[h16,hw,o6]
   exact⟨hlt,by rw[hsn];exact hG.mono (fun u _ _ h=>by simpa[JG] using h) zO⟩
  ·rw[hi]at hsn
   simp only[if_true]at hsn
   simp
   refine jS (cs:=[.int .i64 i]) (by simp[j6]) rfl rfl ?_
   simp
   refine YL (f:=intC) (lo:=0) (hi:=s.nx) (l:=numsTo (wrB k) g.ts i) (a:=(i:Int)) (v:=s.tm 6) (hG.mono (fun u _ _ h=>by simp[jv,h]) (Nat.le_refl _)) zS (by simp[jI,intC]) jG (by decide) rfl zO zO (fun del hdel=>?_)
   have hne:numsTo (wrB k) g.ts (i+1)≠[]:=by rw[hsn];simp
   have hlen:(numsTo (wrB k) g.ts i).length+1=(numsTo (wrB k) g.ts (i+1)).length:=by rw[hsn];simp
   rw[← hsn,hlen]
   simp[h16,hw,o6]
   exact⟨hlt,.inr ⟨hne,_,rfl,by simp[jv],Nat.zero_le _,zO⟩⟩
 ·have:i=g.ts.length:=by omega
  subst this
  obtain⟨t,ht⟩:=hG.form
  simp[h16,f15]
  exact slE (t:=t) (nl:=(numsTo (wrB k) g.ts g.ts.length).isEmpty) (k:=(writersH g k).length) (cs:=(writersH g k).flatMap intC) (fun r h=>⟨_,h⟩) (by simp[fd]) (by simp[ht,writersH])
def jnq (g:Hist'):Nat→Nat
 | 0=>0
 | i+1=>max (jnq g i) (writersH g i).length
def mostH (g:Hist'):Nat:=jnq g g.ks.length
theorem jji {g:Hist'}(hs:Small g):∀i,jnq g i≤1000
 | 0=>Nat.zero_le _
 | i+1=>by
  have h1:=jji hs i
  have h2:=JJ (wrB i) g.ts g.ts.length
  have h3:=hs.ts
  simp only[jnq,writersH]
  omega
def J4 (k:Int) (ops:List Op'):Nat→Val' × Bool
 | 0=>(⟨0,0⟩,false)
 | i+1=>match ops[i]? with
  | some o=>if wkB k o then (o.v,true) else J4 k ops i
  | none=>J4 k ops i
theorem QP {k:Int}{ops:List Op'}{i:Nat}(h:i<ops.length):J4 k ops (i+1)=if wkB k ops[i] then (ops[i].v,true) else J4 k ops i:=by simp[J4,List.getElem?_eq_getElem h]
theorem Q1 (k:Int) (ops:List Op'):∀i,i≤ops.length→(J4 k ops i).2=(ops.take i).any (wkB k)
 | 0,_=>by simp[J4]
 | i+1,h=>by
  rw[QP zO,List.take_succ_eq_append_getElem zO,List.any_append,← Q1 k ops i zO]
  cases hw:wkB k ops[i] <;> simp[hw]
theorem ev84 (t:Txn') (ht:t.ops.length≤1000000) (k:Int):Ev E 84 [.agg (jl t),.int .i64 t.ops.length,.int .i64 k] (.tup [.agg (JH (J4 k t.ops t.ops.length).1),.bool (J4 k t.ops t.ops.length).2]):=by
 refine jU (af:=F84) rfl ?_
 simp[F84,jl,j1,j6]
 refine jE [(9,10),(12,45)] t.ops.length (fun i s=>s.tm 10=.int .i64 i∧s.ob 6=some ⟨0,.cells (jl t)⟩∧s.ob 12=some ⟨64,.cells [.int .i64 0,.int .i64 0]⟩∧s.ob 16=some ⟨256,.cells (JH (J4 k t.ops i).1)⟩∧s.tm 9=.bool (J4 k t.ops i).2) rfl rfl
  ⟨zS,by simp[jl],zS,by simp[J4,JH],by simp[J4]⟩ ?_
 rintro i s hi ⟨h10,o6,o12,o16,h9⟩ f
 have f1:s.tm 1=.int .i64 t.ops.length:=by rw[f.t 1 zS];simp
 have f2:s.tm 2=.int .i64 k:=by rw[f.t 2 zS];simp
 have f3:s.tm 3=.ptr 6 0 0:=by rw[f.t 3 zS];simp
 have f6:s.tm 6=.ptr 12 64 0:=by rw[f.t 6 zS];simp
 have f8:s.tm 8=.ptr 16 256 0:=by rw[f.t 8 zS];simp
 have fd:s.df=[]:=by rw[f.d];simp
 have fr:s.ro=0:=by rw[f.r];simp
 clear f
 by_cases hlt:i<t.ops.length
 ·have hw:=J0 hlt zO
  have hs:=QP (k:=k) hlt
  obtain⟨o,ho⟩:∃o,t.ops[i]=o:=⟨_,rfl⟩
  rw[ho]at hs
  have a0:(t.ops.flatMap opC)[i*4]? = some (.bool o.w):=by
   have:=jh jK t.ops hlt (by decide:0<4)
   rw[Nat.add_zero,ho]at this
   rw[this];rfl
  have a1:(t.ops.flatMap opC)[i*4+1]? = some (.int .i64 o.key):=by
   rw[jh jK t.ops hlt (by decide:1<4),ho];rfl
  have a2:∀ob,Qh ob (some 2) (.eptr (t.ops.flatMap opC) (i*4+2))=some (.agg (JH o.v)):=fun ob=>by
   have hle:i*4+4≤t.ops.length*4:=by omega
   rw[jb4,W5,if_pos (by rw[j9 jK];omega)]
   have:=Xk jK t.ops i hlt
   rw[ho]at this
   have e:((t.ops.flatMap opC).drop (i*4+2)).take 2=((((t.ops.flatMap opC).drop (i*4)).take 4).drop 2):=by
    rw[List.drop_take,List.drop_drop]
   rw[e,this]
   rfl
  cases hwk:o.w
  ·have hk:wkB k o=false:=by unfold wkB;rw[hwk];rfl
   rw[hk]at hs
   simp only[Bool.false_eq_true,if_false]at hs
   simp[h10,f1,f3,o6,j1,jl,hlt,j7 jK,a0,hwk,hw,o12,o16,h9]
   exact⟨by rw[hs],by rw[hs]⟩
  ·cases hke:(o.key == k)
   ·have hk:wkB k o=false:=by unfold wkB;rw[hwk,hke];rfl
    rw[hk]at hs
    simp only[Bool.false_eq_true,if_false]at hs
    simp[h10,f1,f2,f3,o6,j1,jl,hlt,j7 jK,a0,a1,hwk,hke,hw,o12,o16,h9]
    exact⟨by rw[hs],by rw[hs]⟩
   ·have hk:wkB k o=true:=by unfold wkB;rw[hwk,hke];rfl
    rw[hk]at hs
    simp only[if_true]at hs
    simp[h10,f1,f2,f3,f8,o6,j1,jl,hlt,j7 jK,a0,a1,a2,hwk,hke,hw,o12,o16,JH,fr,j6]
    rw[hs]
    simp
 ·have:i=t.ops.length:=by omega
  subst this
  simp[h10,f1,f8,o16,j1,h9,f6,o12,JH,fr,j6]
  exact JP (by simp[fd]) (l:=[.agg (JH (J4 k t.ops t.ops.length).1),.bool (J4 k t.ops t.ops.length).2]) (by simp[jw,j1,f6,JH]) rfl rfl
section
variable {E:Env}{Yf:YF}{st:St}{ub:Nat}{K:St→Nat→Prop}{d:Option Nat}{nm:Bool}
end
theorem jrm {st:St}{L u n:Nat}{cs:List V}(ho:st.ob L=some ⟨u,.cells cs⟩) (hl:cs.length=n) (hro:st.ro≤u) (hp:cs.all V.pureLeaf=true):Jm st 6 (.osl L u 0 n 1)=some (.sl none false n cs):=by
 have hoc:j1 st.ob L u=some cs:=by simp[j1,ho]
 have hm:∀ (k:Nat) (l:List V),l.all V.pureLeaf=true→l.mapM (Jm st (k+1))=some l:=by
  intro k l
  induction l with
  | nil=>intro _;rfl
  | cons a l ih=>
   intro h
   simp only[List.all_cons,Bool.and_eq_true]at h
   rw[List.mapM_cons,ih h.2]
   have:Jm st (k+1) a=some a:=by
    have:=Yj (st:=st) (keep:=false) (i:=0) h.1
    cases a with
    | sl t nl n cs=>cases t with
     | none=>rfl
     | some t=>cases h.1
    | osl=>cases h.1
    | _=>simp only[Jm,h.1,if_true]
   rw[this]
   rfl
 show((j1 st.ob L u).bind fun cs=>if Nat.ble st.ro u=true∧0+n*1≤cs.length then (((cs.drop 0).take (n*1)).mapM (Jm st 5)).map fun cs'=>V.sl none false n cs' else none)=_
 rw[hoc,Option.bind_some,if_pos ⟨Nat.ble_eq▸hro,zO⟩,List.drop_zero,Nat.mul_one,List.take_of_length_le zO,hm 4 cs hp]
 rfl
theorem jis {st:St}{L u n:Nat}{cs:List V}(ho:st.ob L=some ⟨u,.cells cs⟩) (hl:cs.length=n) (hro:st.ro≤u) (hp:cs.all V.pureLeaf=true):jfh st (.osl L u 0 n 1) false n cs:=by
 intro keep i
 have hoc:j1 st.ob L u=some cs:=by simp[j1,ho]
 have hs:=jrm ho hl hro hp
 refine⟨_,by simp only[jr,hs,Option.bind_some,hoc,Option.map_some];rfl,?_⟩
 split
 ·exact .inr ⟨_,rfl⟩
 ·exact .inl rfl
end Go.Pv.T
namespace Go.Pv.T
open Go Go.Pv
end Go.Pv.T
namespace Go.Pv.T
open Go Go.Pv
end Go.Pv.T
namespace Go.Pv.T
open Go Go.Pv
theorem jr3 {l:List Txn'}(h:∀t∈l,t.ops.length≤1000):rcT l≤l.length*1000:=by
 induction l with
 | nil=>simp[rcT,rc]
 | cons t l ih=>
  have h3:=ih (fun t ht=>h t (List.mem_cons_of_mem _ ht))
  have h4:=h t (List.mem_cons_self ..)
  have h5:=rc_le t.ops
  have:rcT (t::l)=rc t.ops+rcT l:=by rw[rcT,List.flatMap_cons,j50];rfl
  rw[this,List.length_cons,Nat.succ_mul]
  omega
structure Bnd (g:Hist'):Prop where
 i:(Xa g).length≤1000
 l:(jb1 g).length≤1000000
 r:rcT g.ts≤1000000
 m:mostH g≤1000
 t:g.ts.length≤1000
theorem bnd_of {g:Hist'}(hs:Small g):Bnd g:=by
 have ht:=hs.ts
 refine⟨?_,?_,?_,jji hs _,ht⟩
 ·have:=JJ Jv g.ts g.ts.length
  show(numsTo Jv g.ts g.ts.length).length≤1000
  omega
 ·have:=jbz hs.os g.ts.length
  show(jel g.ts g.ts.length).length≤1000000
  have:g.ts.length*1000≤1000*1000:=Nat.mul_le_mul_right _ ht
  omega
 ·have:=jr3 hs.os
  have:g.ts.length*1000≤1000*1000:=Nat.mul_le_mul_right _ ht
  omega
theorem jm3 {ub n:Nat}{cs:List V}:YB ub (.sl (some (0,1)) false n cs)=some { v:=.sl (some (ub,1)) false n cs,add:=[ub] }:=by
 rw[YB,if_pos (by rfl)];rfl
theorem IntsAt.mono {ob:ZO}{nx nx':Nat}{l:List Int}{v:V}(h:IntsAt ob nx l v) (hn:nx≤nx'):IntsAt ob nx' l v:=by
 rcases h with h|⟨hne,L,u,h1,h2,h3,h4⟩
 ·exact .inl h
 ·exact .inr ⟨hne,L,u,h1,h2,zO,h4⟩
theorem IntsAt.frame {ob ob':ZO}{nx:Nat}{l:List Int}{v:V}(h:IntsAt ob nx l v) (hf:∀k,(∀m,nx≤m→k≠2*m+1)→ob' k=ob k):IntsAt ob' nx l v:=by
 rcases h with h|⟨hne,L,u,h1,h2,h3,h4⟩
 ·exact .inl h
 ·exact .inr ⟨hne,L,u,h1,by rw[hf L (fun m hm=>by omega)];exact h2,h3,h4⟩
end Go.Pv.T
namespace Go.Pv.T
open Go Go.Pv
end Go.Pv.T
namespace Go.Pv.T
open Go Go.Pv
def YM (n:Nat) (l:List (List UInt8)):List (List UInt8):=(l.take n).map (·.take 100)
def fewT (t:Txn'):Txn':={ t with nl:=false,ops:=t.ops.take 25 }
def jcv (h:Hist'):Hist':={ sn:=(YM 25 h.ss).isEmpty,ss:=YM 25 h.ss,kn:=(YM 45 h.ks).isEmpty,ks:=YM 45 h.ks,tn:=((h.ts.take 45).map fewT).isEmpty,ts:=(h.ts.take 45).map fewT }
theorem job (n:Nat) (l:List (List UInt8)):YM n (YM n l)=YM n l:=by
 simp[YM,← List.map_take,List.map_map,List.take_take,Function.comp_def]
theorem jrn (h:Hist'):Small (jcv h):=by
 refine⟨?_,?_,?_,?_,?_,?_⟩
 ·show(YM 25 h.ss).length≤1000
  simp[YM];omega
 ·intro s hs
  obtain⟨a,_,rfl⟩:=List.mem_map.1 (show s∈YM 25 h.ss from hs)
  simp;omega
 ·show(YM 45 h.ks).length≤1000
  simp[YM];omega
 ·intro s hs
  obtain⟨a,_,rfl⟩:=List.mem_map.1 (show s∈YM 45 h.ks from hs)
  simp;omega
 ·show((h.ts.take 45).map fewT).length≤1000
  simp;omega
 ·intro t ht
  obtain⟨a,_,rfl⟩:=List.mem_map.1 (show t∈(h.ts.take 45).map fewT from ht)
  simp[fewT];omega
theorem jj7 {n i:Nat}{l:List (List UInt8)}(hi:i<l.length) (_:i<n):YM (i+1) l=YM i l++[(l[i]).take 100]:=by
 rw[YM,List.take_succ_eq_append_getElem hi,List.map_append];rfl
theorem joc {n:Nat}{l:List (List UInt8)}{i:Nat}(hi:i≤l.length) (hn:i≤n) (h:¬ (i<l.length∧i<n)):YM i l=YM n l:=by
 unfold YM
 congr 1
 by_cases h1:i<l.length
 ·have:i=n:=by omega
  rw[this]
 ·rw[List.take_of_length_le zO,List.take_of_length_le zO]
def tlC:C→C
 | .seq _ b=>b
 | c=>c
def hdC:C→C
 | .seq a _=>a
 | c=>c
theorem jei (n m:Nat):jbx false [.int .i64 (n:Int),.int .i64 (m:Int)]=some (.int .i64 ((min n m:Nat):Int)):=by
 simp only[jbx,Q6]
 by_cases h:n≤m
 ·rw[Nat.min_eq_left h];simp[jho];omega
 ·rw[Nat.min_eq_right (Nat.le_of_not_le h)];simp[jho];omega
theorem jds (c:List UInt8):c.take (min c.length 100)=c.take 100:=by
 rcases Nat.le_total c.length 100 with h'|h'
 ·rw[Nat.min_eq_left h',List.take_of_length_le (Nat.le_refl _),List.take_of_length_le h']
 ·rw[Nat.min_eq_right h']
theorem joa (n:Nat) (l:List (List UInt8)):(YM n l).length≤n:=by simp[YM];omega
theorem jmz {l:List UInt8}{kk:IntKind}{k:Nat}(h:k≤l.length):XZ none (some (.int kk (k:Int))) (.str l)=some (.str (l.take k)):=by
 simp[XZ,X6,h]
theorem jrp {cs:List V}{kk:IntKind}{t:Option (Nat × Nat)}{nl:Bool}{sz n k:Nat}(h:k≤n) (hc:cs.length=n*sz):jaq sz none (some (.int kk (k:Int))) (.sl t nl n cs)=some (.sl none nl k (cs.take (k*sz))):=by
 simp[jaq,X6,h,hc]
structure FewS (h:Hist') (s:St) (a b c N1 N2:Nat) (Sv Kv Tv:V):Prop where
 t1:s.tm 1=.ptr 2 0 0
 t2:s.tm 2=.ptr 4 64 0
 t3:s.tm 3=.ptr 6 192 0
 d:s.df=[]
 ro:s.ro=0
 fb:s.fb=0
 o2:s.ob 2=some ⟨0,.cells (j2 h)⟩
 o4:s.ob 4=some ⟨64,.cells [.sl none true 0 [],.sl none true 0 [],.sl none true 0 []]⟩
 o6:s.ob 6=some ⟨192,.cells [Sv,Kv,Tv]⟩
 gS:Grow s.tk 0 N1 JL 1 (YM a h.ss) Sv
 gK:Grow s.tk N1 N2 JL 1 (YM b h.ks) Kv
 gT:Grow s.tk N2 s.nx jl 3 ((h.ts.take c).map fewT) Tv
 n1:N1≤N2
 n2:N2≤s.nx
end Go.Pv.T
namespace Go.Pv.T
open Go Go.Pv
end Go.Pv.T
namespace Go.Pv.T
open Go Go.Pv
theorem j3n {h:Hist'}{i:Nat}(hi:i≤h.ts.length) (hn:i≤45) (hx:¬ (i<h.ts.length∧i<45)):(h.ts.take i).map fewT=(h.ts.take 45).map fewT:=by
 congr 1
 by_cases h1:i<h.ts.length
 ·have:i=45:=by omega
  rw[this]
 ·rw[List.take_of_length_le zO,List.take_of_length_le zO]
theorem jv2 (l:List Op') (k:Nat):(l.flatMap opC).take (k*4)=(l.take k).flatMap opC:=by
 induction l generalizing k with
 | nil=>simp
 | cons a l ih=>
  cases k with
  | zero=>simp
  | succ k=>
   rw[List.flatMap_cons,List.take_succ_cons,List.flatMap_cons,Nat.succ_mul,← ih k]
   show(V.bool a.w::V.int .i64 a.key::V.int .i64 a.v.kind::V.int .i64 a.v.n::l.flatMap opC).take (k*4+4)=_
   simp[opC]
theorem kE1 {st:St}{p l u:Nat}{x y z:V}{g:Hist'}(hd:st.df=[]) (hp:st.tm p=.ptr l u 0) (ho:st.ob l=some ⟨u,.cells [x,y,z]⟩)
 (hx:jfh st x g.sn g.ss.length (g.ss.flatMap JL)) (hy:jfh st y g.kn g.ks.length (g.ks.flatMap JL)) (hz:jfh st z g.tn g.ts.length (g.ts.flatMap jl)):jfr [.cell p (some 3)] (fun r=>jqu r g) .ret st:=endH1 hd hp ho hx hy hz
theorem j5w {Yf:YF}(nl:Bool) (ops:List Op') (hm:ops.length≤1000000) {l u lh uh:Nat}{ob0:ZO}{tk0:Nat→Bool}{ro base ub0:Nat}(J:Nat→(ZO)→(Nat→Bool)→Nat→Prop) (P:V × (ZO) × (Nat→Bool) × Nat→Prop)
 (hfr:∀k ob ob' tk ub ub',J k ob tk ub→ub≤ub'→Fr ub ob ob'→J k ob' tk ub') (hcap:∀k ob tk ub,J k ob tk ub→ob lh=some ⟨uh,.cells [jN nl opC ops]⟩) (hru0:ro≤ub0)
 (hstep:∀k (_:k<ops.length) ob tk ub,J k ob tk ub→ro≤ub→∃r,EvY Yf l u [.int .i64 (ops.length - 1 - k:Nat),.agg (opC (ops.getD (ops.length - 1 - k) ⟨false,0,0,0⟩))] ob tk ro ub r∧ro≤r.2.2.2 ∧
  ((r.1=.bool true∧J (k+1) r.2.1 r.2.2.1 r.2.2.2)∨(r.1=.bool false∧∀ob' ub',r.2.2.2≤ub'→Fr r.2.2.2 r.2.1 ob'→P (.tup [],ob',r.2.2.1,ub'))))
 (hend:∀ob tk ub,J ops.length ob tk ub→P (.tup [],ob,tk,ub)) (h0:J 0 ob0 tk0 ub0):∃r,EvS E Yf.y 274 [.yld l u,.ptr lh uh 0] ob0 tk0 ro base ub0 r∧P r:=by
 refine Yb (af:=S274) rfl (by decide) ?_
 show wpC E Yf S274.body _ (We S274.res P)
 have hh:=hcap 0 ob0 tk0 ub0 h0
 have w1:IntKind.i64.wrap ((ops.length:Int) - 1)=(ops.length:Int) - 1:=jy zO zO
 simp[S274,j1,hh,w1]
 refine jE [(3,3),(7,18)] ops.length (fun k s=>s.tm 3=.int .i64 ((ops.length:Int) - 1 - k)∧ro≤s.nx∧J k s.ob s.tk s.nx) rfl rfl ⟨zS,by simp;omega,hfr _ _ _ _ _ _ h0 (by simp;omega) (Fr.refl _ _)⟩ ?_
 rintro k s hk ⟨h3,hnx,hJ⟩ f
 have f0:s.tm 0=.yld l u:=by rw[f.t 0 zS];simp
 have f1:s.tm 1=.ptr lh uh 0:=by rw[f.t 1 zS];simp
 have fd:s.df=[]:=by rw[f.d];simp
 have fr:s.ro=ro:=by rw[f.r];simp
 clear f
 have hc:=hcap _ _ _ _ hJ
 by_cases hlt:k<ops.length
 ·obtain⟨j,hj⟩:∃j,j=ops.length - 1 - k:=⟨_,rfl⟩
  have hjl:j<ops.length:=by omega
  have e:(ops.length:Int) - 1 - k=(j:Int):=by omega
  rw[e]at h3
  have w2:IntKind.i64.wrap ((j:Int) - 1)=(ops.length:Int) - 1 - (k+1):=by rw[jy zO zO];omega
  have hgd:ops.getD j ⟨false,0,0,0⟩=ops[j]:=by rw[List.getD_eq_getElem?_getD,List.getElem?_eq_getElem hjl];rfl
  simp[h3,f0,f1,j1,hc,hjl,j7 jK,jk jK]
  refine jmy fun s' hs'=>?_
  have e11:s'.tm 11=.yld l u:=by rw[hs'];simp
  have e12:s'.tm 12=.int .i64 j:=by rw[hs'];simp
  have e16:s'.tm 16=.agg (opC ops[j]):=by rw[hs'];simp
  have e3:s'.tm 3=.int .i64 j:=by rw[hs'];simp[h3]
  have ed:s'.df=[]:=by rw[hs'];simp[fd]
  have er:s'.ro=ro:=by rw[hs'];simp[fr]
  have et:s'.tk=s.tk:=by rw[hs'];simp
  have eo:s'.ob=s.ob:=by rw[hs'];simp
  clear hs'
  obtain⟨r,hr,hru,hcase⟩:=hstep k hlt s'.ob s.tk (s.nx+64+64+64+64+64+64+64+64) (hfr _ _ _ _ _ _ hJ zO (by rw[eo];exact Fr.refl _ _)) zO
  rw[← hj,hgd]at hr
  refine jif (l:=l) (u:=u) (by simpa using e11) ⟨r,by simpa[e12,e16,et,er] using hr,?_⟩
  rcases hcase with⟨hr1,hJ2⟩|⟨hr1,hP⟩
  ·simp[hr1,put,j5,e3,w2]
   exact⟨hlt,zO,hfr _ _ _ _ _ _ hJ2 zO (Fr.refl _ _)⟩
  ·simp[hr1,put]
   refine⟨(.tup [],r.2.1,r.2.2.1,r.2.2.2+64),?_,hP _ _ zO (Fr.refl _ _)⟩
   simp[jof,ed]
 ·have:k=ops.length:=by omega
  subst this
  obtain⟨X,hX⟩:∃x:Int,x=(ops.length:Int) - 1 - ops.length:=⟨_,rfl⟩
  rw[← hX]at h3
  have c1:¬ 0≤X:=by omega
  simp[h3,c1]
  refine⟨(.tup [],s.ob,s.tk,s.nx+64+64),?_,hend _ _ _ (hfr _ _ _ _ _ _ hJ zO (Fr.refl _ _))⟩
  simp[jof,fd]
def jzd:C:=.region [⟨some 7,.alloc [(.bool false),(.int .i64 0),(.int .i64 0),(.int .i64 0)],none,false⟩,⟨none,.store 4 (.t 7) (.t 11),none,false⟩]
def jqv:C:=.block 1 (.seq (.region [⟨some 12,.fieldAddr 0 (.t 7),none,false⟩,⟨some 13,.load none (.t 12),none,false⟩,⟨some 14,.mov (.t 13),none,false⟩,⟨some 15,.fieldAddr 1 (.t 7),(some (14,true)),false⟩,⟨some 16,.load none (.t 15),(some (14,true)),false⟩,⟨some 17,.load none (.t 3),(some (14,true)),false⟩,⟨some 18,.bin .eql (.t 16) (.t 17),(some (14,true)),false⟩,⟨some 19,.pick (.t 14) (.t 18) (.c (.bool false)),none,false⟩])
 (.cond (.t 19) (.seq (.region [⟨some 20,.fieldAddr 2 (.t 7),none,false⟩,⟨some 21,.load (some 2) (.t 20),none,false⟩,⟨none,.store 2 (.t 4) (.t 21),none,false⟩,⟨none,.store 1 (.t 5) (.c (.bool true)),none,false⟩]) (.ret)) (.skip)))
theorem jwm (nl:Bool) (ops:List Op') (hm:ops.length≤1000000) (kv:Int) {st:St}{lh uh:Nat}(U:Nat) (hU:st.nx=U) (hU0:64≤U) (h9:st.tm 9=.fn (.func 274) [] [.ptr lh uh 0]) (hl:∃m,lh=2*m+1∧m<U)
 (h3:st.tm 3=.ptr 6 0 0) (h4:st.tm 4=.ptr 8 64 0) (h5:st.tm 5=.ptr 10 128 0) (hro:st.ro=0) (hfb:st.fb=0) (o6:st.ob 6=some ⟨0,.cells [.int .i64 kv]⟩) (o8:st.ob 8=some ⟨64,.cells [.int .i64 0,.int .i64 0]⟩) (o10:st.ob 10=some ⟨128,.cells [.bool false]⟩)
 (oh:st.ob lh=some ⟨uh,.cells [jN nl opC ops]⟩) {Q:Ex→St→Prop}
 (hQ:∀ (e:Ex) (ob:ZO) (tk:Nat→Bool) (ub:Nat) (v:Val') (b:Bool),ob 8=some ⟨64,.cells (JH v)⟩→ob 10=some ⟨128,.cells [.bool b]⟩→ob (2*U+3)=some ⟨U+1,.dfr⟩→U+64≤ub →
  J4 kv ops ops.length=(v,b)→(e=.nrm∧v=⟨0,0⟩∧b=false∨e=.ret)→Q e { st with ob:=ob,tk:=tk,nx:=ub,df:=(2*U+3,U+1)::st.df }) :
 wpC E YC (.rangeFunc (.t 9) [10,11] jzd jqv) st Q:=by
 obtain⟨m,rfl,hmU⟩:=hl
 subst hU
 refine WO (g:=274) (first:=[]) (captured:=[.ptr (2*m+1) uh 0]) (by simpa using h9) ?_
 have e1:¬ 2*m+1=2*st.nx+1:=by omega
 have e2:¬ 2*m+1=2*st.nx+3:=by omega
 have e1':¬ 2*m=2*st.nx:=by omega
 have e2':¬ 2*m=2*st.nx+2:=by omega
 have:=j5w (Yf:=jf3 E YC jzd jqv st [10,11] (2*st.nx+1) st.nx) nl ops hm (l:=2*st.nx+1) (u:=st.nx) (lh:=2*m+1) (uh:=uh)
  (ob0:=upd (upd st.ob (2*st.nx+3) (some ⟨st.nx+1,.dfr⟩)) (2*st.nx+1) (some ⟨st.nx,.loop .ready none⟩)) (tk0:=st.tk) (ro:=st.ro) (base:=(st.fb+1023)*1024) (ub0:=st.nx+64)
  (fun k ob tk ub=>J4 kv ops ops.length=J4 kv ops (ops.length - k)∧ob (2*st.nx+1)=some ⟨st.nx,.loop .ready none⟩∧ob (2*st.nx+3)=some ⟨st.nx+1,.dfr⟩∧ob 6=some ⟨0,.cells [.int .i64 kv]⟩∧ob 8=some ⟨64,.cells [.int .i64 0,.int .i64 0]⟩∧ob 10=some ⟨128,.cells [.bool false]⟩∧ob (2*m+1)=some ⟨uh,.cells [jN nl opC ops]⟩∧st.nx+64≤ub)
  (fun r=>∃s pend,r.2.1 (2*st.nx+1)=some ⟨st.nx,.loop s pend⟩∧s≠.busy∧st.ro≤st.nx∧Q (pend.getD .nrm) { st with ob:=fun k=>if Nat.beq (2*st.nx+1) k then none else r.2.1 k,tk:=r.2.2.1,nx:=r.2.2.2,df:=(2*st.nx+3,st.nx+1)::st.df })
  ?_ ?_ zO ?_ ?_ ?_
 ·obtain⟨r,hr,hP⟩:=this
  exact⟨r,hr,hP⟩
 ·rintro k ob ob' tk ub ub' ⟨g1,g2,g3,g4,g5,g6,g7,g8⟩ hub hfr
  have f:∀key,(∀m,ub≤m→key≠2*m+1)→ob' key=ob key:=hfr
  exact⟨g1,by rw[f _ (fun m hm=>by omega)];exact g2,by rw[f _ (fun m hm=>by omega)];exact g3,by rw[f _ (fun m hm=>by omega)];exact g4,by rw[f _ (fun m hm=>by omega)];exact g5,by rw[f _ (fun m hm=>by omega)];exact g6,by rw[f _ (fun m hm=>by omega)];exact g7,zO⟩
 ·rintro k ob tk ub ⟨g1,g2,g3,g4,g5,g6,g7,g8⟩
  exact g7
 ·rintro k hk ob tk ub ⟨g1,g2,g3,g4,g5,g6,g7,g8⟩ hru
  obtain⟨j,hj⟩:∃j,j=ops.length - 1 - k:=⟨_,rfl⟩
  have hjl:j<ops.length:=by omega
  have hgd:ops.getD j ⟨false,0,0,0⟩=ops[j]:=by rw[List.getD_eq_getElem?_getD,List.getElem?_eq_getElem hjl];rfl
  have hraw:=QP (k:=kv) hjl
  rw[← hj,hgd]
  obtain⟨o,ho⟩:∃o,ops[j]=o:=⟨_,rfl⟩
  rw[ho]at hraw ⊢
  rw[show ops.length - k=j+1 by omega]at g1
  rw[hraw]at g1
  refine jfi (asg:=jzd) (bd:=jqv) (xs:=[.int .i64 (j:Nat),.agg (opC o)]) rfl zO g2 (by decide) (by decide) ?_
  simp[jzd,jdx,j1,hfb,opC,hro,j6]
  refine⟨by rw[if_neg zO,if_neg zO];exact g2,JS fun s' hs'=>?_⟩
  have f3:s'.tm 3=.ptr 6 0 0:=by rw[hs'];simp[j5,h3]
  have f4:s'.tm 4=.ptr 8 64 0:=by rw[hs'];simp[j5,h4]
  have f5:s'.tm 5=.ptr 10 128 0:=by rw[hs'];simp[j5,h5]
  have f7:s'.tm 7=.ptr 14 ub 0:=by rw[hs'];simp
  have n6:¬ 6=2*st.nx+1:=by omega
  have n8:¬ 8=2*st.nx+1:=by omega
  have n10:¬ 10=2*st.nx+1:=by omega
  have n14:¬ 14=2*st.nx+1:=by omega
  have n3:¬ 2*st.nx+3=2*st.nx+1:=by omega
  have n314:¬ 2*st.nx+3=14:=by omega
  have n114:¬ 2*m+1=14:=by omega
  have p6:s'.ob 6=some ⟨0,.cells [.int .i64 kv]⟩:=by rw[hs'];simp[j5,n6,g4]
  have p8:s'.ob 8=some ⟨64,.cells [.int .i64 0,.int .i64 0]⟩:=by rw[hs'];simp[j5,n8,g5]
  have p10:s'.ob 10=some ⟨128,.cells [.bool false]⟩:=by rw[hs'];simp[j5,n10,g6]
  have p14:s'.ob 14=some ⟨ub,.cells (opC o)⟩:=by rw[hs'];simp[j5,n14,opC]
  have p3:s'.ob (2*st.nx+3)=some ⟨st.nx+1,.dfr⟩:=by rw[hs'];simp[j5,n314,g3]
  have p1:s'.ob (2*st.nx+1)=some ⟨st.nx,.loop .busy none⟩:=by rw[hs'];simp
  have ph:s'.ob (2*m+1)=some ⟨uh,.cells [jN nl opC ops]⟩:=by rw[hs'];simp[j5,e1',n114,g7]
  have fr:s'.ro=0:=by rw[hs']
  have fn:ub≤s'.nx:=by rw[hs'];simp;omega
  clear hs'
  have m18:¬ 2*st.nx+1=8:=by omega
  have m110:¬ 2*st.nx+1=10:=by omega
  have m38:¬ 2*st.nx+3=8:=by omega
  have m310:¬ 2*st.nx+3=10:=by omega
  have skip:wkB kv o=false→J4 kv ops ops.length=J4 kv ops (ops.length - (k+1)):=fun hw=>by
   rw[hw]at g1
   rw[g1,show ops.length - (k+1)=j by omega]
   rfl
  have done:wkB kv o=false→(skip':True)→J4 kv ops ops.length=J4 kv ops (ops.length - (k+1))∧upd s'.ob (2*st.nx+1) (some ⟨st.nx,.loop .ready none⟩) (2*st.nx+3)=some ⟨st.nx+1,.dfr⟩:=fun hw _=>⟨skip hw,by rw[j5,if_neg n3];exact p3⟩
  cases hw1:o.w
  ·have hw:=skip (by unfold wkB;rw[hw1];rfl)
   simp[jqv,f7,p14,j1,opC,hw1,p1,WV]
   exact⟨hw,by rw[j5,if_neg n3];exact p3,by rw[j5,if_neg n6];exact p6,by rw[j5,if_neg n8];exact p8,by rw[j5,if_neg n10];exact p10,by rw[j5,if_neg e1];exact ph,zO⟩
  cases hk1:(o.key == kv)
  ·have hw:=skip (by unfold wkB;rw[hw1,hk1];rfl)
   simp[jqv,f7,p14,j1,opC,hw1,f3,p6,hk1,p1,WV]
   exact⟨hw,by rw[j5,if_neg n3];exact p3,by rw[j5,if_neg n6];exact p6,by rw[j5,if_neg n8];exact p8,by rw[j5,if_neg n10];exact p10,by rw[j5,if_neg e1];exact ph,zO⟩
  ·have hwt:wkB kv o=true:=by unfold wkB;rw[hw1,hk1];rfl
   rw[hwt]at g1
   simp only[if_true]at g1
   simp[jqv,f7,p14,j1,opC,hw1,f3,p6,hk1,f4,f5,p8,p10,fr,j6,m18,m110,p1,WV]
   intro ob' ub' hle hfr
   have fk:∀key,(∀m,s'.nx+64+64+64+64+64+64+64+64+64+64+64+64≤m→key≠2*m+1)→ob' key=_:=hfr
   have n1':∀ {k:Nat},k≠2*st.nx+1→(if 2*st.nx+1=k then none else ob' k)=ob' k:=fun hk=>if_neg fun e=>hk e.symm
   refine⟨.done,some .ret,?_,zS,?_⟩
   ·rw[fk _ (fun m hm=>by omega)]
    simp
   ·have:=hQ .ret (fun k=>if 2*st.nx+1=k then none else ob' k) s'.tk ub' o.v true (by rw[n1' n8,fk _ (fun m hm=>by omega)];simp[j5,n8,JH]) (by rw[n1' n10,fk _ (fun m hm=>by omega)];simp[j5,n10])
     (by rw[n1' n3,fk _ (fun m hm=>by omega)];simp[j5,m38,m310,p3]) zO g1 (Or.inr rfl)
    rw[hro,hfb]at this
    simpa[JG] using this
 ·rintro ob tk ub ⟨g1,g2,g3,g4,g5,g6,g7,g8⟩
  refine⟨.ready,none,g2,zS,zO,?_⟩
  rw[Nat.sub_self]at g1
  exact hQ .nrm _ _ _ ⟨0,0⟩ false ((j0f ob zO).trans g5) ((j0f ob zO).trans g6) ((j0f ob zO).trans g3) g8 g1 (Or.inl ⟨rfl,rfl,rfl⟩)
 ·have n13:¬ 2*st.nx+3=2*st.nx+1:=by omega
  have a6:¬ 6=2*st.nx+1:=by omega
  have b6:¬ 6=2*st.nx+3:=by omega
  have a8:¬ 8=2*st.nx+1:=by omega
  have b8:¬ 8=2*st.nx+3:=by omega
  have a10:¬ 10=2*st.nx+1:=by omega
  have b10:¬ 10=2*st.nx+3:=by omega
  exact⟨by rw[Nat.sub_zero],zS,by simp[j5],by simp[j5,a6,b6,o6],by simp[j5,a8,b8,o8],by simp[j5,a10,b10,o10],by simp[j5,e1',e2',oh],zO⟩
end Go.Pv.T
namespace Go.Pv.T
open Go Go.Pv
end Go.Pv.T
namespace Go.Pv.T
open Go Go.Pv
theorem jby {g:Hist'}(hm:XC g=false):errH g=4:=by unfold errH;rw[hm];rfl
end Go.Pv.T
namespace Go.Pv.T
open Go Go.Pv Go.Sort
def arr {α:Type}(f:α→List V) (d:Array α):List V:=d.toList.flatMap f
theorem ju6 {α:Type}{f:α→List V}{sz:Nat}(hf:∀a,(f a).length=sz) (d:Array α):(arr f d).length=d.size*sz:=by
 unfold arr;rw[j9 hf,Array.length_toList]
theorem jn8 {α:Type}{f:α→List V}{sz:Nat}(hf:∀a,(f a).length=sz) (a:α):∀ (l:List α) (i:Nat),i<l.length→j6 (l.flatMap f) (i*sz) (f a)=(l.set i a).flatMap f
 | [],_,h=>by simp at h
 | x::l,0,_=>by simp[j6,hf]
 | x::l,i+1,h=>by
  have ih:=jn8 hf a l i (by simpa using h)
  have e:(i+1)*sz=(f x).length+i*sz:=by rw[hf,Nat.succ_mul,Nat.add_comm]
  unfold j6 at ih ⊢
  rw[List.set_cons_succ,List.flatMap_cons,List.flatMap_cons,← ih,e,List.take_length_add_append,Nat.add_assoc,List.drop_length_add_append]
  simp
section
variable {α:Type}[Inhabited α] {f:α→List V}{sz:Nat}{d:Array α}
theorem idxA {l u n:Nat}{kk:IntKind}{x:Int}(h0:0≤x) (h1:x<n):Jn sz (.osl l u 0 n sz) (.int kk x)=some (.ptr l u (x.toNat*sz)):=by
 simp[Jn,h0,h1]
end
@[simp] theorem arrI_len (d:Array Int):(arr intC d).length=d.size:=by rw[ju6 (sz:=1) jG,Nat.mul_one]
def At (l u:Nat) (cs:List V) (ob:ZO) (tk:Nat→Bool) (ub:Nat) (ob':ZO) (tk':Nat→Bool) (ub':Nat):Prop :=
 ob' l=some ⟨u,.cells cs⟩∧(∀key,key≠l→(∀m,ub≤m→key≠2*m+1)→ob' key=ob key)∧tk'=tk∧ub≤ub'
theorem idxN {l u n x:Nat}{kk:IntKind}{X:Int}(hX:X=(x:Nat)) (hx:x<n):Jn 1 (.osl l u 0 n 1) (.int kk X)=some (.ptr l u x):=by
 subst hX
 have:=idxA (sz:=1) (l:=l) (u:=u) (n:=n) (kk:=kk) (x:=(x:Int)) zO zO
 simpa using this
theorem At.swap {l u:Nat}{d2:Array Int}{cs:List V}{ob:ZO}{tk:Nat→Bool}{ub:Nat}{ob1:ZO}{tk1:Nat→Bool}{ub1:Nat}{ob2:ZO}{tk2:Nat→Bool}{ub2:Nat}(h:At l u (arr intC d2) ob tk ub ob1 tk1 ub1)
 (h1:ob2 l=some ⟨u,.cells cs⟩) (h2:∀key,key≠l→ob2 key=ob1 key) (h3:tk2=tk1) (h4:ub1≤ub2):At l u cs ob tk ub ob2 tk2 ub2 :=
 ⟨h1,fun key a b=>(h2 key a).trans (h.2.1 key a b),h3.trans h.2.2.1,Nat.le_trans h.2.2.2 h4⟩
def jvg (st:St) (d:Option Nat) (v:V) (ob:ZO) (tk:Nat→Bool):St:={ st with tm:=put st.tm d v,ob:=ob,tk:=tk }
section
variable {st:St}{d:Option Nat}{v:V}{ob:ZO}{tk:Nat→Bool}
@[simp] theorem retS_tm (e n:Nat):(jvg st (some e) v ob tk).tm n=if n=e then v else st.tm n:=by simp[jvg,put,j5]
@[simp] theorem retS_tm0 (n:Nat):(jvg st none v ob tk).tm n=st.tm n:=rfl
@[simp] theorem jg9:(jvg st d v ob tk).ob=ob:=rfl
@[simp] theorem retS_tk:(jvg st d v ob tk).tk=tk:=rfl
@[simp] theorem retS_ro:(jvg st d v ob tk).ro=st.ro:=rfl
@[simp] theorem retS_nx:(jvg st d v ob tk).nx=st.nx:=rfl
@[simp] theorem retS_fb:(jvg st d v ob tk).fb=st.fb:=rfl
@[simp] theorem retS_df:(jvg st d v ob tk).df=st.df:=rfl
end
@[simp] theorem jw9 (l u o:Nat):ja2 (.ptr l u o)=some (.ptr l u o):=rfl
theorem J6 {Yf:YF}{f:FuncId}{xs:List A}{st:St}{ub:Nat}{K:St→Nat→Prop}{d:Option Nat}{nm:Bool}{vs:List V}{P:V × (ZO) × (Nat→Bool) × Nat→Prop}(hx:xs.map (eval E st.tm)=vs) (hs:E.sh nm f=true)
 (he:∃r,EvS E Yf.y f vs st.ob st.tk st.ro ((st.fb+d.getD 0+1)*1024) ub r∧P r) (h:∀v ob' tk' ub',P (v,ob',tk',ub')→K (jvg st d v ob' tk') ub'):j8 E Yf ⟨d,.call f xs,none,nm⟩ st ub K:=by
 obtain⟨r,hr,hP⟩:=he
 exact ja7 hx hs ⟨r,hr,h r.1 r.2.1 r.2.2.1 r.2.2.2 hP⟩
theorem jgt {st:St}{x y:Nat}{P:V × (ZO) × (Nat→Bool) × Nat→Prop}(hd:st.df=[]) (h:P (.tup [st.tm x,st.tm y],st.ob,st.tk,st.nx)):We [.t x,.t y] P .ret st:=⟨_,by simp[jof,hd,jw],h⟩
theorem YX {st:St}{x:Nat}{P:V × (ZO) × (Nat→Bool) × Nat→Prop}(hd:st.df=[]) (h:P (st.tm x,st.ob,st.tk,st.nx)):We [.t x] P .ret st:=⟨_,by simp[jof,hd,jw],h⟩
theorem At.refl {l u:Nat}{cs:List V}{ob:ZO}{tk:Nat→Bool}{ub:Nat}(h:ob l=some ⟨u,.cells cs⟩):At l u cs ob tk ub ob tk ub:=⟨h,fun _ _ _=>rfl,rfl,Nat.le_refl _⟩
theorem At.trans {l u:Nat}{cs cs':List V}{ob ob1 ob2:ZO}{tk tk1 tk2:Nat→Bool}{ub ub1 ub1' ub2:Nat}(h:At l u cs ob tk ub ob1 tk1 ub1) (h':At l u cs' ob1 tk1 ub1' ob2 tk2 ub2) (hu:ub1≤ub1'):At l u cs' ob tk ub ob2 tk2 ub2 :=
 ⟨h'.1,fun key a b=>(h'.2.1 key a (fun m hm=>b m (by have:=h.2.2.2;omega))).trans (h.2.1 key a b),h'.2.2.1.trans h.2.2.1,by have:=h.2.2.2;have:=h'.2.2.2;omega⟩
def Cn (w uw:Nat) (ob:ZO) (tk:Nat→Bool) (ub:Nat) (ob':ZO) (tk':Nat→Bool) (ub':Nat):Prop :=
 (∃c,ob' w=some ⟨uw,.cells [.int .i64 c]⟩)∧(∀key,key≠w→ob' key=ob key)∧tk'=tk∧ub≤ub'
theorem Cn.trans {w uw:Nat}{ob ob1 ob2:ZO}{tk tk1 tk2:Nat→Bool}{ub ub1 ub1' ub2:Nat}(h:Cn w uw ob tk ub ob1 tk1 ub1) (h':Cn w uw ob1 tk1 ub1' ob2 tk2 ub2) (hu:ub1≤ub1'):Cn w uw ob tk ub ob2 tk2 ub2 :=
 ⟨h'.1,fun key a=>(h'.2.1 key a).trans (h.2.1 key a),h'.2.2.1.trans h.2.2.1,by have:=h.2.2.2;have:=h'.2.2.2;omega⟩
theorem j2w {Yf:YF}{a b:C}{st:St}{Q:Ex→St→Prop}{c:Bool}(h:∀s,s=st→kIf E Yf a b s Q c):kIf E Yf a b st Q c:=h st rfl
def Calm (s s':St):Prop:=s'.ob=s.ob∧s'.tk=s.tk∧s.nx≤s'.nx
theorem Calm.refl (s:St):Calm s s:=⟨rfl,rfl,Nat.le_refl _⟩
theorem Calm.trans {a b c:St}(h:Calm a b) (h':Calm b c):Calm a c:=⟨h'.1.trans h.1,h'.2.1.trans h.2.1,Nat.le_trans h.2.2 h'.2.2⟩
end Go.Pv.T
namespace Go.Pv.T
open Go Go.Pv Go.Sort
end Go.Pv.T
namespace Go.Pv.T
open Go Go.Pv Go.Sort
end Go.Pv.T
namespace Go.Pv.T
open Go Go.Pv Go.Sort
@[simp] theorem convV_int (k k':IntKind) (n:Int):XY k (.int k' n)=some (.int k (k.wrap n)):=rfl
end Go.Pv.T
namespace Go.Pv.T
open Go Go.Pv Go.Sort
end Go.Pv.T
namespace Go.Pv.T
open Go Go.Pv Go.Sort
structure PQ (l u ro a b:Nat) (d:Array Int) (ob:ZO) (tk:Nat→Bool) (ub a1 b1:Nat) (d1:Array Int) (s:St):Prop where
 t0:s.tm 0=.osl l u 0 d.size 1
 t1:s.tm 1=.int .i64 a1
 t2:s.tm 2=.int .i64 b1
 t10:s.tm 10=.int .i64 ((b1:Int) - a1)
 df:s.df=[]
 ro:s.ro=ro
 mem:At l u (arr intC d1) ob tk ub s.ob s.tk s.nx
 sz:d1.size=d.size
 bl:Below ltInt a1 b1 d1
 go:∀R,PermIn a1 b1 d1 R→SortedIn ltInt a1 b1 R→PermIn a b d R∧SortedIn ltInt a b R
theorem PQ.turn {l u ro a b:Nat}{d:Array Int}{ob:ZO}{tk:Nat→Bool}{ub a1 b1:Nat}{d2 d3:Array Int}{s s':St}(hp:PQ l u ro a b d ob tk ub a1 b1 d2 s) (hb1:b1≤d.size) (h0:s'.tm 0=s.tm 0) (h1:s'.tm 1=s.tm 1) (h2:s'.tm 2=s.tm 2) (h10:s'.tm 10=s.tm 10) (hd:s'.df=s.df) (hr:s'.ro=s.ro)
 (hm:At l u (arr intC d3) ob tk ub s'.ob s'.tk s'.nx) (hpm:PermIn a1 b1 d2 d3):PQ l u ro a b d ob tk ub a1 b1 d3 s' :=
 ⟨h0.trans hp.t0,h1.trans hp.t1,h2.trans hp.t2,h10.trans hp.t10,hd.trans hp.df,hr.trans hp.ro,hm,hpm.1.trans hp.sz,hp.bl.perm (by rw[hp.sz];exact hb1) hpm,fun R hR hs=>hp.go R (permIn_trans _ _ _ a1 b1 hpm hR) hs⟩
theorem sv69n {Yf:YF}{ob:ZO}{tk:Nat→Bool}{ro base ub:Nat}:∃r,EvS E Yf.y 69 [.sl none true 0 []] ob tk ro base ub r∧r.2.1=ob∧r.2.2.1=tk∧ub≤r.2.2.2 :=
 ⟨(.tup [],ob,tk,ub),jvd rfl rfl rfl,rfl,rfl,Nat.le_refl _⟩
theorem jjx:∀L:List Int,(L.flatMap intC).mapM int64? = some L
 | []=>rfl
 | x::L=>by
  rw[List.flatMap_cons]
  show(V.int .i64 x::L.flatMap intC).mapM int64? = _
  simp only[List.mapM_cons,jjx L]
  rfl
theorem sv69 {Yf:YF}{l u:Nat}{L T:List Int}(hp:L.Perm T) (hs:T.Pairwise (·≤·)) (hL:L.length≤1000000000) {ob:ZO}{tk:Nat→Bool}{ro base ub:Nat}(ho:ob l=some ⟨u,.cells (L.flatMap intC)⟩) (hro:ro≤u) (_:∀m,ub≤m→l≠2*m+1) (_:ro≤ub) :
 ∃r,EvS E Yf.y 69 [.osl l u 0 L.length 1] ob tk ro base ub r∧At l u (T.flatMap intC) ob tk ub r.2.1 r.2.2.1 r.2.2.2:=by
 have hT:Yz L=T:=jhe ((QM L).trans hp) (jg5 L) hs
 have hlen:(L.flatMap intC).length=L.length:=by rw[j9 jG,Nat.mul_one]
 have hmap:∀T:List Int,T.map (V.int .i64)=T.flatMap intC:=fun T=>by induction T <;> simp_all [intC]
 refine⟨(.tup [],upd ob l (some ⟨u,.cells (T.flatMap intC)⟩),tk,ub),jvd rfl ?_ rfl,zS,fun key h1 _=>by simp[J9 _ _ h1],rfl,Nat.le_refl _⟩
 have hc:j1 ob l u=some (L.flatMap intC):=by simp[j1,ho]
 simp only[jrl,hc,Option.bind_some]
 rw[if_pos ⟨Nat.ble_eq▸hro,trivial,zO,hL⟩,List.drop_zero,List.take_of_length_le zO,jjx,Option.map_some,hT,hmap]
 have:(T.flatMap intC).length=(L.flatMap intC).length:=by rw[j9 jG,j9 jG,hp.length_eq]
 rw[j6,List.take_zero,List.nil_append,List.drop_of_length_le zO,List.append_nil]
end Go.Pv.T
namespace Go.Pv.T
open Go Go.Pv
theorem sv237 {Yf:YF}{sl:V}(hs:sl.cells=[sl]) (hl:sl.leaf=true) {ob:ZO}{tk:Nat→Bool}{ro base ub:Nat}:∃r,EvS E Yf.y 237 [sl] ob tk ro base ub r ∧
 r.1=.fn (.func 274) [] [.ptr (2*ub+1) ub 0]∧(∀key,r.2.1 key=if key=2*ub+1 then some ⟨ub,.cells [sl]⟩ else ob key)∧r.2.2.1=tk∧r.2.2.2=ub+256:=by
 refine Yb (af:=S237) rfl (by decide) ?_
 show wpC E Yf S237.body _ (We S237.res _)
 simp[S237,hs,hl]
 exact YX zS ⟨zS,fun key=>by simp,by simp[JG],zS⟩
def jaf (ops:List Op') (key:Int):Val' × Bool:=J4 key ops ops.length
theorem ev177 (nl:Bool) (ops:List Op') (hm:ops.length≤1000000) (key:Int):Ev E 177 [jN nl opC ops,.int .i64 key] (.tup [.agg (JH (jaf ops key).1),.bool (jaf ops key).2]):=by
 refine jU (af:=F177) rfl ?_
 simp[F177]
 refine J6 (vs:=[jN nl opC ops]) zS rfl (sv237 zS zS) ?_
 rintro v ob1 tk1 ub1 ⟨e1,e2,e3,e4⟩
 simp only at e1 e2 e3 e4
 subst e1 e4
 simp
 refine JS fun st hst=>?_
 have g3:st.tm 3=.ptr 6 0 0:=by rw[hst];simp
 have g4:st.tm 4=.ptr 8 64 0:=by rw[hst];simp
 have g5:st.tm 5=.ptr 10 128 0:=by rw[hst];simp
 have g9:st.tm 9=.fn (.func 274) [] [.ptr 513 256 0]:=by rw[hst];simp
 have gd:st.df=[]:=by rw[hst];simp
 have gb:st.fb=0:=by rw[hst];simp
 have gr:st.ro=0:=by rw[hst];simp
 have gn:st.nx=512:=by rw[hst];simp
 have p6:st.ob 6=some ⟨0,.cells [.int .i64 key]⟩:=by rw[hst];simp only[JD,jg9];rw[e2];simp
 have p8:st.ob 8=some ⟨64,.cells [.int .i64 0,.int .i64 0]⟩:=by rw[hst];simp only[JD,jg9];rw[e2];simp
 have p10:st.ob 10=some ⟨128,.cells [.bool false]⟩:=by rw[hst];simp only[JD,jg9];rw[e2];simp
 have ph:st.ob 513=some ⟨256,.cells [jN nl opC ops]⟩:=by rw[hst];simp only[JD,jg9];rw[e2];simp
 clear hst e2
 refine jwm nl ops hm key 512 gn zO g9 ⟨256,rfl,zO⟩ g3 g4 g5 gr gb p6 p8 p10 ph ?_
 intro e ob tk ub v b q8 q10 qd hub hraw hcase
 have hl:jaf ops key=(v,b):=hraw
 rw[hl]
 rcases hcase with⟨rfl,rfl,rfl⟩|rfl
 ·simp[g4,g5,j1,q8,q10,gr,j6,JH]
  refine QI (l:=1027) (u:=513) (by simp[gd]) (by simp[qd]) zS (JP rfl (l:=[.agg (JH ⟨0,0⟩),.bool false]) (by simp[jw,j1,g4,g5,JH]) rfl rfl)
 ·simp
  refine QI (l:=1027) (u:=513) (by simp[gd]) (by simp[qd]) (by simp[gr]) (JP rfl (l:=[.agg (JH v),.bool b]) (by simp[jw,j1,g4,g5,q8,q10,JH]) rfl rfl)
def Xw (h:Hist') (i:Int):Bool × List Op':=if XC h && (decide (0≤i) && decide (i<h.ts.length)) then ((h.ts.getD i.toNat ⟨0,0,true,[]⟩).nl,(h.ts.getD i.toNat ⟨0,0,true,[]⟩).ops) else (true,[])
theorem ev176 {h:Hist'}(hs:Small h) (i:Int):Ev E 176 [.agg (j2 h),.int .i64 i] (jN (Xw h i).1 opC (Xw h i).2):=by
 have e70:=jqe hs
 have hts:=hs.ts
 refine jU (af:=F176) rfl ?_
 obtain⟨R,hR⟩:∃R,Xw h i=R:=⟨_,rfl⟩
 rw[hR]
 unfold Xw at hR
 simp[F176,j2,j1]
 refine jV e70 (by simp[j2]) rfl (by simp[j2]) ?_
 cases hm:XC h
 ·rw[jby hm]
  rw[hm]at hR
  subst hR
  simp
  exact j4 rfl (by simp[jN]) rfl
 rw[hm]at hR
 rw[Wd hm]
 by_cases k1:i<0
 ·rw[if_neg (by simp;omega)]at hR
  subst hR
  simp[k1]
  exact j4 rfl (by simp[jN]) rfl
 by_cases k2:(h.ts.length:Int)≤i
 ·rw[if_neg (by simp;omega)]at hR
  subst hR
  simp[k1,k2,j1]
  exact j4 rfl (by simp[jN]) rfl
 rw[if_pos (by simp;omega)]at hR
 obtain⟨j,rfl⟩:∃j:Nat,i=j:=⟨i.toNat,zO⟩
 have hj:j<h.ts.length:=by omega
 have hl3:(h.ts.flatMap jl)[j*3+2]? = some (jN (h.ts[j]).nl opC (h.ts[j]).ops):=by
  rw[jh jA h.ts hj (by decide:2<3)];rfl
 rw[Int.toNat_natCast,JQ hj]at hR
 subst hR
 simp[k1,k2,j1,hj,j7 jA,hl3]
 exact j4 rfl zS rfl
theorem jsi {h:Hist'}(hs:Small h) (i:Int):(Xw h i).2.length≤1000:=by
 unfold Xw
 split
 ·rename_i hc
  simp only[Bool.and_eq_true,decide_eq_true_eq]at hc
  have hj:i.toNat<h.ts.length:=by omega
  rw[JQ hj]
  exact hs.os _ (List.getElem_mem hj)
 ·simp
theorem ev116 {h:Hist'}(hs:Small h) (i key:Int):Ev E 116 [.agg (j2 h),.int .i64 i,.int .i64 key] (.tup [.agg (JH (jaf (Xw h i).2 key).1),.bool (jaf (Xw h i).2 key).2]):=by
 have e129:=ev176 hs i
 have e130:=ev177 (Xw h i).1 (Xw h i).2 (by have:=jsi hs i;omega) key
 refine jU (af:=F116) rfl ?_
 generalize (Xw h i).1=nl at *
 generalize (Xw h i).2=ops at *
 obtain⟨R,hR⟩:∃R,jaf ops key=R:=⟨_,rfl⟩
 rw[hR]at e130 ⊢
 simp[F116,j2,j1]
 refine jV e129 (by simp[j2]) rfl (by simp[j2]) ?_
 rw[Jk (show(jN nl opC ops).plain=true from rfl)]
 simp
 refine jV e130 zS rfl zS ?_
 rw[XB (by simp[V.plain,JH])]
 simp[j1,j6,JH]
 exact JP zS (l:=[.agg (JH R.1),.bool R.2]) (by simp[jw,j1,JH]) rfl rfl
def opAt (h:Hist') (a b:Int):Option Op' :=
 if XC h && (decide (0≤a) && (decide (a<h.ts.length) && (decide (0≤b) && decide (b<((h.ts.getD a.toNat ⟨0,0,true,[]⟩).ops.length:Nat))))) then (h.ts.getD a.toNat ⟨0,0,true,[]⟩).ops[b.toNat]? else none
def op0:Op':=⟨false,0,0,0⟩
theorem ev254 {h:Hist'}(hs:Small h) (a b:Int):Ev E 254 [.agg (j2 h),.agg (jH (a,b))] (.tup [.agg (opC ((opAt h a b).getD op0)),.bool ((opAt h a b).any fun o=>!o.w)]):=by
 have e70:=jqe hs
 have hts:=hs.ts
 refine jU (af:=F254) rfl ?_
 obtain⟨R,hR⟩:∃R,opAt h a b=R:=⟨_,rfl⟩
 rw[hR]
 unfold opAt at hR
 simp[F254,j2,j1,jH]
 generalize hK:jvh E YC (C.seq (C.draw _ _) _) (jz1 _ _)=K
 have hret:∀s:St,jz1 [.cell 4 (some 4),.t 5] (.tup [.agg (opC (R.getD op0)),.bool (R.any fun o=>!o.w)]) .ret s→K .ret s:=fun s h=>by
  rw[← hK,jnw]
  exact h
 refine Xy e70 (by simp[j2]) rfl (by simp[j2]) ?_
 cases hm:XC h
 ·rw[jby hm]
  rw[hm]at hR
  subst hR
  simp[j1,j6]
  exact hret _ (JP zS (l:=[.agg (opC op0),.bool false]) (by simp[jw,j1,opC,op0]) rfl rfl)
 rw[hm]at hR
 rw[Wd hm]
 by_cases k1:a<0
 ·rw[if_neg (by simp;omega)]at hR
  subst hR
  simp[k1,j1,j6]
  exact hret _ (JP zS (l:=[.agg (opC op0),.bool false]) (by simp[jw,j1,opC,op0]) rfl rfl)
 by_cases k2:(h.ts.length:Int)≤a
 ·rw[if_neg (by simp;omega)]at hR
  subst hR
  simp[k1,k2,j1,j6]
  exact hret _ (JP zS (l:=[.agg (opC op0),.bool false]) (by simp[jw,j1,opC,op0]) rfl rfl)
 obtain⟨i,rfl⟩:∃i:Nat,a=i:=⟨a.toNat,zO⟩
 have hi:i<h.ts.length:=by omega
 rw[Int.toNat_natCast,JQ hi]at hR
 obtain⟨t,ht⟩:∃t,h.ts[i]=t:=⟨_,rfl⟩
 rw[ht]at hR
 have hos:=hs.os t (ht▸List.getElem_mem hi)
 have hl3:(h.ts.flatMap jl)[i*3+2]? = some (jN t.nl opC t.ops):=by
  rw[jh jA h.ts hi (by decide:2<3),ht];rfl
 by_cases k3:b<0
 ·rw[if_neg (by simp;omega)]at hR
  subst hR
  simp[k1,k2,k3,j1,j6]
  exact hret _ (JP zS (l:=[.agg (opC op0),.bool false]) (by simp[jw,j1,opC,op0]) rfl rfl)
 by_cases k4:(t.ops.length:Int)≤b
 ·rw[if_neg (by simp;omega)]at hR
  subst hR
  simp[k1,k2,k3,k4,j1,j6,hi,j7 jA,hl3]
  exact hret _ (JP zS (l:=[.agg (opC op0),.bool false]) (by simp[jw,j1,opC,op0]) rfl rfl)
 obtain⟨j,rfl⟩:∃j:Nat,b=j:=⟨b.toNat,zO⟩
 have hj:j<t.ops.length:=by omega
 rw[if_pos (by simp;omega),Int.toNat_natCast,List.getElem?_eq_getElem hj]at hR
 obtain⟨o,ho⟩:∃o,t.ops[j]=o:=⟨_,rfl⟩
 rw[ho]at hR
 subst hR
 have k4':¬ t.ops.length≤j:=by omega
 have k2':¬ h.ts.length≤i:=by omega
 have rest:∀s:St,s.tm 2=.ptr 4 0 0→s.tm 3=.ptr 6 64 0→s.tm 4=.ptr 8 128 0→s.ob 4=some ⟨0,.cells (j2 h)⟩→s.ob 6=some ⟨64,.cells [.int .i64 i,.int .i64 j]⟩→s.ob 8=some ⟨128,.cells [.bool false,.int .i64 0,.int .i64 0,.int .i64 0]⟩→s.df=[]→s.ro=0→s.fb=0→K .nrm s:=by
  intro s h2 h3 h4 o4 o6 o8 hd hr hf
  rw[← hK,jhv]
  simp[h2,h3,o4,o6,j1,j2,hi,j7 jA,hl3,hj,j7 jK,jk jK,ho,opC,j6,hf,hr]
  refine⟨by simp[Jo,QC,jc5,jbe,rdOb,rdTk,lOf,Delta.wo,Delta.wt];try decide,?_⟩
  simp[h4,o8,j1,hr,j6]
  refine⟨by simp[Jo,QC,jc5,jbe,rdOb,rdTk,lOf,Delta.wo,Delta.wt,h4];try decide,?_⟩
  exact JP (by simp[hd]) (l:=[.agg (opC o),.bool !o.w]) (by simp[jw,j1,opC,h4]) rfl (by simp[j00,opC])
 clear hK
 simp[k1,k2,k3,k4,j1,hi,j7 jA,hl3]
 exact rest _ zS zS zS (by simp[j2]) zS zS zS zS zS
def valV (v:Val'):V:=.agg (JH v)
def XX (g:Hist') (key i:Int):Val':=(jaf (Xw g i).2 key).1
def Jg (g:Hist') (a key:Int) (W:List Int):List (Int × Val'):=(W.filter fun i=>!(i == a)).map fun i=>(i,XX g key i)
theorem W8 {p:Txn'→Bool}{ts:List Txn'}:∀n,n≤ts.length→(∀x∈numsTo p ts n,0≤x∧x<n)∧(numsTo p ts n).Pairwise (· < ·)
 | 0,_=>by simp[numsTo]
 | n+1,h=>by
  have ih:=W8 (p:=p) (ts:=ts) n zO
  have e:=JM (p:=p) (show n<ts.length by omega)
  rw[e]
  cases hp:p ts[n]
  ·simp only[Bool.false_eq_true,if_false,List.append_nil]
   exact⟨fun x hx=>by have:=ih.1 x hx;omega,ih.2⟩
  ·simp only[if_true]
   refine⟨fun x hx=>?_,?_⟩
   ·rcases List.mem_append.1 hx with h|h
    ·have:=ih.1 x h;omega
    ·rw[List.mem_singleton]at h;omega
   ·rw[List.pairwise_append]
    refine⟨ih.2,List.pairwise_singleton _ _,fun x hx y hy=>?_⟩
    rw[List.mem_singleton]at hy
    have:=ih.1 x hx
    omega
theorem jxc {α:Type}{m:List (Int × α)}{k:Int}{a:α}(h:k ∉ m.map (·.1)):YR m k a=m++[(k,a)]:=by
 unfold YR
 rw[mfind_none.2 h]
theorem jhg {g:Hist'}{a key:Int}{W:List Int}{i:Nat}(hi:i<W.length):Jg g a key (W.take (i+1))=Jg g a key (W.take i)++(if W[i]=a then [] else [(W[i],XX g key W[i])]):=by
 unfold Jg
 rw[List.take_succ_eq_append_getElem hi,List.filter_append,List.map_append]
 by_cases h:W[i]=a <;> simp[h]
theorem ji4 {g:Hist'}{a key:Int}{W:List Int}(hW:W.Pairwise (· < ·)) {i:Nat}(hi:i<W.length):W[i] ∉ (Jg g a key (W.take i)).map (·.1):=by
 intro h
 unfold Jg at h
 rw[List.map_map]at h
 obtain⟨x,hx,he⟩:=List.mem_map.1 h
 have hx':=(List.mem_filter.1 hx).1
 simp only[Function.comp]at he
 obtain⟨j,hj,rfl⟩:=List.getElem_of_mem hx'
 rw[List.length_take]at hj
 rw[List.getElem_take]at he
 have:=List.pairwise_iff_getElem.1 hW j i zO hi zO
 omega
def OthR (g:Hist') (a key:Int) (W:List Int) (ob:ZO) (ub:Nat) (r:V × (ZO) × (Nat→Bool) × Nat):Prop :=
 ∃M U ver:Nat,r.1=.map (2*M+1) U∧ub≤M∧M<r.2.2.2∧ub≤U∧r.2.1 (2*M+1)=some ⟨U,.mp ver (MP valV (Jg g a key W))⟩∧(∀k,(∀m,ub≤m→k≠2*m+1)→r.2.1 k=ob k)∧ub≤r.2.2.2
theorem sv255 {Yf:YF}{g:Hist'}(hs:Small g) (hm:XC g=true) (a key:Int) {ob:ZO}{tk:Nat→Bool}{ro base ub:Nat}(hru:ro≤ub) :
 ∃r,EvS E Yf.y 255 [.agg (j2 g),.int .i64 a,.int .i64 key] ob tk ro base ub r∧OthR g a key (writersH g key) ob ub r:=by
 refine Yb (af:=S255) rfl (by decide) ?_
 show wpC E Yf S255.body _ (We S255.res _)
 obtain⟨vw,e72,hv⟩:=ev281 hs hm key
 obtain⟨W,hW⟩:∃W,writersH g key=W:=⟨_,rfl⟩
 have hWl:W.length≤1000:=by have h1:=JJ (wrB key) g.ts g.ts.length;have h2:=hs.ts;rw[← hW];unfold writersH;omega
 have hWp:W.Pairwise (· < ·):=by rw[← hW];exact(W8 _ (Nat.le_refl _)).2
 rw[hW]at hv ⊢
 have n1:¬ 2*ub=2*(ub+64+64):=by omega
 have n2:¬ 2*(ub+64+64)=2*ub:=by omega
 simp[S255,j2,j1,n1]
 refine jV e72 (by simp[j2]) rfl (by simp[j2]) ?_
 obtain⟨nl,hv⟩:=hv
 obtain⟨t,add,hret⟩:=jha (ub:=ub+64+64+64+64+64+64) hv
 rw[hret]
 simp
 refine JS fun st hst=>?_
 obtain⟨M,hM⟩:∃M,M=ub+64+64:=⟨_,rfl⟩
 have g1:st.tm 1=.int .i64 a:=by rw[hst];simp
 have g2:st.tm 2=.int .i64 key:=by rw[hst];simp
 have g3:st.tm 3=.ptr (2*ub+1) ub 0:=by rw[hst];simp
 have g7:st.tm 7=.map (2*M+1) M:=by rw[hst,hM];simp
 have g13:st.tm 13=.sl t nl W.length (W.flatMap intC):=by rw[hst];simp
 have g14:st.tm 14=.int .i64 W.length:=by rw[hst];simp
 have g15:st.tm 15=.int .i64 0:=by rw[hst];simp
 have gd:st.df=[]:=by rw[hst];simp
 have gr:st.ro=ro:=by rw[hst];simp
 have gn:M<st.nx:=by rw[hst,hM];simp
 have ph:st.ob (2*ub+1)=some ⟨ub,.cells (j2 g)⟩:=by rw[hst];simp[n1,j2]
 have pm:st.ob (2*M+1)=some ⟨M,.mp 0 []⟩:=by rw[hst,hM];simp
 have pf:∀k,(∀m,ub≤m→k≠2*m+1)→st.ob k=ob k:=by
  intro k hk
  have h1:=hk ub zO
  have h2:=hk (ub+64+64) zO
  rw[hst];simp[h1,h2]
 clear hst hret
 have hMu:ub<M:=by omega
 clear hM n1 n2
 refine jE [(9,9),(15,31)] W.length (fun i s=>s.tm 15=.int .i64 i∧M<s.nx∧s.ob (2*ub+1)=some ⟨ub,.cells (j2 g)⟩∧(∀k,(∀m,ub≤m→k≠2*m+1)→s.ob k=ob k)∧∃ver,s.ob (2*M+1)=some ⟨M,.mp ver (MP valV (Jg g a key (W.take i)))⟩) rfl rfl
  ⟨by simp[g15],gn,ph,pf,0,by simp[pm,Jg,MP]⟩ ?_
 rintro i s hi ⟨h15,hn,oh,of,ver,om⟩ f
 have f1:s.tm 1=.int .i64 a:=by rw[f.t 1 zS,g1]
 have f2:s.tm 2=.int .i64 key:=by rw[f.t 2 zS,g2]
 have f3:s.tm 3=.ptr (2*ub+1) ub 0:=by rw[f.t 3 zS,g3]
 have f7:s.tm 7=.map (2*M+1) M:=by rw[f.t 7 zS,g7]
 have f13:s.tm 13=.sl t nl W.length (W.flatMap intC):=by rw[f.t 13 zS,g13]
 have f14:s.tm 14=.int .i64 W.length:=by rw[f.t 14 zS,g14]
 have fd:s.df=[]:=by rw[f.d,gd]
 have fr:s.ro=ro:=by rw[f.r,gr]
 clear f
 by_cases hlt:i<W.length
 ·have hw:=J0 hlt zO
  obtain⟨x,hx⟩:∃x,W[i]=x:=⟨_,rfl⟩
  have hI:Jn 1 (.sl t nl W.length (W.flatMap intC)) (.int .i64 (i:Int))=some (.eptr (W.flatMap intC) i):=by
   simp[Jn,hlt,j9 jG]
  have hLd:∀ob,Qh ob none (.eptr (W.flatMap intC) i)=some (.int .i64 x):=fun ob=>by
   have h:=jh jG W hlt (by decide:0<1)
   rw[hx,Nat.mul_one,Nat.add_zero]at h
   rw[jb4]
   simpa[YH,intC] using h
  have hsn:=jhg (g:=g) (a:=a) (key:=key) hlt
  have hnw:=ji4 (g:=g) (a:=a) (key:=key) hWp hlt
  rw[hx]at hsn hnw
  by_cases hxa:x=a
  ·rw[if_pos hxa,List.append_nil]at hsn
   subst hxa
   simp[h15,f13,f14,hlt,hI,hLd,f1,hw]
   exact⟨zO,oh,of,ver,by rw[hsn];exact om⟩
  ·rw[if_neg hxa]at hsn
   have hxa':(x != a)=true:=by simpa using hxa
   have e116:=ev116 hs x key
   simp[h15,f13,f14,hlt,hI,hLd,f1,hxa',f2,f3,oh,j1,f7,j2]
   refine jV e116 (by simp[j2]) rfl (by simp[j2]) ?_
   rw[XB (by simp[V.plain,JH])]
   have hlv:valV (jaf (Xw g x).2 key).1=valV (XX g key x):=rfl
   simp
   refine jeq (f:=valV) (a:=XX g key x) (ver:=ver) (l:=2*M+1) (u:=M) (k:=x) (Jg g a key (W.take i)) zS zS (by simp[valV,XX,JH]) (by simpa using om) (by simp[fr];omega) ?_
   rw[jxc hnw,← hsn]
   have nM:¬ 2*ub+1=2*M+1:=by omega
   have nM':¬ 2*ub=2*M:=by omega
   simp[h15,hw,nM',oh,j2]
   refine⟨hlt,zO,fun k hk=>?_⟩
   have:=hk M zO
   rw[if_neg this]
   exact of k hk
 ·have:i=W.length:=by omega
  subst this
  rw[List.take_length]at om
  simp[h15,f14,f7]
  exact YX (by simp[fd]) ⟨M,M,ver,zS,zO,by simp;omega,zO,by simpa using om,by simpa using of,by simp;omega⟩
section
variable {E:Env}{Yf:YF}{st:St}{ub:Nat}{K:St→Nat→Prop}{d:Option Nat}{nm:Bool}
theorem jlr {x:A}{l u ver:Nat}{es:List (V × V)}(hx:eval E st.tm x=.map l u) (ho:st.ob l=some ⟨u,.mp ver es⟩)
 (h:jaj K st d ub { v:=.iter (jL d nm st.fb ub) ub,obs:=[(jL d nm st.fb ub,⟨ub,.miter l u ver es none⟩)] }):j8 E Yf ⟨d,.range false x,none,nm⟩ st ub K:=by
 rw[jT _ rfl rfl]
 have h1:jR st.ob l u=some es:=by simp[jR,ho]
 have h2:jd st.ob l=ver:=by simp[jd,ho]
 simp only[aop,hx,h1,h2,Option.bind_some,Jh,jM,Jq]
 exact h
theorem ji1 {l u l' u' ver:Nat}{δ:Delta}:∀ {es pre:List (V × V)},δ∈ji2 l u l' u' ver pre es→∃a k v b,es=a++(k,v)::b∧δ = { v:=.tup [.bool true,k,v],obs:=[(l,⟨u,.miter l' u' ver (pre++a++b) (some (k,v))⟩)] }
 | [],_,h=>by simp[ji2]at h
 | (k,v)::r,pre,h=>by
  rw[ji2,List.mem_cons]at h
  rcases h with h|h
  ·exact⟨[],k,v,r,rfl,by rw[h];simp⟩
  ·obtain⟨a,k',v',b,e,hd⟩:=ji1 h
   exact⟨(k,v)::a,k',v',b,by rw[e];rfl,by rw[hd];simp⟩
theorem jpx {x:A}{l u l' u' ver:Nat}{left es:List (V × V)}{last:Option (V × V)}(hx:eval E st.tm x=.iter l u) (ho:st.ob l=some ⟨u,.miter l' u' ver left last⟩) (hm:st.ob l'=some ⟨u',.mp ver es⟩) (hro:st.ro≤u)
 (h0:left=[]→QT K st d ub (.tup [.bool false]))
 (h1:∀a k v b,left=a++(k,v)::b→jaj K st d ub { v:=.tup [.bool true,k,v],obs:=[(l,⟨u,.miter l' u' ver (a++b) (some (k,v))⟩)] }):j8 E Yf ⟨d,.nextMap x,none,nm⟩ st ub K:=by
 have e1:(jR st.ob l' u').isSome=true:=by simp[jR,hm]
 have e2:jd st.ob l'=ver:=by simp[jd,hm]
 simp only[j8,wanted,jj,jD]
 cases left with
 | nil=>
  refine⟨[{ v:=.tup [.bool false] }],?_,?_⟩
  ·simp only[jhl,hx,ho]
   rw[if_pos ⟨Nat.ble_eq▸hro,trivial,e1,e2⟩]
  ·intro δ hδ
   rw[List.mem_singleton]at hδ
   subst hδ
   have:=h0 rfl
   rw[Qj]
   exact this
 | cons p r=>
  refine⟨ji2 l u l' u' ver [] (p::r),?_,?_⟩
  ·simp only[jhl,hx,ho]
   rw[if_pos ⟨Nat.ble_eq▸hro,trivial,e1,e2⟩]
  ·intro δ hδ
   obtain⟨a,k,v,b,e,hd⟩:=ji1 hδ
   subst hd
   exact h1 a k v b e
theorem jxt {x:A}{l u l' u' ver:Nat}{left es:List (V × V)}{k v:V}(hx:eval E st.tm x=.iter l u) (ho:st.ob l=some ⟨u,.miter l' u' ver left (some (k,v))⟩) (hm:st.ob l'=some ⟨u',.mp ver es⟩)
 (h:QT K st d ub (.tup [k,v])):j8 E Yf ⟨d,.entry x,none,nm⟩ st ub K:=by
 have e1:(jR st.ob l' u').isSome=true:=by simp[jR,hm]
 have e2:jd st.ob l'=ver:=by simp[jd,hm]
 rw[jT _ rfl rfl]
 simp only[aop,hx,ho]
 rw[if_pos ⟨trivial,e1,e2⟩,Yo,Qj]
 exact h
end
def IntsO (ob:ZO) (p:Nat→Prop) (l:List Int) (v:V):Prop :=
 (l=[]∧v=.sl none true 0 [])∨(l≠[]∧∃u,v=.osl (2*u+1) u 0 l.length 1∧ob (2*u+1)=some ⟨u,.cells (l.flatMap intC)⟩∧p u)
theorem IntsO.frame {ob ob':ZO}{p p':Nat→Prop}{l:List Int}{v:V}(h:IntsO ob p l v) (hf:∀u,p u→ob' (2*u+1)=ob (2*u+1)) (hh:∀u,p u→p' u):IntsO ob' p' l v:=by
 rcases h with h|⟨h1,u,h2,h3,h4⟩
 ·exact Or.inl h
 ·exact Or.inr ⟨h1,u,h2,(hf u h4).trans h3,hh u h4⟩
theorem jmd (st:St) (d:Option Nat) (v:V) (l:Nat) (o:Obj') (kl:List Nat) (k:Nat):(st.app d { v:=v,obs:=[(l,o)],kill:=kl }).ob k=if k=l then some o else if kl.any (Nat.beq k) then none else st.ob k:=by
 simp[St.app,JK,j5]
theorem jh9 (st:St) (d:Option Nat) (v:V) (l:Nat) (o:Obj') (kl:List Nat) (k:Nat) (h:k ∉ kl):(st.app d { v:=v,obs:=[(l,o)],kill:=kl }).ob k=if k=l then some o else st.ob k:=by
 rw[jmd]
 have:(kl.any (Nat.beq k))=false:=by
  rw[List.any_eq_false]
  intro x hx hb
  exact h (Nat.eq_of_beq_eq_true hb▸hx)
 rw[this]
 rfl
theorem jbr (st:St) (k:Nat):∀l:List Int,(l.flatMap intC).mapM (Jm st (k+1))=some (l.flatMap intC)
 | []=>rfl
 | a::l=>by
  show((V.int .i64 a)::l.flatMap intC).mapM _=_
  rw[List.mapM_cons,jbr st k l]
  rfl
def jjy (T:List Int):V:=if T.isEmpty then .sl none true 0 [] else .sl (some (0,1)) false T.length (T.flatMap intC)
theorem numR_intsV (T:List Int):NumR T (jjy T):=by
 cases T with
 | nil=>exact⟨true,none,rfl,zS⟩
 | cons a T=>exact⟨false,some (0,1),rfl,zS⟩
theorem Q9 {st:St}{p:Nat→Prop}{n:Nat}{T:List Int}{v:V}(hd:st.df=[]) (hv:st.tm n=v) (h:IntsO st.ob p T v) (hro:∀u,p u→st.ro≤u):jz1 [.t n] (jjy T) .ret st:=by
 show jce [.t n] (.ret,st)=some (jjy T)
 rcases h with⟨rfl,rfl⟩|⟨hne,u,rfl,hob,hp⟩
 ·exact j4 hd (by rw[hv];rfl) rfl
 ·have hoc:j1 st.ob (2*u+1) u=some (T.flatMap intC):=by simp[j1,hob]
  have hlen:(T.flatMap intC).length=T.length:=by rw[j9 jG];omega
  have hemp:T.isEmpty=false:=by cases T with|nil=>exact absurd rfl hne|cons=>rfl
  have hpos:0<T.length:=List.length_pos_iff.2 hne
  have hs:Jm st 6 (.osl (2*u+1) u 0 T.length 1)=some (.sl none false T.length (T.flatMap intC)):=by
   show((j1 st.ob (2*u+1) u).bind fun cs=>if Nat.ble st.ro u=true∧0+T.length*1≤cs.length then (((cs.drop 0).take (T.length*1)).mapM (Jm st 5)).map fun cs'=>V.sl none false T.length cs' else none)=_
   rw[hoc,Option.bind_some]
   rw[if_pos ⟨Nat.ble_eq▸hro u hp,zO⟩]
   rw[List.drop_zero,Nat.mul_one,List.take_of_length_le zO,jbr]
   rfl
  have ho:jr st true 0 (.osl (2*u+1) u 0 T.length 1)=some (.sl (some (0,1)) false T.length (T.flatMap intC)):=by
   simp only[jr,hs,Option.bind_some,hoc,Option.map_some]
   have hb:(true && Nat.beq 0 0 && Nat.blt 0 T.length && Nat.beq (T.length*1) (T.flatMap intC).length)=true:=by
    rw[hlen,Nat.mul_one,Nat.beq_refl,Nat.beq_refl]
    simp
    exact hpos
   rw[hb]
   rfl
  have hto:Xv st true 0 (.osl (2*u+1) u 0 T.length 1)=some (.sl (some (0,1)) false T.length (T.flatMap intC)):=ho
  have hr:[ARes.t n].mapM (jw st)=some [.osl (2*u+1) u 0 T.length 1]:=by simp[jw,hv]
  simp only[jce,Wj hd,Wb hd,if_true,hr,Option.bind_some,Wp]
  have hn:nodup ([V.osl (2*u+1) u 0 T.length 1].flatMap V.toks)=true:=rfl
  rw[hn]
  simp only[JU,hto,Option.bind_some,Option.map_some]
  rw[jjy,hemp]
  rfl
theorem jb6 {E:Env}{Yf:YF}{st:St}{ub:Nat}{K:St→Nat→Prop}{d:Option Nat}{p:Nat→Prop}{l:List Int}{z:Int}{v:V}{s x:A}{X uX:Nat}(hs:eval E st.tm s=v) (hv:IntsO st.ob p l v) (hx:eval E st.tm x=.osl X uX 0 1 1) (hX:st.ob X=some ⟨uX,.cells [.int .i64 z]⟩) (hro:∀u,p u→st.ro≤u) (hl:l.length≤1000)
 (h:∀kl:List Nat,(∀k∈kl,∃u,p u∧k=2*u+1)→jaj K st d ub { v:=.osl (2*ub+1) ub 0 (l++[z]).length 1,obs:=[(2*ub+1,⟨ub,.cells ((l++[z]).flatMap intC)⟩)],kill:=kl }) :
 j8 E Yf ⟨d,.append true 1 8 s x,none,true⟩ st ub K:=by
 have hsc:jI st.ob 1 (eval E st.tm x)=some [.int .i64 z]:=by
  rw[hx]
  simp[jI,j1,hX]
 rcases hv with⟨rfl,rfl⟩|⟨hne,u,rfl,hob,hp⟩
 ·refine Yu hs hsc zS (by decide) rfl zS zS ?_
  simpa[intC,jL] using h [] zS
 ·have hlen:(l.flatMap intC).length=l.length:=by rw[j9 jG];omega
  refine XN (cs:=l.flatMap intC) hs hsc hob zS (hro u hp) zO (by decide) rfl (by simp;omega) (by simp;omega) ?_
  have:=h [2*u+1] (by simp;exact⟨u,hp,rfl⟩)
  rw[Nat.mul_one,List.take_of_length_le zO]
  simpa[intC,jL] using this
def Qi (o:Op') (v:Val'):Bool:=o.v.kind == 2 || (v.kind == o.v.kind && v.n == o.v.n)
def js (o:Op'):List Int:=if o.v.kind=1 then [] else [-1]
def ofL (g:Hist') (a:Int) (o:Op'):List Int:=js o++(writersH g o.key).filter fun i=>!(i == a) && Qi o (XX g o.key i)
def ofH (g:Hist') (a b:Int):List Int:=match opAt g a b with
 | some o=>if o.w then [] else ofL g a o
 | none=>[]
theorem joo (g:Hist') (k:Int):(writersH g k).Pairwise (· < ·)∧∀x∈writersH g k,0≤x:=by
 have:=W8 (p:=wrB k) (ts:=g.ts) g.ts.length (Nat.le_refl _)
 exact⟨this.2,fun x hx=>(this.1 x hx).1⟩
theorem jpm (g:Hist') (a:Int) (o:Op'):(ofL g a o).Pairwise (·≤·):=by
 have h:=joo g o.key
 unfold ofL js
 rw[List.pairwise_append]
 refine⟨?_,?_,?_⟩
 ·split <;> simp
 ·exact((h.1.imp (fun h=>Int.le_of_lt h)).filter _)
 ·intro x hx y hy
  have hy':=h.2 y (List.mem_filter.1 hy).1
  split at hx
  ·cases hx
  ·rw[List.mem_singleton]at hx;omega
theorem jdn (g:Hist') (k:Int):(writersH g k).length≤g.ts.length:=by
 unfold writersH
 exact JJ (wrB k) g.ts g.ts.length
theorem j19 {g:Hist'}(hm:g.ts.length≤40) (a:Int) (o:Op'):(ofL g a o).length≤41:=by
 unfold ofL js
 rw[List.length_append]
 have h1:=List.length_filter_le (fun i=>!(i == a) && Qi o (XX g o.key i)) (writersH g o.key)
 have h2:=jdn g o.key
 split <;> simp <;> omega
theorem jth {g:Hist'}(hm:XC g=true):g.ts.length≤40:=by
 unfold XC XR at hm
 simp only[Bool.and_eq_true,decide_eq_true_eq]at hm
 exact hm.1.2.2.2.2
def Xu (o:Op') (P:List (Int × Val')):List Int:=(P.filter fun p=>Qi o p.2).map (·.1)
theorem jk7 {g:Hist'}{a:Int}{o:Op'}{P:List (Int × Val')}(h:P.Perm (Jg g a o.key (writersH g o.key))):(js o++Xu o P).Perm (ofL g a o):=by
 unfold ofL
 refine List.Perm.append_left _ ?_
 have h2:(Xu o P).Perm (Xu o (Jg g a o.key (writersH g o.key))):=(h.filter _).map _
 refine h2.trans ?_
 have e:Xu o (Jg g a o.key (writersH g o.key))=(writersH g o.key).filter fun i=>!(i == a) && Qi o (XX g o.key i):=by
  unfold Xu Jg
  rw[List.filter_map,List.map_map,List.filter_filter]
  have:((fun x:Int × Val'=>x.1) ∘ fun i=>(i,XX g o.key i))=id:=rfl
  rw[this,List.map_id]
  congr 1
  funext i
  simp only[Function.comp,Bool.and_comm]
 rw[e]
theorem jzc {m:List (Int × Val')}{A B:List (V × V)}{k v:V}(h:MP valV m=A++(k,v)::B):∃A' p B',m=A'++p::B'∧A=MP valV A'∧B=MP valV B'∧k=.int .i64 p.1∧v=valV p.2:=by
 unfold MP at h
 obtain⟨A',C,e1,e2,e3⟩:=List.map_eq_append_iff.1 h
 obtain⟨p,B',e4,e5,e6⟩:=List.map_eq_cons_iff.1 e3
 subst e4
 have:=Prod.mk.inj e5
 exact⟨A',p,B',e1,e2.symm,e6.symm,this.1.symm,this.2.symm⟩
theorem j0k (a b:List (Int × Val')):MP valV a++MP valV b=MP valV (a++b):=by simp[MP]
theorem jzy {x:Nat}(h:640≤x):¬ 2*x=1152:=by omega
theorem ev217 {g:Hist'}(hs:Small g) (a b:Int):Ev E 217 [.agg (j2 g),.agg (jH (a,b))] (jjy (ofH g a b)):=by
 have e74:=ev254 hs a b
 refine jU (af:=F217) rfl ?_
 unfold ofH
 cases hop:opAt g a b with
 | none=>
  rw[hop]at e74
  simp[F217,j2,j1,jH]
  refine jV e74 (by simp[j2,jH]) rfl (by simp[j2,jH]) ?_
  rw[XB (by simp[V.plain,opC])]
  simp[j6,opC,op0,j1]
  exact Q9 (p:=fun _=>True) zS rfl (Or.inl ⟨rfl,zS⟩) zS
 | some o=>
  rw[hop]at e74
  simp only[Option.getD_some,Option.any_some]at e74
  have hmay:XC g=true:=by
   unfold opAt at hop
   cases hm:XC g
   ·rw[hm]at hop;cases hop
   ·rfl
  have hts:=jth hmay
  simp[F217,j2,j1,jH]
  refine jV e74 (by simp[j2,jH]) rfl (by simp[j2,jH]) ?_
  rw[XB (by simp[V.plain,opC])]
  cases hw:o.w
  ·simp[j6,opC,j1]
   generalize hK:jvh E YC _ (jz1 _ _)=K
   have rest:∀ (s:St) (v:V),s.tm 2=.ptr 1 0 0→s.tm 3=.ptr 129 64 0→s.tm 5=.ptr 1153 576 0→s.ob 1=some ⟨0,.cells (j2 g)⟩→s.ob 129=some ⟨64,.cells [.int .i64 a,.int .i64 b]⟩→s.ob 1153=some ⟨576,.cells (opC o)⟩ →
    s.tm 7=v→IntsO s.ob (fun u=>640≤u∧u<s.nx) (js o) v→s.df=[]→s.ro=0→640≤s.nx→K .nrm s:=by
    intro s v h2 h3 h5 o1 o3 o5 h7 hv hd hr hn
    rw[← hK]
    clear hK
    simp[h2,h3,h5,o1,o3,o5,j1,opC,j2]
    refine J6 (vs:=[.agg (j2 g),.int .i64 a,.int .i64 o.key]) (by simp[j2]) rfl (sv255 hs hmay a o.key (by simp[hr])) ?_
    rintro w ob1 tk1 ub1 ⟨M,U,ver,e1,e2,e3,e4,e5,e6,e7⟩
    simp only at e1 e3 e5 e6 e7
    subst e1
    simp
    refine jlr (l:=2*M+1) (u:=U) (ver:=ver) zS (by simpa using e5) ?_
    simp
    refine JS fun st hst=>?_
    have hub0:640≤ub1:=by first|omega|(simp at e7;omega)
    have hM0:640≤M:=by first|omega|(simp at e2;omega)
    obtain⟨OTH,hOTH⟩:∃l,Jg g a o.key (writersH g o.key)=l:=⟨_,rfl⟩
    rw[hOTH]at e5 hst
    have hfr:∀k,(∀m,s.nx≤m→k≠2*m+1)→ob1 k=s.ob k:=fun k hk=>(e6 k (fun m hm=>hk m (by first|omega|(simp at hm;omega)))).trans zS
    have hMs:s.nx≤M:=by first|omega|(simp at e2;omega)
    have g5:st.tm 5=.ptr 1153 576 0:=by rw[hst];simp[h5]
    have g7:st.tm 7=v:=by rw[hst];simp[h7]
    have g31:st.tm 31=.iter (2*ub1+1) ub1:=by rw[hst];simp
    have gd:st.df=[]:=by rw[hst];simp[hd]
    have gr:st.ro=0:=by rw[hst];simp[hr]
    have gn:ub1<st.nx:=by rw[hst];simp
    have gf:∀k,k≠2*ub1+1→st.ob k=ob1 k:=by
     intro k hk
     rw[hst];simp[hk]
    have pi:st.ob (2*ub1+1)=some ⟨ub1,.miter (2*M+1) U ver (MP valV OTH) none⟩:=by rw[hst];simp
    have pm:st.ob (2*M+1)=some ⟨U,.mp ver (MP valV OTH)⟩:=(gf _ zO).trans e5
    have p5:st.ob 1153=some ⟨576,.cells (opC o)⟩:=(gf _ zO).trans ((hfr _ (fun m hm=>by omega)).trans o5)
    have pv:IntsO st.ob (fun u=>640≤u∧u≠M∧u≠ub1∧u<st.nx) (js o++Xu o []) v:=by
     rw[show Xu o []=[] from rfl,List.append_nil]
     refine hv.frame (fun u hu=>?_) (fun u hu=>⟨hu.1,zO,by first|omega|(simp at e7;omega),by first|omega|(simp at e7;omega)⟩)
     exact(gf _ (by first|omega|(simp at e7;omega))).trans (hfr _ (fun m hm=>by omega))
    clear hst e6 e5 hfr
    obtain⟨J,hJ⟩:∃J:Nat→St→Prop,J=fun n s=>∃ (P m':List (Int × Val')) (v:V) (last:Option (V × V)),n=m'.length∧(P++m').Perm OTH∧s.tm 7=v∧IntsO s.ob (fun u=>640≤u∧u≠M∧u≠ub1∧u<s.nx) (js o++Xu o P) v ∧
     s.ob (2*ub1+1)=some ⟨ub1,.miter (2*M+1) U ver (MP valV m') last⟩∧s.ob (2*M+1)=some ⟨U,.mp ver (MP valV OTH)⟩∧s.ob 1153=some ⟨576,.cells (opC o)⟩∧ub1<s.nx:=⟨_,rfl⟩
    refine Ye (n:=OTH.length) [(7,9),(32,50)] J rfl rfl (by rw[hJ];exact⟨[],OTH,v,none,rfl,zS,g7,pv,pi,pm,p5,gn⟩) ?_
    clear h7 hv g7 pv pi pm p5 gn v
    intro n s hJs f
    rw[hJ]at hJs
    obtain⟨P,m',v,last,rfl,hperm,h7,hv,oi,om,o5',hn1⟩:=hJs
    have f5:s.tm 5=.ptr 1153 576 0:=by rw[f.t 5 zS];exact g5
    have f31:s.tm 31=.iter (2*ub1+1) ub1:=by rw[f.t 31 zS];exact g31
    have fd:s.df=[]:=by rw[f.d];exact gd
    have fr:s.ro=0:=by rw[f.r];exact gr
    clear f
    have hPl:(P++m').length≤40:=by
     rw[hperm.length_eq,← hOTH]
     unfold Jg
     rw[List.length_map]
     have:=List.length_filter_le (fun i=>!(i == a)) (writersH g o.key)
     have:=jdn g o.key
     omega
    rw[List.length_append]at hPl
    have hpl:(Xu o P).length≤P.length:=by
     unfold Xu
     rw[List.length_map]
     exact List.length_filter_le _ _
    have hsl:(js o).length≤1:=by unfold js;split <;> simp
    simp
    refine jpx (l:=2*ub1+1) (u:=ub1) (l':=2*M+1) (u':=U) (ver:=ver) (es:=MP valV OTH) (left:=MP valV m') (by simp[f31]) oi om (by simp[fr]) ?_ ?_
    ·intro hemp
     have hm0:m'=[]:=by
      unfold MP at hemp
      exact List.map_eq_nil_iff.1 hemp
     subst hm0
     rw[List.append_nil]at hperm
     have hpp:=jk7 (g:=g) (a:=a) (o:=o) (P:=P) (by rw[hOTH];exact hperm)
     have hlen:=hpp.length_eq
     simp[h7]
     rcases hv with⟨hnil,rfl⟩|⟨hne,u,rfl,hob,hu⟩
     ·rw[hnil]at hpp
      have hT:ofL g a o=[]:=List.perm_nil.1 hpp.symm
      refine J6 (vs:=[.sl none true 0 []]) zS rfl sv69n ?_
      rintro w ob2 tk2 ub2 ⟨q1,q2,q3⟩
      simp[h7]
      exact Q9 (p:=fun _=>True) (by simp[fd]) rfl (Or.inl ⟨hT,zS⟩) (by simp[fr])
     ·refine J6 (vs:=[.osl (2*u+1) u 0 (js o++Xu o P).length 1]) zS rfl (sv69 hpp (jpm g a o) (by rw[List.length_append];omega) (by simpa using hob) (by simp[fr]) (fun m hm=>by have:=hu.2.2.2;first|omega|(simp at hm;omega)) (by simp[fr])) ?_
      rintro w ob2 tk2 ub2 hat
      simp only at hat
      simp[h7]
      refine Q9 (p:=fun _=>True) (by simp[fd]) rfl (Or.inr ⟨?_,u,?_,by simpa using hat.1,trivial⟩) (by simp[fr])
      ·intro hT
       rw[hT]at hpp
       exact hne (List.perm_nil.1 hpp)
      ·rw[← hlen];simp
    ·intro A k w B hsp
     obtain⟨A',q,B',rfl,rfl,rfl,rfl,rfl⟩:=jzc hsp
     have hperm':((P++[q])++(A'++B')).Perm OTH:=by
      refine List.Perm.trans ?_ hperm
      rw[List.append_assoc]
      exact List.Perm.append_left _ (by simpa using List.perm_middle.symm)
     have nM:¬ 2*M+1=2*ub1+1:=by omega
     simp
     refine jxt (l:=2*ub1+1) (u:=ub1) (l':=2*M+1) (u':=U) (ver:=ver) (es:=MP valV OTH) (left:=MP valV A'++MP valV B') (k:=.int .i64 q.1) (v:=valV q.2) (by simp[f31]) zS (by simp[show ¬ 2*M=2*ub1 by omega,om]) ?_
     have n5:¬ 1153=2*ub1+1:=by omega
     simp[valV,JH,j6,fr,j1]
     generalize hK2:jvh E YC (C.cond _ _ _) _=K2
     have restF:∀ (s1:St) (fit:Bool),fit=Qi o q.2→s1.tm 46=.bool fit→s1.tm 7=v→s1.tm 8=.int .i64 q.1→IntsO s1.ob (fun u=>640≤u∧u≠M∧u≠ub1∧u<s1.nx) (js o++Xu o P) v →
      s1.ob (2*ub1+1)=some ⟨ub1,.miter (2*M+1) U ver (MP valV (A'++B')) (some (.int .i64 q.1,valV q.2))⟩→s1.ob (2*M+1)=some ⟨U,.mp ver (MP valV OTH)⟩→s1.ob 1153=some ⟨576,.cells (opC o)⟩→ub1<s1.nx→s1.df=[]→s1.ro=0→K2 .nrm s1:=by
      intro s1 fit hfit h46 h7 h8 hv oi om o5 hn hd hr
      rw[← hK2]
      have hpk:Xu o (P++[q])=Xu o P++(if fit then [q.1] else []):=by
       unfold Xu
       rw[List.filter_append,List.map_append,hfit]
       cases hf:Qi o q.2 <;> simp[hf]
      have hml:(A'++B').length<(A'++q::B').length:=by simp
      cases fit
      ·simp only[Bool.false_eq_true,if_false,List.append_nil]at hpk
       simp[h46]
       exact⟨(A'++B').length,zL,by rw[hJ];exact⟨P++[q],A'++B',v,some (.int .i64 q.1,valV q.2),rfl,hperm',by simp[h7],by rw[hpk];exact hv.frame (fun u _=>by simp) (fun u hu=>⟨hu.1,hu.2.1,hu.2.2.1,by have:=hu.2.2.2;first|omega|(simp;omega)⟩),by simp[oi],by simp[om],by simp[o5],by first|omega|(simp;omega)⟩⟩
      ·simp only[if_true]at hpk
       simp[h46,h7,h8]
       refine JO (cs:=[.int .i64 q.1]) (by simp[j6]) rfl rfl ?_
       simp
       refine jb6 (p:=fun u=>640≤u∧u≠M∧u≠ub1∧u<s1.nx) (l:=js o++Xu o P) (z:=q.1) (v:=v) (X:=2*(s1.nx+64+64)+1) (uX:=s1.nx+64+64) zS (hv.frame (fun u hu=>?_) (fun _ h=>h)) zS zS (by simp[hr]) (by rw[List.length_append];simp at hPl;omega) (fun kl hkl=>?_)
       ·have:¬ 2*u=2*(s1.nx+64+64):=by have:=hu.2.2.2;omega
        simp[this]
       have nk:∀z:Nat,(∀u,640≤u→u≠M→u≠ub1→z≠2*u+1)→z ∉ kl:=fun z hz hm=>by
        obtain⟨u,hu,e⟩:=hkl z hm
        exact hz u hu.1 hu.2.1 hu.2.2.1 e
       have k1:=nk (2*ub1+1) (fun u _ _ h e=>h zO)
       have k2:=nk (2*M+1) (fun u _ h _ e=>h zO)
       have k3:=nk 1153 (fun u h _ _ e=>by omega)
       obtain⟨Z,hZ⟩:∃Z,s1.nx+64+64+64=Z:=⟨_,rfl⟩
       have d1:¬ 2*ub1+1=2*Z+1:=by omega
       have d2:¬ 2*M+1=2*Z+1:=by omega
       have d3:¬ 1153=2*Z+1:=by omega
       have b1:¬ 2*ub1+1=2*(s1.nx+64+64)+1:=by omega
       have b2:¬ 2*M+1=2*(s1.nx+64+64)+1:=by omega
       have b3:¬ 1153=2*(s1.nx+64+64)+1:=by omega
       have hnx:∀X:Prop,X→X:=fun _ h=>h
       simp only[hZ]
       simp
       refine⟨(A'++B').length,zL,?_⟩
       rw[hJ]
       refine⟨P++[q],A'++B',.osl (2*Z+1) Z 0 (js o++Xu o (P++[q])).length 1,some (.int .i64 q.1,valV q.2),rfl,hperm',by simp[hpk],Or.inr ⟨by rw[hpk];simp,Z,rfl,?_,zO,zO,zO,?_⟩,?_,?_,?_,?_⟩
       ·simp only[JD,YP]
        rw[jmd,if_pos rfl,hpk]
        simp
       ·first|omega|(simp;done)|(simp;omega)
       ·simp only[JD,YP]
        rw[jh9 _ _ _ _ _ _ _ k1,if_neg d1]
        simp only[Jy,YP,if_neg b1]
        exact oi
       ·simp only[JD,YP]
        rw[jh9 _ _ _ _ _ _ _ k2,if_neg d2]
        simp only[Jy,YP,if_neg b2]
        exact om
       ·simp only[JD,YP]
        rw[jh9 _ _ _ _ _ _ _ k3,if_neg d3]
        simp only[Jy,YP,if_neg b3]
        exact o5
       ·first|omega|(simp;done)|(simp;omega)
     clear hK2
     have c1:¬ 2*ub1=2*(s.nx+64+64+64+64+64):=by omega
     have c2:¬ 2*M=2*(s.nx+64+64+64+64+64):=by omega
     have c3:¬ 2*M=2*ub1:=by omega
     have hsn:640≤s.nx+64+64+64+64+64:=Nat.le_trans (Nat.le_trans hub0 (Nat.le_of_lt hn1)) (by simp[Nat.add_assoc])
     have nq:=jzy hsn
     have n5':=jzy hub0
     cases hk2:(o.v.kind == 2)
     ·simp[f5,o5',j1,opC,n5,nq,hk2]
      refine restF _ (q.2.kind == o.v.kind && q.2.n == o.v.n) (by unfold Qi;rw[hk2];rfl) zS (by simp[h7]) zS (hv.frame (fun u hu=>?_) (fun u hu=>⟨hu.1,hu.2.1,hu.2.2.1,by have:=hu.2.2.2;first|omega|(simp;omega)⟩)) (by simp[c1,j0k,valV,JH]) (by simp[c2,c3,om]) (by simp[nq,n5',o5',opC]) (by first|omega|(simp;omega)) (by simp[fd]) (by simp[fr])
      have a1:¬ 2*u=2*(s.nx+64+64+64+64+64):=by have:=hu.2.2.2;omega
      have a2:¬ 2*u=2*ub1:=by have:=hu.2.2.1;omega
      simp[a1,a2]
     ·simp[f5,o5',j1,opC,n5,nq,hk2]
      refine restF _ true (by unfold Qi;rw[hk2];rfl) zS (by simp[h7]) zS (hv.frame (fun u hu=>?_) (fun u hu=>⟨hu.1,hu.2.1,hu.2.2.1,by have:=hu.2.2.2;first|omega|(simp;omega)⟩)) (by simp[c1,j0k,valV,JH]) (by simp[c2,c3,om]) (by simp[nq,n5',o5',opC]) (by first|omega|(simp;omega)) (by simp[fd]) (by simp[fr])
      have a1:¬ 2*u=2*(s.nx+64+64+64+64+64):=by have:=hu.2.2.2;omega
      have a2:¬ 2*u=2*ub1:=by have:=hu.2.2.1;omega
      simp[a1,a2]
   clear hK
   refine j2w fun st hst=>?_
   have g2:st.tm 2=.ptr 1 0 0:=by rw[hst];simp
   have g3:st.tm 3=.ptr 129 64 0:=by rw[hst];simp
   have g5:st.tm 5=.ptr 1153 576 0:=by rw[hst];simp
   have g7:st.tm 7=.sl none true 0 []:=by rw[hst];simp
   have p1:st.ob 1=some ⟨0,.cells (j2 g)⟩:=by rw[hst];simp[j2]
   have p3:st.ob 129=some ⟨64,.cells [.int .i64 a,.int .i64 b]⟩:=by rw[hst];simp
   have p5:st.ob 1153=some ⟨576,.cells (opC o)⟩:=by rw[hst];simp[opC,hw]
   have gd:st.df=[]:=by rw[hst];simp
   have gr:st.ro=0:=by rw[hst];simp
   have gn:640≤st.nx:=by rw[hst];simp
   clear hst
   cases hk1:(o.v.kind != 1)
   ·have hk:o.v.kind=1:=by simpa using hk1
    simp
    exact rest _ _ g2 g3 g5 p1 p3 p5 g7 (Or.inl ⟨by simp[js,hk],rfl⟩) gd gr gn
   ·have hk:¬ o.v.kind=1:=by simpa using hk1
    simp[g7]
    refine JO (cs:=[.int .i64 (-1)]) (by simp[j6]) rfl rfl ?_
    simp
    refine jb6 (p:=fun _=>False) (l:=[]) (z:=-1) (v:=.sl none true 0 []) (X:=2*(st.nx+64)+1) (uX:=st.nx+64) zS (Or.inl ⟨rfl,rfl⟩) zS zS (fun _ h=>h.elim) zS (fun kl hkl=>?_)
    have hkl0:kl=[]:=by
     cases kl with
     | nil=>rfl
     | cons k _=>obtain⟨_,h,_⟩:=hkl k zS;exact h.elim
    subst hkl0
    have n1:¬ 1=2*(st.nx+64+64)+1:=by omega
    have n1':¬ 1=2*(st.nx+64)+1:=by omega
    have n3:¬ 129=2*(st.nx+64+64)+1:=by omega
    have n3':¬ 129=2*(st.nx+64)+1:=by omega
    have n5:¬ 1153=2*(st.nx+64+64)+1:=by omega
    have n5':¬ 1153=2*(st.nx+64)+1:=by omega
    simp
    refine rest _ (.osl (2*(st.nx+64+64)+1) (st.nx+64+64) 0 1 1) (by simp[g2]) (by simp[g3]) (by simp[g5]) ?_ ?_ ?_ zS (Or.inr ⟨by simp[js,hk],st.nx+64+64,by simp[js,hk],by simp[js,hk,intC],zO,zS⟩) (by simp[gd]) (by simp[gr]) (by simp;omega)
    ·simp only[JD,YP,Jy,if_neg n1,if_neg n1'];exact p1
    ·simp only[JD,YP,Jy,if_neg n3,if_neg n3'];exact p3
    ·simp only[JD,YP,Jy,if_neg n5,if_neg n5'];exact p5
  ·simp[j6,opC,j1]
   exact Q9 (p:=fun _=>True) zS rfl (Or.inl ⟨rfl,zS⟩) zS
theorem ev175 {h:Hist'}(hs:Small h) (a b:Int):Ev E 175 [.agg (j2 h),.agg (jH (a,b))] (.bool ((opAt h a b).any fun o=>!o.w)):=by
 have e32:=ev58 hs
 have hts:=hs.ts
 refine jU (af:=F175) rfl ?_
 obtain⟨R,hR⟩:∃R,opAt h a b=R:=⟨_,rfl⟩
 rw[hR]
 unfold opAt at hR
 simp[F175,j2,j1,jH]
 refine Xy e32 (by simp[j2]) rfl (by simp[j2]) ?_
 cases hm:XC h
 ·rw[jby hm]
  rw[hm]at hR
  subst hR
  simp
  exact j4 zS zS rfl
 rw[hm]at hR
 rw[Wd hm]
 by_cases k1n:a<0
 ·have k1:¬ 0≤a:=by omega
  rw[if_neg (by simp;omega)]at hR
  subst hR
  simp[k1,j1]
  exact j4 zS zS rfl
 have k1:0≤a:=by omega
 by_cases k2n:(h.ts.length:Int)≤a
 ·have k2:¬ (a<(h.ts.length:Int)):=by omega
  rw[if_neg (by simp;omega)]at hR
  subst hR
  simp[k1,k2,j1]
  exact j4 zS zS rfl
 have k2:a<(h.ts.length:Int):=by omega
 by_cases k3n:b<0
 ·have k3:¬ 0≤b:=by omega
  rw[if_neg (by simp;omega)]at hR
  subst hR
  simp[k1,k2,k3,j1]
  exact j4 zS zS rfl
 have k3:0≤b:=by omega
 obtain⟨i,rfl⟩:∃i:Nat,a=i:=⟨a.toNat,zO⟩
 have hi:i<h.ts.length:=by omega
 rw[Int.toNat_natCast,JQ hi]at hR
 obtain⟨t,ht⟩:∃t,h.ts[i]=t:=⟨_,rfl⟩
 rw[ht]at hR
 have hl3:(h.ts.flatMap jl)[i*3+2]? = some (jN t.nl opC t.ops):=by
  rw[jh jA h.ts hi (by decide:2<3),ht];rfl
 by_cases k4n:(t.ops.length:Int)≤b
 ·have k4:¬ (b<(t.ops.length:Int)):=by omega
  rw[if_neg (by simp;omega)]at hR
  subst hR
  simp[k1,k2,k3,k4,j1,hi,j7 jA,hl3]
  exact j4 zS zS rfl
 have k4:b<(t.ops.length:Int):=by omega
 obtain⟨j,rfl⟩:∃j:Nat,b=j:=⟨b.toNat,zO⟩
 have hj:j<t.ops.length:=by omega
 rw[if_pos (by simp;omega),Int.toNat_natCast,List.getElem?_eq_getElem hj]at hR
 obtain⟨o,ho⟩:∃o,t.ops[j]=o:=⟨_,rfl⟩
 rw[ho]at hR
 subst hR
 have a0:(t.ops.flatMap opC)[j*4]? = some (.bool o.w):=by
  have:=jh jK t.ops hj (by decide:0<4)
  rw[Nat.add_zero,ho]at this
  rw[this];rfl
 simp[k1,k2,k3,k4,j1,hi,j7 jA,hl3]
 simp[hj,j7 jK,a0]
 exact j4 zS zS rfl
def jru (o:Op') (a:Int) (i:Nat) (t:Txn'):Bool:=(!((i:Int) == a) && (t.f != 2)) && ((J4 o.key t.ops t.ops.length).2 && Qi o (J4 o.key t.ops t.ops.length).1)
def Xt (ts:List Txn') (a:Int) (o:Op'):Nat→List Int
 | 0=>js o
 | i+1=>Xt ts a o i++(match ts[i]? with|some t=>if jru o a i t then [(i:Int)] else []|none=>[])
theorem jf8 {ts:List Txn'}{a:Int}{o:Op'}{i:Nat}(h:i<ts.length):Xt ts a o (i+1)=Xt ts a o i++(if jru o a i ts[i] then [(i:Int)] else []):=by
 simp[Xt,List.getElem?_eq_getElem h]
theorem jix (ts:List Txn') (a:Int) (o:Op'):∀i,(Xt ts a o i).length≤i+1
 | 0=>by unfold Xt js;split <;> simp
 | i+1=>by
  have:=jix ts a o i
  simp only[Xt,List.length_append]
  split
  ·split <;> simp <;> omega
  ·simp;omega
theorem jb5 {g:Hist'}(hm:XC g=true) (key:Int) {i:Nat}(h:i<g.ts.length):XX g key i=(J4 key g.ts[i].ops g.ts[i].ops.length).1:=by
 unfold XX jaf Xw
 rw[hm,if_pos (by simp;omega)]
 simp only[Int.toNat_natCast]
 rw[JQ h]
theorem jm8 {g:Hist'}(hm:XC g=true) (a:Int) (o:Op'):∀i,i≤g.ts.length→Xt g.ts a o i=js o++(numsTo (wrB o.key) g.ts i).filter fun i=>!(i == a) && Qi o (XX g o.key i)
 | 0,_=>by simp[Xt,numsTo]
 | i+1,h=>by
  rw[jf8 zO,JM zO,List.filter_append,jm8 hm a o i zO,List.append_assoc]
  congr 2
  have hr:=Q1 o.key (g.ts[i]).ops (g.ts[i]).ops.length (Nat.le_refl _)
  rw[List.take_length]at hr
  have hl:=jb5 hm o.key (show i<g.ts.length by omega)
  unfold jru wrB
  rw[hr]
  cases h1:(g.ts[i].ops.any (wkB o.key)) <;> cases h2:(g.ts[i].f != 2) <;> cases h3:((i:Int) == a) <;> simp[List.filter_cons,h3,hl]
theorem jr1 {g:Hist'}(hm:XC g=true) (a:Int) (o:Op'):Xt g.ts a o g.ts.length=ofL g a o:=jm8 hm a o _ (Nat.le_refl _)
theorem jaz {g:Hist'}{a b:Int}{o:Op'}(h:opAt g a b=some o):∃i j:Nat,a=i∧b=j∧∃ (hi:i<g.ts.length) (hj:j<(g.ts[i]).ops.length),(g.ts[i]).ops[j]=o:=by
 unfold opAt at h
 by_cases hc:(XC g && (decide (0≤a) && (decide (a<g.ts.length) && (decide (0≤b) && decide (b<((g.ts.getD a.toNat ⟨0,0,true,[]⟩).ops.length:Nat))))))=true
 ·rw[if_pos hc]at h
  simp only[Bool.and_eq_true,decide_eq_true_eq]at hc
  obtain⟨_,h1,h2,h3,h4⟩:=hc
  obtain⟨i,rfl⟩:∃i:Nat,a=i:=⟨a.toNat,zO⟩
  obtain⟨j,rfl⟩:∃j:Nat,b=j:=⟨b.toNat,zO⟩
  have hi:i<g.ts.length:=by omega
  rw[Int.toNat_natCast,JQ hi]at h h4
  have hj:j<(g.ts[i]).ops.length:=by omega
  rw[Int.toNat_natCast,List.getElem?_eq_getElem hj]at h
  exact⟨i,j,rfl,rfl,hi,hj,Option.some.inj h⟩
 ·rw[if_neg hc]at h
  cases h
theorem ev112' {g:Hist'}(hs:Small g) (a b:Int):∃v,Ev E 112 [.agg (j2 g),.agg (jH (a,b))] v∧SlR v false (ofH g a b).length ((ofH g a b).flatMap intC):=by
 have e77:=ev175 hs a b
 refine YE (af:=F112) rfl (by decide) ?_
 unfold ofH
 cases hop:opAt g a b with
 | none=>
  rw[hop]at e77
  simp[F112,j2,jH]
  refine jS (cs:=[]) rfl rfl rfl ?_
  simp[j1]
  refine jV e77 (by simp[j2,jH]) rfl (by simp[j2,jH]) ?_
  simp
  exact slE (t:=some (192,1)) (nl:=false) (k:=0) (cs:=[]) (fun r h=>h) zS zS
 | some o=>
  rw[hop]at e77
  simp only[Option.any_some]at e77
  have hmay:XC g=true:=by
   unfold opAt at hop
   cases hm:XC g
   ·rw[hm]at hop;cases hop
   ·rfl
  have hts:=jth hmay
  simp[F112,j2,jH]
  refine jS (cs:=[]) rfl rfl rfl ?_
  simp[j1]
  refine jV e77 (by simp[j2,jH]) rfl (by simp[j2,jH]) ?_
  cases hw:o.w
  ·obtain⟨i,j,rfl,rfl,hi,hj,ho⟩:=jaz hop
   have hl3:(g.ts.flatMap jl)[i*3+2]? = some (jN (g.ts[i]).nl opC (g.ts[i]).ops):=by
    rw[jh jA g.ts hi (by decide:2<3)];rfl
   have hl4:=fun ob=>jk jK ob (g.ts[i]).ops hj
   rw[ho]at hl4
   simp[j1,hi,hj,j7 jA,j7 jK,hl3,hl4]
   refine⟨by simp[opC],by simp[Jo,QC,jc5,jbe,rdOb,rdTk,lOf,Delta.wo,Delta.wt,opC];try decide,?_⟩
   simp[opC]
   generalize hK:jvh E YC _ (jfr _ _)=K
   have rest:∀ (s:St) (U:Nat) (v:V),s.tm 2=.ptr 4 0 0→s.tm 3=.ptr 6 64 0→s.tm 6=.ptr 12 U 0→s.ob 4=some ⟨0,.cells (j2 g)⟩→s.ob 6=some ⟨64,.cells [.int .i64 i,.int .i64 j]⟩→s.ob 12=some ⟨U,.cells (opC o)⟩ →
    s.tm 5=v→GrowT s.tk s.nx intC 1 (js o) v→s.df=[]→s.ro=0→s.fb=0→K .nrm s:=by
    intro s U v h2 h3 h6 o4 o6 o12 h5 hv hd hr hb
    rw[← hK]
    clear hK e77 hop
    simp
    generalize (i:Int)=a at *
    refine jE [(5,5),(7,9),(34,90)] g.ts.length (fun n s=>s.tm 7=.int .i64 n∧s.ob 4=some ⟨0,.cells (j2 g)⟩∧s.ob 6=some ⟨64,.cells [.int .i64 a,.int .i64 j]⟩∧s.ob 12=some ⟨U,.cells (opC o)⟩∧GrowT s.tk s.nx intC 1 (Xt g.ts a o n) (s.tm 5)) rfl rfl ⟨zS,by simp[o4],by simp[o6],by simp[o12],by rw[Xt];simp[h5];exact hv.mono (fun _ _ h=>h) zO⟩ ?_
    rintro n s' hn ⟨h7,o4,o6,o12,hG⟩ f
    have f2:s'.tm 2=.ptr 4 0 0:=by rw[f.t 2 zS];simp[h2]
    have f3:s'.tm 3=.ptr 6 64 0:=by rw[f.t 3 zS];simp[h3]
    have f6:s'.tm 6=.ptr 12 U 0:=by rw[f.t 6 zS];simp[h6]
    have fd:s'.df=[]:=by rw[f.d];simp[hd]
    have fb:s'.fb=0:=by rw[f.b];simp[hb]
    have fr:s'.ro=0:=by rw[f.r];simp[hr]
    clear f
    by_cases hlt:n<g.ts.length
    ·have hw:=J0 hlt zO
     have hsn:=jf8 (a:=a) (o:=o) hlt
     obtain⟨t,ht⟩:∃t,g.ts[n]=t:=⟨_,rfl⟩
     rw[ht]at hsn
     have hos:=hs.os t (ht▸List.getElem_mem hlt)
     have hll:=jix g.ts a o n
     have hff:(g.ts.flatMap jl)[n*3+1]? = some (.int .i64 t.f):=by
      rw[jh jA g.ts hlt (by decide:1<3),ht];rfl
     have hfo:(g.ts.flatMap jl)[n*3+2]? = some (jN t.nl opC t.ops):=by
      rw[jh jA g.ts hlt (by decide:2<3),ht];rfl
     have e78:=ev84 t zO o.key
     simp[h7,f2,f6,o4,o12,j1,j2,opC,hlt,j7 jA,jk jA,ht,hfo]
     refine Xy e78 (by simp[jl]) rfl (by simp[jl]) ?_
     rw[XB (by simp[V.plain,JH])]
     have hsee:jru o a n t=((!((n:Int) == a) && (t.f != 2)) && ((J4 o.key t.ops t.ops.length).2 && Qi o (J4 o.key t.ops t.ops.length).1)):=rfl
     generalize (J4 o.key t.ops t.ops.length).1=rv at *
     generalize (J4 o.key t.ops t.ops.length).2=rb at *
     have o4':s'.ob 4=some ⟨0,.cells [jN g.sn JL g.ss,jN g.kn JL g.ks,jN g.tn jl g.ts]⟩:=o4
     have o12':s'.ob 12=some ⟨U,.cells [.bool o.w,.int .i64 o.key,.int .i64 o.v.kind,.int .i64 o.v.n]⟩:=o12
     have skip:jru o a n t=false→Xt g.ts a o (n+1)=Xt g.ts a o n:=fun h=>by rw[hsn,h];simp
     simp[JH,j1,fb,fr,j6,f3,o6,h7]
     refine⟨by simp[Jo,QC,jc5,jbe,rdOb,rdTk,lOf,Delta.wo,Delta.wt];try decide,?_⟩
     cases h1:((n:Int) != a)
     ·have h1b:((n:Int) == a)=true:=by simpa[bne] using h1
      have hsk:=skip (by rw[hsee,h1b];rfl)
      simp[o4',o6,o12',h7,hw,hlt]
      rw[hsk];exact hG.mono (fun u _ h=>by simpa[JG] using h) zO
     have h1b:((n:Int) == a)=false:=by simpa[bne] using h1
     cases h2:(t.f != 2)
     ·have hsk:=skip (by rw[hsee,h1b,h2];rfl)
      simp[h2,f2,o4',o6,o12',h7,hw,j1,hlt,j7 jA,hff]
      rw[hsk];exact hG.mono (fun u _ h=>by simpa[JG] using h) zO
     cases rb
     ·have hsk:=skip (by rw[hsee,h1b,h2];rfl)
      simp[h2,f2,o4',o6,o12',h7,hw,j1,hlt,j7 jA,hff]
      rw[hsk];exact hG.mono (fun u _ h=>by simpa[JG] using h) zO
     cases h4:(o.v.kind == 2)
     ·cases h5:(rv.kind == o.v.kind && rv.n == o.v.n)
      ·have hsk:=skip (by rw[hsee,h1b,h2];unfold Qi;rw[h4,h5];rfl)
       simp[h2,h4,h5,f2,f6,o4',o6,o12',h7,hw,j1,hlt,j7 jA,hff]
       rw[hsk];exact hG.mono (fun u _ h=>by simpa[JG] using h) zO
      ·have h3f:Qi o rv=true:=by unfold Qi;rw[h4,h5];rfl
       have hsn2:Xt g.ts a o (n+1)=Xt g.ts a o n++[(n:Int)]:=by rw[hsn,hsee];simp[h1b,h2,h3f]
       simp[h2,h4,h5,f2,f6,o4',o12',h7,j1,hlt,j7 jA,hff]
       refine jS (cs:=[.int .i64 n]) (by simp[j6]) rfl rfl ?_
       simp
       refine WA (f:=intC) (hi:=s'.nx) (l:=Xt g.ts a o n) (a:=(n:Int)) (v:=s'.tm 5) (hG.mono (fun u _ h=>by simp[jv,h]) (Nat.le_refl _)) zS (by simp[jI,intC]) jG (by decide) rfl zO zO (fun del hdel=>?_)
       have hlen:(Xt g.ts a o n).length+1=(Xt g.ts a o (n+1)).length:=by rw[hsn2];simp
       rw[← hsn2,hlen]
       simp[h7,hw,o4',o6,o12']
       exact⟨hlt,_,rfl,by simp[jv],zO⟩
     ·have h3f:Qi o rv=true:=by unfold Qi;rw[h4];rfl
      have hsn2:Xt g.ts a o (n+1)=Xt g.ts a o n++[(n:Int)]:=by rw[hsn,hsee];simp[h1b,h2,h3f]
      simp[h2,h4,f2,f6,o4',o12',h7,j1,hlt,j7 jA,hff]
      refine jS (cs:=[.int .i64 n]) (by simp[j6]) rfl rfl ?_
      simp
      refine WA (f:=intC) (hi:=s'.nx) (l:=Xt g.ts a o n) (a:=(n:Int)) (v:=s'.tm 5) (hG.mono (fun u _ h=>by simp[jv,h]) (Nat.le_refl _)) zS (by simp[jI,intC]) jG (by decide) rfl zO zO (fun del hdel=>?_)
      have hlen:(Xt g.ts a o n).length+1=(Xt g.ts a o (n+1)).length:=by rw[hsn2];simp
      rw[← hsn2,hlen]
      simp[h7,hw,o4',o6,o12']
      exact⟨hlt,_,rfl,by simp[jv],zO⟩
    ·have:n=g.ts.length:=by omega
     subst this
     obtain⟨u,hv,_,_⟩:=hG
     simp[h7,f2,o4,j1,j2]
     rw[← jr1 hmay]
     exact slE (t:=some (u,1)) (nl:=false) (k:=(Xt g.ts a o g.ts.length).length) (cs:=(Xt g.ts a o g.ts.length).flatMap intC) (fun r h=>h) (by simp[fd]) (by simp[hv])
   by_cases hk:o.v.kind=1
   ·simp[hk]
    refine rest _ 1280 _ zS zS zS (by simp[j2]) zS (by simp[opC,hk]) (by simp;rfl) ?_ zS zS zS
    exact⟨192,by simp[js,hk],by simp[jv],zS⟩
   ·have hkb:(o.v.kind != 1)=true:=by simp[hk]
    simp[hkb]
    refine jS (cs:=[.int .i64 (-1)]) (by simp[j6]) rfl rfl ?_
    simp
    refine WA (f:=intC) (hi:=576) (l:=[]) (a:=-1) (v:=.sl (some (192,1)) false 0 []) ⟨192,rfl,by simp[jv],zO⟩ zS (by simp[jI,intC]) jG (by decide) rfl zS zS (fun del hdel=>?_)
    simp
    refine rest _ 1280 _ zS zS zS (by simp[j2]) zS (by simp[opC]) (by simp;rfl) ?_ zS zS zS
    exact⟨1792,by simp[js,hk],by simp[jv],zS⟩
  ·simp
   exact slE (t:=some (192,1)) (nl:=false) (k:=0) (cs:=[]) (fun r h=>h) zS zS
theorem Qg {ub:Nat}{v:V}{nl:Bool}{n:Nat}{cs:List V}{K:Delta→Prop}(hv:SlR v nl n cs) (h:∀t add,K { v:=.sl t nl n cs,add:=add }):wpD (YB ub v) K:=by
 obtain⟨t,add,hr⟩:=jha (ub:=ub) hv
 rw[hr,jM]
 exact h t add
theorem len0 {α:Type}(l:List α):((l.length:Int) == 0)=l.isEmpty:=by cases l <;> simp <;> omega
theorem len0b {α β:Type}(l:List α) (m:List β):((l.length:Int)+m.length == 0)=(l.isEmpty && m.isEmpty):=by cases l <;> cases m <;> simp <;> omega
def JC (g:Hist'):Bool:=XC g && ((Xa g).isEmpty && (jb1 g).isEmpty)
theorem ev52 {g:Hist'}(hs:Small g):Ev E 52 [.agg (j2 g)] (.bool (JC g)):=by
 have e70:=jqe hs
 refine jU (af:=F52) rfl ?_
 unfold JC
 cases hm:XC g
 ·simp[F52,j2,j1]
  refine jV e70 (by simp[j2]) rfl (by simp[j2]) ?_
  have hb:(errH g == 0)=false:=by simp[jby hm]
  simp[hb]
  exact j4 zS zS rfl
 ·rw[Wd hm]at e70
  obtain⟨vi,evi,nli,hvi⟩:=ev104 hs hm
  obtain⟨vl,evl,nll,hvl⟩:=ev105 hs hm
  simp[F52,j2,j1]
  refine jV e70 (by simp[j2]) rfl (by simp[j2]) ?_
  simp[j1]
  refine jV evi (by simp[j2]) rfl (by simp[j2]) ?_
  refine Qg hvi fun t add=>?_
  have hz:=len0 (Xa g)
  cases hb:(Xa g).isEmpty
  ·rw[hb]at hz
   simp[hz]
   exact j4 zS zS rfl
  ·rw[hb]at hz
   simp[hz,j1]
   refine jV evl (by simp[j2]) rfl (by simp[j2]) ?_
   refine Qg hvl fun t add=>?_
   simp
   exact j4 zS (by simp[len0]) rfl
theorem ev21 {g:Hist'}(hs:Small g):Ev E 21 [.agg (j2 g)] (.bool (JC g)):=by
 have e32:=ev58 hs
 refine jU (af:=F21) rfl ?_
 unfold JC
 cases hm:XC g
 ·simp[F21,j2,j1]
  refine Xy e32 (by simp[j2]) rfl (by simp[j2]) ?_
  have hb:(errH g == 0)=false:=by simp[jby hm]
  simp[hb]
  exact j4 zS zS rfl
 ·rw[Wd hm]at e32
  have evi:=ev59 g (by have:=hs.ts;omega)
  obtain⟨vl,evl,nll,hvl⟩:=ev60 hs
  have B:=bnd_of hs
  have bi:=B.i
  have bl:=B.l
  have hw:IntKind.i64.wrap (((Xa g).length:Int)+(jb1 g).length)=((Xa g).length:Int)+(jb1 g).length:=jy zO zO
  simp[F21,j2,j1]
  refine Xy e32 (by simp[j2]) rfl (by simp[j2]) ?_
  simp[j1]
  refine Xy evi (by simp[j2]) rfl (by simp[j2]) ?_
  rw[jm3]
  simp[j1]
  refine Xy evl (by simp[j2]) rfl (by simp[j2]) ?_
  refine Qg hvl fun t add=>?_
  simp[hw]
  exact j4 zS (by simp[len0b]) rfl
theorem ev32 {a b:Bool}(l m:List Int) (hl:l.length≤1000000000) (hm:m.length≤1000000000):Ev E 32 [jN a intC l,jN b intC m] (.bool (l == m)):=by
 refine jU (af:=F32) rfl ?_
 have il:∀ (l:List Int) (i:Nat) (h:i<l.length),(l.flatMap intC)[i]? = some (.int .i64 l[i]):=fun l i h=>by
  have:=jh jG l h (by decide:0<1)
  rw[Nat.mul_one,Nat.add_zero]at this
  rw[this];rfl
 by_cases hlm:l.length=m.length
 ·simp[F32,hlm]
  refine jE [(4,5),(11,40)] l.length (fun i s=>s.tm 5=.int .i64 i∧l.take i=m.take i) rfl rfl ⟨zS,zS⟩ ?_
  rintro i s hi ⟨h5,hT⟩ f
  have f0:s.tm 0=jN a intC l:=by rw[f.t 0 zS];simp
  have f1:s.tm 1=jN b intC m:=by rw[f.t 1 zS];simp
  have fd:s.df=[]:=by rw[f.d];simp
  clear f
  by_cases hlt:i<l.length
  ·have hw:=J0 hlt zO
   have hlt2:i<m.length:=by omega
   have h1:=il l i hlt
   have h2:=il m i hlt2
   cases hne:(l[i] != m[i])
   ·have he:l[i]=m[i]:=by simpa using hne
    simp[h5,f0,f1,hlt,hlt2,j7 jG,h1,h2,hne,hw]
    rw[List.take_succ_eq_append_getElem hlt,List.take_succ_eq_append_getElem hlt2,hT,he]
   ·have hn:l[i]≠m[i]:=by simpa using hne
    simp[h5,f0,f1,hlt,hlt2,j7 jG,h1,h2,hne]
    refine j4 (by simp[fd]) ?_ rfl
    have:(l == m)=false:=by
     rw[beq_eq_false_iff_ne]
     intro e
     subst e
     exact hn rfl
    simp[this]
  ·have:i=l.length:=by omega
   subst this
   simp[h5,f0]
   refine j4 (by simp[fd]) ?_ rfl
   have:l=m:=by rw[List.take_length,hlm,List.take_length]at hT;exact hT
   simp[this]
 ·have hne:((l.length:Int) != m.length)=true:=by simp;omega
  simp[F32,hne]
  refine j4 zS ?_ rfl
  have:(l == m)=false:=by
   rw[beq_eq_false_iff_ne]
   intro e
   subst e
   exact hlm rfl
  simp[this]
theorem ev62 {a:Bool}(l:List Int) (hl:l.length≤1000000000) (k:Int):Ev E 62 [jN a intC l,.int .i64 k] (.bool (l.contains k)):=by
 refine jU (af:=F62) rfl ?_
 obtain⟨c,hc⟩:∃c,l.contains k=c:=⟨_,rfl⟩
 rw[hc]
 simp[F62]
 refine jE [(4,30)] l.length (fun i s=>s.tm 5=.int .i64 i∧(l.drop i).contains k=c) rfl rfl ⟨zS,by simpa using hc⟩ ?_
 rintro i s hi ⟨h5,hT⟩ f
 have f0:s.tm 0=jN a intC l:=by rw[f.t 0 zS];simp
 have f1:s.tm 1=.int .i64 k:=by rw[f.t 1 zS];simp
 have fd:s.df=[]:=by rw[f.d];simp
 clear f
 by_cases hlt:i<l.length
 ·have hw:=J0 hlt zO
  have h1:=XP l hlt
  rw[List.drop_eq_getElem_cons hlt,List.contains_cons]at hT
  cases he:(l[i] == k)
  ·have he':(k == l[i])=false:=by rw[beq_eq_false_iff_ne]at he ⊢;exact fun e=>he e.symm
   rw[he',Bool.false_or]at hT
   simp[h5,f0,f1,hlt,j7 jG,h1,he,hw]
   simpa using hT
  ·have he':(k == l[i])=true:=by rw[beq_iff_eq]at he ⊢;exact he.symm
   rw[he',Bool.true_or]at hT
   simp[h5,f0,f1,hlt,j7 jG,h1,he]
   exact j4 (by simp[fd]) (by rw[← hT];simp) rfl
 ·have:i=l.length:=by omega
  subst this
  rw[List.drop_length]at hT
  simp[h5,f0]
  exact j4 (by simp[fd]) (by rw[← hT];simp) rfl
def idxI:List Int→Int→Nat→Int
 | [],_,_=>-1
 | x::r,k,n=>if k == x then n else idxI r k (n+1)
theorem jdg (k:Int):∀ (l:List Int) (n:Nat),decide (idxI l k n<0) = !l.contains k
 | [],n=>rfl
 | x::r,n=>by
  rw[idxI,List.contains_cons]
  cases h:(k == x)
  ·simpa using jdg k r (n+1)
  ·simp
theorem ev127 {a:Bool}(l:List Int) (hl:l.length≤1000000000) (k:Int):Ev E 127 [jN a intC l,.int .i64 k] (.int .i64 (idxI l k 0)):=by
 refine jU (af:=F127) rfl ?_
 simp[F127]
 refine jE [(4,5),(8,30)] l.length (fun i s=>s.tm 8=.int .i64 i∧idxI (l.drop i) k i=idxI l k 0) rfl rfl ⟨zS,zS⟩ ?_
 rintro i s hi ⟨h5,hT⟩ f
 have f0:s.tm 0=jN a intC l:=by rw[f.t 0 zS];simp
 have f1:s.tm 1=.int .i64 k:=by rw[f.t 1 zS];simp
 have f7:s.tm 7=.int .i64 l.length:=by rw[f.t 7 zS];simp
 have fd:s.df=[]:=by rw[f.d];simp
 clear f
 by_cases hlt:i<l.length
 ·have hw:=J0 hlt zO
  have h1:=XP l hlt
  rw[List.drop_eq_getElem_cons hlt,idxI]at hT
  cases he:(k == l[i])
  ·rw[he]at hT
   simp[h5,f0,f1,f7,hlt,j7 jG,h1,he,hw]
   simpa using hT
  ·rw[he]at hT
   simp[h5,f0,f1,f7,hlt,j7 jG,h1,he]
   exact j4 (by simp[fd]) (by rw[← hT];simp) rfl
 ·have:i=l.length:=by omega
  subst this
  rw[List.drop_length,idxI]at hT
  simp[h5,f7]
  exact j4 (by simp[fd]) (by rw[← hT];simp) rfl
theorem jdb (l:List (Int × Int)) (ob:ZO) {i:Nat}(h:i<l.length):Qh ob (some 2) (.eptr (l.flatMap jH) (i*2))=some (.agg [.int .i64 (l[i]).1,.int .i64 (l[i]).2]):=jk X0 ob l h
def JF (t:Txn'):Bool:=t.f == 1
def comH (g:Hist'):List Int:=if JC g then numsTo JF g.ts g.ts.length else []
theorem ev71 {g:Hist'}(hs:Small g):∃v,Ev E 71 [.agg (j2 g)] v∧SlR v (comH g).isEmpty (comH g).length ((comH g).flatMap intC):=by
 have e83:=ev52 hs
 have hts:=hs.ts
 refine YE (af:=F71) rfl (by decide) ?_
 unfold comH
 cases hw:JC g
 ·rw[hw]at e83
  simp[F71,j2,j1]
  refine jV e83 (by simp[j2]) rfl (by simp[j2]) ?_
  simp
  exact slE (t:=none) (nl:=true) (k:=0) (cs:=[]) (fun r h=>h) zS zS
 rw[hw]at e83
 simp[F71,j2,j1]
 refine jV e83 (by simp[j2]) rfl (by simp[j2]) ?_
 simp[j1]
 refine jE [(3,5),(12,24)] g.ts.length (fun i s=>s.tm 12=.int .i64 i∧Grow s.tk 0 s.nx intC 1 (numsTo JF g.ts i) (s.tm 3)) rfl rfl ⟨zS,by simp[numsTo];exact Grow.nil _ _ _ _ _⟩ ?_
 rintro i s hi ⟨h12,hG⟩ f
 have f10:s.tm 10=jN g.tn jl g.ts:=by rw[f.t 10 zS];simp
 have f11:s.tm 11=.int .i64 g.ts.length:=by rw[f.t 11 zS];simp
 have fd:s.df=[]:=by rw[f.d];simp
 have fb:s.fb=0:=by rw[f.b];simp
 have fr:s.ro=0:=by rw[f.r];simp
 clear f
 by_cases hlt:i<g.ts.length
 ·have hw:=J0 hlt zO
  have hsn:=JM (p:=JF) hlt
  obtain⟨t,ht⟩:∃t,g.ts[i]=t:=⟨_,rfl⟩
  rw[ht]at hsn
  have hll:=JJ JF g.ts i
  cases hi:JF t
  ·have hi':(t.f == 1)=false:=hi
   rw[hi]at hsn
   simp only[Bool.false_eq_true,if_false,List.append_nil]at hsn
   simp[h12,f10,f11,hlt,j7 jA,jk jA,ht,jl,j1,fb,fr,j6,hi',hw]
   rw[hsn];exact hG.mono (fun u _ _ h=>by simpa[JG] using h) zO
  ·have hi':(t.f == 1)=true:=hi
   rw[hi]at hsn
   simp only[if_true]at hsn
   simp[h12,f10,f11,hlt,j7 jA,jk jA,ht,jl,j1,fb,fr,j6,hi']
   refine jS (cs:=[.int .i64 i]) (by simp[j6]) rfl rfl ?_
   simp
   refine YL (f:=intC) (lo:=0) (hi:=s.nx) (l:=numsTo JF g.ts i) (a:=(i:Int)) (v:=s.tm 3) (hG.mono (fun u _ _ h=>by simp[jv,h]) (Nat.le_refl _)) zS (by simp[jI,intC]) jG (by decide) rfl zO zO (fun del hdel=>?_)
   have hne:numsTo JF g.ts (i+1)≠[]:=by rw[hsn];simp
   have hlen:(numsTo JF g.ts i).length+1=(numsTo JF g.ts (i+1)).length:=by rw[hsn];simp
   rw[← hsn,hlen]
   simp[h12,hw]
   exact⟨hlt,.inr ⟨hne,_,rfl,by simp[jv],Nat.zero_le _,zO⟩⟩
 ·have:i=g.ts.length:=by omega
  subst this
  obtain⟨t,ht⟩:=hG.form
  simp[h12,f11]
  exact slE (t:=t) (nl:=(numsTo JF g.ts g.ts.length).isEmpty) (k:=(numsTo JF g.ts g.ts.length).length) (cs:=(numsTo JF g.ts g.ts.length).flatMap intC) (fun r h=>h) (by simp[fd]) (by simp[ht])
theorem ev84n (t:Txn') (ht:t.ops.length≤1000000) (k:Int) {n:Nat}(hn:n≤t.ops.length):Ev E 84 [.agg (jl t),.int .i64 n,.int .i64 k] (.tup [.agg (JH (J4 k t.ops n).1),.bool (J4 k t.ops n).2]):=by
 refine jU (af:=F84) rfl ?_
 simp[F84,jl,j1,j6]
 refine jE [(9,10),(12,45)] n (fun i s=>s.tm 10=.int .i64 i∧s.ob 6=some ⟨0,.cells (jl t)⟩∧s.ob 12=some ⟨64,.cells [.int .i64 0,.int .i64 0]⟩∧s.ob 16=some ⟨256,.cells (JH (J4 k t.ops i).1)⟩∧s.tm 9=.bool (J4 k t.ops i).2) rfl rfl
  ⟨zS,by simp[jl],zS,by simp[J4,JH],by simp[J4]⟩ ?_
 rintro i s hi ⟨h10,o6,o12,o16,h9⟩ f
 have f1:s.tm 1=.int .i64 n:=by rw[f.t 1 zS];simp
 have f2:s.tm 2=.int .i64 k:=by rw[f.t 2 zS];simp
 have f3:s.tm 3=.ptr 6 0 0:=by rw[f.t 3 zS];simp
 have f6:s.tm 6=.ptr 12 64 0:=by rw[f.t 6 zS];simp
 have f8:s.tm 8=.ptr 16 256 0:=by rw[f.t 8 zS];simp
 have fd:s.df=[]:=by rw[f.d];simp
 have fr:s.ro=0:=by rw[f.r];simp
 clear f
 by_cases hin:i<n
 ·have hlt:i<t.ops.length:=by omega
  have hw:=J0 hlt zO
  have hs:=QP (k:=k) hlt
  obtain⟨o,ho⟩:∃o,t.ops[i]=o:=⟨_,rfl⟩
  rw[ho]at hs
  have a0:(t.ops.flatMap opC)[i*4]? = some (.bool o.w):=by
   have:=jh jK t.ops hlt (by decide:0<4)
   rw[Nat.add_zero,ho]at this
   rw[this];rfl
  have a1:(t.ops.flatMap opC)[i*4+1]? = some (.int .i64 o.key):=by
   rw[jh jK t.ops hlt (by decide:1<4),ho];rfl
  have a2:∀ob,Qh ob (some 2) (.eptr (t.ops.flatMap opC) (i*4+2))=some (.agg (JH o.v)):=fun ob=>by
   have hle:i*4+4≤t.ops.length*4:=by omega
   rw[jb4,W5,if_pos (by rw[j9 jK];omega)]
   have:=Xk jK t.ops i hlt
   rw[ho]at this
   have e:((t.ops.flatMap opC).drop (i*4+2)).take 2=((((t.ops.flatMap opC).drop (i*4)).take 4).drop 2):=by
    rw[List.drop_take,List.drop_drop]
   rw[e,this]
   rfl
  cases hwk:o.w
  ·have hk:wkB k o=false:=by unfold wkB;rw[hwk];rfl
   rw[hk]at hs
   simp only[Bool.false_eq_true,if_false]at hs
   simp[h10,f1,f3,o6,j1,jl,hin,hlt,j7 jK,a0,hwk,hw,o12,o16,h9]
   exact⟨by rw[hs],by rw[hs]⟩
  ·cases hke:(o.key == k)
   ·have hk:wkB k o=false:=by unfold wkB;rw[hwk,hke];rfl
    rw[hk]at hs
    simp only[Bool.false_eq_true,if_false]at hs
    simp[h10,f1,f2,f3,o6,j1,jl,hin,hlt,j7 jK,a0,a1,hwk,hke,hw,o12,o16,h9]
    exact⟨by rw[hs],by rw[hs]⟩
   ·have hk:wkB k o=true:=by unfold wkB;rw[hwk,hke];rfl
    rw[hk]at hs
    simp only[if_true]at hs
    simp[h10,f1,f2,f3,f8,o6,j1,jl,hin,hlt,j7 jK,a0,a1,a2,hwk,hke,hw,o12,o16,JH,fr,j6]
    rw[hs]
    simp
 ·have:i=n:=by omega
  subst this
  simp[h10,f1,f8,o16,j1,h9,f6,o12,JH,fr,j6]
  exact JP (by simp[fd]) (l:=[.agg (JH (J4 k t.ops i).1),.bool (J4 k t.ops i).2]) (by simp[jw,j1,f6,JH]) rfl rfl
theorem ev120 {g:Hist'}(hs:Small g) (a b:Int):Ev E 120 [.agg (j2 g),.agg (jH (a,b))] (.bool (opAt g a b).isSome):=by
 have e32:=ev58 hs
 have hts:=hs.ts
 refine jU (af:=F120) rfl ?_
 obtain⟨R,hR⟩:∃R,opAt g a b=R:=⟨_,rfl⟩
 rw[hR]
 unfold opAt at hR
 simp[F120,j2,j1,jH]
 refine Xy e32 (by simp[j2]) rfl (by simp[j2]) ?_
 cases hm:XC g
 ·rw[jby hm]
  rw[hm]at hR
  subst hR
  simp
  exact j4 zS zS rfl
 rw[hm]at hR
 rw[Wd hm]
 by_cases k1n:a<0
 ·have k1:¬ 0≤a:=by omega
  rw[if_neg (by simp;omega)]at hR
  subst hR
  simp[k1,j1]
  exact j4 zS zS rfl
 have k1:0≤a:=by omega
 by_cases k2n:(g.ts.length:Int)≤a
 ·have k2:¬ (a<(g.ts.length:Int)):=by omega
  rw[if_neg (by simp;omega)]at hR
  subst hR
  simp[k1,k2,j1]
  exact j4 zS zS rfl
 have k2:a<(g.ts.length:Int):=by omega
 by_cases k3n:b<0
 ·have k3:¬ 0≤b:=by omega
  rw[if_neg (by simp;omega)]at hR
  subst hR
  simp[k1,k2,k3,j1]
  exact j4 zS zS rfl
 have k3:0≤b:=by omega
 obtain⟨i,rfl⟩:∃i:Nat,a=i:=⟨a.toNat,zO⟩
 have hi:i<g.ts.length:=by omega
 rw[Int.toNat_natCast,JQ hi]at hR
 obtain⟨t,ht⟩:∃t,g.ts[i]=t:=⟨_,rfl⟩
 rw[ht]at hR
 have hl3:(g.ts.flatMap jl)[i*3+2]? = some (jN t.nl opC t.ops):=by
  rw[jh jA g.ts hi (by decide:2<3),ht];rfl
 by_cases k4n:(t.ops.length:Int)≤b
 ·have k4:¬ (b<(t.ops.length:Int)):=by omega
  rw[if_neg (by simp;omega)]at hR
  subst hR
  simp[k1,k2,k3,k4,j1,hi,j7 jA,hl3]
  exact j4 zS zS rfl
 have k4:b<(t.ops.length:Int):=by omega
 obtain⟨j,rfl⟩:∃j:Nat,b=j:=⟨b.toNat,zO⟩
 have hj:j<t.ops.length:=by omega
 rw[if_pos (by simp;omega),Int.toNat_natCast,List.getElem?_eq_getElem hj]at hR
 subst hR
 simp[k1,k2,k3,k4,j1,hi,j7 jA,hl3]
 exact j4 zS zS rfl
def jk8 (g:Hist') (a b:Int):Val' × Bool:=match opAt g a b with
 | some o=>J4 o.key (g.ts.getD a.toNat ⟨0,0,true,[]⟩).ops b.toNat
 | none=>(⟨0,0⟩,false)
def XL (g:Hist') (a b:Int):Bool:=match opAt g a b with
 | some o=>!o.w && !(jk8 g a b).2
 | none=>false
theorem ev121 {g:Hist'}(hs:Small g) (a b:Int):Ev E 121 [.agg (j2 g),.agg (jH (a,b))] (.tup [.agg (JH (jk8 g a b).1),.bool (jk8 g a b).2]):=by
 have e131:=ev120 hs a b
 refine jU (af:=F121) rfl ?_
 unfold jk8
 cases hop:opAt g a b with
 | none=>
  rw[hop]at e131
  simp[F121,j2,jH,j1]
  refine jV e131 (by simp[j2,jH]) rfl (by simp[j2,jH]) ?_
  simp[j1,j6]
  exact JP zS (l:=[.agg (JH ⟨0,0⟩),.bool false]) (by simp[jw,j1,JH]) rfl rfl
 | some o=>
  rw[hop]at e131
  obtain⟨i,j,rfl,rfl,hi,hj,ho⟩:=jaz hop
  have hos:=hs.os _ (List.getElem_mem hi)
  have e78:=ev84n g.ts[i] zO o.key (n:=j) zO
  simp only[Int.toNat_natCast]
  rw[JQ hi]
  have hl3:(g.ts.flatMap jl)[i*3+2]? = some (jN (g.ts[i]).nl opC (g.ts[i]).ops):=by
   rw[jh jA g.ts hi (by decide:2<3)];rfl
  have hlk:((g.ts[i]).ops.flatMap opC)[j*4+1]? = some (.int .i64 o.key):=by
   rw[jh jK (g.ts[i]).ops hj (by decide:1<4),ho];rfl
  simp[F121,j2,jH,j1]
  refine jV e131 (by simp[j2,jH]) rfl (by simp[j2,jH]) ?_
  simp[j1,hi,hj,j7 jA,j7 jK,jk jA,hl3,hlk]
  refine Xy e78 (by simp[jl]) rfl (by simp[jl]) ?_
  rw[XB (by simp[V.plain,JH])]
  generalize (J4 o.key g.ts[i].ops j).1=rv at *
  generalize (J4 o.key g.ts[i].ops j).2=rb at *
  simp[JH,j1,j6]
  exact JP zS (l:=[.agg [.int .i64 rv.kind,.int .i64 rv.n],.bool rb]) (by simp[jw,j1]) rfl rfl
theorem ev74 {g:Hist'}(hs:Small g) (a b:Int):Ev E 74 [.agg (j2 g),.agg (jH (a,b))] (.bool (XL g a b)):=by
 have e131:=ev120 hs a b
 have e132:=ev121 hs a b
 refine jU (af:=F74) rfl ?_
 unfold XL
 cases hop:opAt g a b with
 | none=>
  rw[hop]at e131
  simp[F74,j2,jH,j1]
  refine Xy e131 (by simp[j2,jH]) rfl (by simp[j2,jH]) ?_
  simp
  exact j4 zS zS rfl
 | some o=>
  rw[hop]at e131
  obtain⟨i,j,rfl,rfl,hi,hj,ho⟩:=jaz hop
  have hl3:(g.ts.flatMap jl)[i*3+2]? = some (jN (g.ts[i]).nl opC (g.ts[i]).ops):=by
   rw[jh jA g.ts hi (by decide:2<3)];rfl
  have hlw:((g.ts[i]).ops.flatMap opC)[j*4]? = some (.bool o.w):=by
   have:=jh jK (g.ts[i]).ops hj (by decide:0<4)
   rw[Nat.add_zero,ho]at this
   rw[this];rfl
  simp[F74,j2,jH,j1]
  refine Xy e131 (by simp[j2,jH]) rfl (by simp[j2,jH]) ?_
  generalize jk8 g (i:Int) (j:Int)=ow at *
  cases hw:o.w
  ·simp[j1,hi,hj,j7 jA,j7 jK,hl3,hlw,hw]
   refine jV e132 (by simp[j2,jH]) rfl (by simp[j2,jH]) ?_
   rw[XB (by simp[V.plain,JH])]
   simp[JH,j1,j6]
   exact j4 zS zS rfl
  ·simp[j1,hi,hj,j7 jA,j7 jK,hl3,hlw,hw]
   exact j4 zS zS rfl
theorem ev136 {g:Hist'}(hs:Small g) (a b:Int):Ev E 136 [.agg (j2 g),.agg (jH (a,b))] (.bool (XL g a b)):=by
 have e129:=ev176 hs a
 refine jU (af:=F136) rfl ?_
 unfold XL
 cases hop:opAt g a b with
 | none=>
  simp[F136,j2,jH,j1]
  refine jV e129 (by simp[j2]) rfl (by simp[j2]) ?_
  rw[Jk rfl,jM]
  have hout:b<0∨((Xw g a).2.length:Int)≤b:=by
   unfold opAt at hop
   unfold Xw
   by_cases h1:(XC g && (decide (0≤a) && decide (a<g.ts.length)))=true
   ·rw[if_pos h1]
    simp only[Bool.and_eq_true,decide_eq_true_eq]at h1
    by_cases h2:b<0
    ·exact .inl h2
    ·by_cases h3:b<((g.ts.getD a.toNat ⟨0,0,true,[]⟩).ops.length:Int)
     ·rw[if_pos (by simp only[Bool.and_eq_true,decide_eq_true_eq];exact⟨h1.1,h1.2.1,h1.2.2,zO,h3⟩)]at hop
      rw[List.getElem?_eq_none_iff]at hop
      exact absurd hop zO
     ·exact .inr (Int.not_lt.1 h3)
   ·rw[if_neg h1]
    by_cases h2:b<0
    ·exact .inl h2
    ·exact .inr (by simp;omega)
  generalize Xw g a=oo at *
  by_cases h1:b<0
  ·simp[j1,h1]
   exact j4 zS zS rfl
  ·have h2:(oo.2.length:Int)≤b:=by rcases hout with h|h;exact absurd h h1;exact h
   simp[j1,h1,h2]
   exact j4 zS zS rfl
 | some o=>
  have hmay:XC g=true:=by
   unfold opAt at hop
   cases hm:XC g
   ·rw[hm]at hop;cases hop
   ·rfl
  unfold jk8
  rw[hop]
  obtain⟨i,j,rfl,rfl,hi,hj,ho⟩:=jaz hop
  simp only[Int.toNat_natCast]
  rw[JQ hi]
  have hoo:Xw g (i:Int)=((g.ts[i]).nl,(g.ts[i]).ops):=by
   unfold Xw
   rw[hmay,if_pos (by simp;omega)]
   simp only[Int.toNat_natCast]
   rw[JQ hi]
  rw[hoo]at e129
  have hos:=hs.os _ (List.getElem_mem hi)
  have hlw:((g.ts[i]).ops.flatMap opC)[j*4]? = some (.bool o.w):=by
   have:=jh jK (g.ts[i]).ops hj (by decide:0<4)
   rw[Nat.add_zero,ho]at this
   rw[this];rfl
  have hlk:((g.ts[i]).ops.flatMap opC)[j*4+1]? = some (.int .i64 o.key):=by
   rw[jh jK (g.ts[i]).ops hj (by decide:1<4),ho];rfl
  have n1:decide ((j:Int)<0)=false:=by simp
  have n2:decide (((g.ts[i]).ops.length:Int)≤j)=false:=by simp;omega
  have n3:((g.ts[i]).ops.length≤j)=False:=by simp;omega
  have n4:(((g.ts[i]).ops.length:Int)≤j)=False:=by simp;omega
  have hle:j≤(g.ts[i]).ops.length:=by omega
  have hsl:jaq 4 none (some (.int .i64 (j:Int))) (jN (g.ts[i]).nl opC (g.ts[i]).ops)=some (jN (g.ts[i]).nl opC ((g.ts[i]).ops.take j)):=by
   have h1:=jrp (kk:=.i64) (t:=none) (nl:=(g.ts[i]).nl) (sz:=4) (cs:=(g.ts[i]).ops.flatMap opC) (n:=(g.ts[i]).ops.length) (k:=j) hle (j9 jK _)
   refine Eq.trans h1 ?_
   have h2:((g.ts[i]).ops.flatMap opC).take (j*4)=((g.ts[i]).ops.take j).flatMap opC:=by
    conv=>lhs;rw[← List.take_append_drop j (g.ts[i]).ops,List.flatMap_append]
    rw[List.take_left']
    rw[j9 jK,List.length_take,Nat.min_eq_left hle]
   rw[h2,jN,List.length_take,Nat.min_eq_left hle]
  have e130:=ev177 (g.ts[i]).nl ((g.ts[i]).ops.take j) (by rw[List.length_take];omega) o.key
  have hlast:(jaf ((g.ts[i]).ops.take j) o.key).2=(J4 o.key (g.ts[i]).ops j).2:=by
   unfold jaf
   rw[Q1 _ _ _ (Nat.le_refl _),Q1 _ _ _ hle,List.take_length]
  simp[F136,j2,jH,j1]
  refine jV e129 (by simp[j2]) rfl (by simp[j2]) ?_
  rw[Jk rfl,jM]
  cases hw:o.w
  ·simp[j1,n1,n4,hj,j7 jK,hlw,hw]
   simp[hsl,hlk,hj,j7 jK,j1]
   refine Xy e130 zS rfl zS ?_
   rw[XB (by simp[V.plain,JH])]
   rw[← hlast]
   generalize jaf ((g.ts[i]).ops.take j) o.key=lw at *
   simp[JH,j1,j6]
   refine⟨by simp[Jo,QC,jc5,jbe,rdOb,rdTk,lOf,Delta.wo,Delta.wt];try decide,?_⟩
   exact j4 zS zS rfl
  ·simp[j1,n1,n4,hj,j7 jK,hlw,hw]
   exact j4 zS zS rfl
def jo (g:Hist') (i:Nat):Nat→List (Int × Int)
 | 0=>[]
 | k+1=>jo g i k++(if XL g i k then [((i:Int),(k:Int))] else [])
def Jp (g:Hist'):Nat→List (Int × Int)
 | 0=>[]
 | i+1=>Jp g i++(match g.ts[i]? with|some t=>if JF t then jo g i t.ops.length else []|none=>[])
def readH (g:Hist'):List (Int × Int):=Jp g g.ts.length
theorem W3 (g:Hist') (i:Nat):∀k,(jo g i k).length≤k
 | 0=>Nat.le_refl _
 | k+1=>by
  have:=W3 g i k
  simp only[jo,List.length_append]
  split <;> simp <;> omega
theorem QO {g:Hist'}(hs:Small g):∀i,(Jp g i).length≤i*1000
 | 0=>Nat.zero_le _
 | i+1=>by
  have:=QO hs i
  simp only[Jp,List.length_append]
  rw[show(i+1)*1000=i*1000+1000 by omega]
  split
  ·rename_i t ht
   have h1:=W3 g i t.ops.length
   have h2:=hs.os t (List.mem_of_getElem? ht)
   split
   ·omega
   ·simp only[List.length_nil];omega
  ·simp only[List.length_nil];omega
theorem jd6 {g:Hist'}{i:Nat}(h:i<g.ts.length):Jp g (i+1)=Jp g i++(if JF g.ts[i] then jo g i (g.ts[i]).ops.length else []):=by
 simp only[Jp,List.getElem?_eq_getElem h]
theorem ev31 {g:Hist'}(hs:Small g):∃v,Ev E 31 [.agg (j2 g)] v∧SlR v false (readH g).length ((readH g).flatMap jH):=by
 have hts:=hs.ts
 refine YE (af:=F31) rfl (by decide) ?_
 simp[F31,j2]
 refine jS (cs:=[]) rfl rfl rfl ?_
 simp
 refine jE [(3,6),(8,44)] g.ts.length (fun i s=>s.tm 4=.int .i64 i∧s.ob 2=some ⟨0,.cells (j2 g)⟩∧GrowT s.tk s.nx jH 2 (Jp g i) (s.tm 3)) rfl rfl ⟨zS,by simp[j2],by rw[Jp];exact⟨128,zS,by simp[jv],zS⟩⟩ ?_
 rintro i s hi ⟨h4,o2,hG⟩ f
 have f1:s.tm 1=.ptr 2 0 0:=by rw[f.t 1 zS];simp
 have fd:s.df=[]:=by rw[f.d];simp
 have fb:s.fb=0:=by rw[f.b];simp
 have fr:s.ro=0:=by rw[f.r];simp
 clear f
 by_cases hlt:i<g.ts.length
 ·have hw:=J0 hlt zO
  simp[h4,f1,o2,j1,j2,hlt]
  refine jE [(3,3),(5,6),(15,44)] (g.ts[i]).ops.length (fun k s'=>s'.tm 5=.int .i64 k∧s'.ob 2=some ⟨0,.cells (j2 g)⟩∧GrowT s'.tk s'.nx jH 2 (Jp g i++(if JF g.ts[i] then jo g i k else [])) (s'.tm 3)) rfl rfl ⟨zS,by simp[o2],by simp[jo];exact hG.mono (fun _ _ h=>h) zO⟩ ?_
  rintro k s' hk ⟨h5,o2',hG'⟩ f
  have e1:s'.tm 1=.ptr 2 0 0:=by rw[f.t 1 zS];simp[f1]
  have e4:s'.tm 4=.int .i64 i:=by rw[f.t 4 zS];simp[h4]
  have ed:s'.df=[]:=by rw[f.d];simp[fd]
  have eb:s'.fb=0:=by rw[f.b];simp[fb]
  have er:s'.ro=0:=by rw[f.r];simp[fr]
  clear f
  have e90:=ev74 hs (i:Int) (k:Int)
  have hos:=hs.os _ (List.getElem_mem hlt)
  have hff:(g.ts.flatMap jl)[i*3+1]? = some (.int .i64 (g.ts[i]).f):=by
   rw[jh jA g.ts hlt (by decide:1<3)];rfl
  have hfo:(g.ts.flatMap jl)[i*3+2]? = some (jN (g.ts[i]).nl opC (g.ts[i]).ops):=by
   rw[jh jA g.ts hlt (by decide:2<3)];rfl
  by_cases hkt:k<(g.ts[i]).ops.length
  ·have hw':=J0 hkt zO
   have hll:(Jp g i++(if JF g.ts[i] then jo g i k else [])).length≤1001000:=by
    have h1:=QO hs i
    have h2:=W3 g i k
    have:i*1000≤1000*1000:=Nat.mul_le_mul_right _ zO
    rw[List.length_append]
    split
    ·omega
    ·simp only[List.length_nil];omega
   cases hc:JF g.ts[i]
   ·have hc':((g.ts[i]).f == 1)=false:=hc
    rw[hc]at hG'
    simp[h5,e1,e4,o2',j1,j2,hlt,j7 jA,hfo,hff,hkt,j6,eb,er,hc',hw']
    simpa using hG'.mono (fun u _ h=>by simpa[JG] using h) zO
   ·have hc':((g.ts[i]).f == 1)=true:=hc
    rw[hc]at hG' hll
    simp only[if_true]at hG' hll
    simp[h5,e1,e4,o2',j1,j2,hlt,j7 jA,hfo,hff,hkt,j6,eb,er,hc']
    refine jV e90 (by simp[j2,jH]) rfl (by simp[j2,jH]) ?_
    cases ho:XL g i k
    ·simp[h5,hw',o2',j2]
     have hstep:jo g i (k+1)=jo g i k:=by rw[jo,ho];simp
     rw[hstep]
     exact⟨hkt,hG'.mono (fun u _ h=>by simpa[JG] using h) zO⟩
    ·simp[j1]
     have hstep:Jp g i++jo g i (k+1)=(Jp g i++jo g i k)++[((i:Int),(k:Int))]:=by rw[jo,ho,List.append_assoc];simp
     refine jS (cs:=jH (i,k)) (by simp[j6,jH]) rfl rfl ?_
     simp
     refine WA (f:=jH) (hi:=s'.nx) (l:=Jp g i++jo g i k) (a:=((i:Int),(k:Int))) (v:=s'.tm 3) (hG'.mono (fun u _ h=>by simp[jv,h]) (Nat.le_refl _)) zS (by simp[jI,jH]) X0 (by decide) rfl zO zO (fun del hdel=>?_)
     have hlen:(Jp g i++jo g i k).length+1=(Jp g i++jo g i (k+1)).length:=by rw[hstep,List.length_append (bs:=[_])];rfl
     rw[← hstep,hlen]
     obtain⟨L,hL⟩:∃L,Jp g i++jo g i (k+1)=L:=⟨_,rfl⟩
     rw[hL]
     simp[h5,hw',o2',j2,hL]
     exact⟨hkt,_,rfl,by simp[jv],zO⟩
  ·have:k=(g.ts[i]).ops.length:=by omega
   subst this
   simp[h5,e1,e4,o2',j1,j2,hlt,j7 jA,hfo,hw]
   rw[jd6 hlt]
   exact hG'.mono (fun _ _ h=>h) zO
 ·have:i=g.ts.length:=by omega
  subst this
  obtain⟨u,hv,_,_⟩:=hG
  simp[h4,f1,o2,j1,j2]
  exact slE (t:=some (u,2)) (nl:=false) (k:=(readH g).length) (cs:=(readH g).flatMap jH) (fun r h=>h) (by simp[fd]) (by simp[hv,readH])
def rdOf (g:Hist') (x:Int):List (Int × Int):=jo g x.toNat (g.ts.getD x.toNat ⟨0,0,true,[]⟩).ops.length
theorem jk1 {g:Hist'}{i:Nat}(h:i<g.ts.length):rdOf g i=jo g i (g.ts[i]).ops.length:=by
 unfold rdOf
 rw[Int.toNat_natCast,JQ h]
theorem jd8 {g:Hist'}:∀n,n≤g.ts.length→(numsTo JF g.ts n).flatMap (rdOf g)=Jp g n
 | 0,_=>rfl
 | n+1,h=>by
  rw[JM zO,jd6 zO,List.flatMap_append,jd8 n zO]
  cases JF g.ts[n]
  ·rfl
  ·simp[jk1 (show n<g.ts.length by omega)]
def jbu (g:Hist'):List (Int × Int):=if JC g then readH g else []
theorem jo8 (g:Hist'):(comH g).flatMap (rdOf g)=jbu g:=by
 unfold comH jbu
 split
 ·exact jd8 _ (Nat.le_refl _)
 ·rfl
theorem j30 {g:Hist'}:∀x∈comH g,0≤x∧x<g.ts.length:=by
 unfold comH
 split
 ·exact(W8 (p:=JF) (ts:=g.ts) _ (Nat.le_refl _)).1
 ·simp
theorem jy2 (g:Hist'):(comH g).length≤g.ts.length:=by
 unfold comH
 split
 ·exact JJ _ _ _
 ·simp
theorem jdr {g:Hist'}(hs:Small g):∀ (l:List Int),(∀x∈l,0≤x∧x<g.ts.length)→(l.flatMap (rdOf g)).length≤l.length*1000
 | [],_=>Nat.zero_le _
 | x::l,h=>by
  obtain⟨h1,h2⟩:=h x (List.mem_cons_self ..)
  obtain⟨i,rfl⟩:∃i:Nat,x=i:=⟨x.toNat,zO⟩
  have hi:i<g.ts.length:=by omega
  have:=jdr hs l fun y hy=>h y (List.mem_cons_of_mem _ hy)
  have h3:=W3 g i (g.ts[i]).ops.length
  have h4:=hs.os _ (List.getElem_mem hi)
  rw[List.flatMap_cons,List.length_append,jk1 hi,List.length_cons,Nat.succ_mul]
  omega
theorem ev86 {g:Hist'}(hs:Small g):∃v,Ev E 86 [.agg (j2 g)] v∧SlR v (jbu g).isEmpty (jbu g).length ((jbu g).flatMap jH):=by
 have hts:=hs.ts
 obtain⟨vc,evc,hvc⟩:=ev71 hs
 have hCl:=jy2 g
 have hClt:=j30 (g:=g)
 rw[← jo8]
 generalize comH g=C at *
 obtain⟨L,hL⟩:∃L,C.flatMap (rdOf g)=L:=⟨_,rfl⟩
 rw[hL]
 refine YE (af:=F86) rfl (by decide) ?_
 simp[F86,j2,j1]
 refine jV evc (by simp[j2]) rfl (by simp[j2]) ?_
 refine Qg hvc fun tc addc=>?_
 simp
 refine jE [(3,7),(11,36)] C.length (fun i s=>s.tm 11=.int .i64 i∧s.ob 2=some ⟨0,.cells (j2 g)⟩∧Grow s.tk 0 s.nx jH 2 ((C.take i).flatMap (rdOf g)) (s.tm 3)) rfl rfl ⟨zS,by simp[j2],by simp;exact Grow.nil _ _ _ _ _⟩ ?_
 rintro i s hi ⟨h11,o2,hG⟩ f
 have f1:s.tm 1=.ptr 2 0 0:=by rw[f.t 1 zS];simp
 have f9:s.tm 9=.sl tc C.isEmpty C.length (C.flatMap intC):=by rw[f.t 9 zS];simp
 have f10:s.tm 10=.int .i64 C.length:=by rw[f.t 10 zS];simp
 have fd:s.df=[]:=by rw[f.d];simp
 have fb:s.fb=0:=by rw[f.b];simp
 have fr:s.ro=0:=by rw[f.r];simp
 clear f
 by_cases hlt:i<C.length
 ·have hw:=J0 hlt zO
  obtain⟨x,hx⟩:∃x,C[i]=x:=⟨_,rfl⟩
  obtain⟨x1,x2⟩:=hClt x (hx▸List.getElem_mem hlt)
  obtain⟨j,rfl⟩:∃j:Nat,x=j:=⟨x.toNat,zO⟩
  have hj:j<g.ts.length:=by omega
  have hci:=XP C hlt
  rw[hx]at hci
  have hfo:(g.ts.flatMap jl)[j*3+2]? = some (jN (g.ts[j]).nl opC (g.ts[j]).ops):=by
   rw[jh jA g.ts hj (by decide:2<3)];rfl
  have hix:Jn 1 (.sl tc C.isEmpty C.length (C.flatMap intC)) (.int .i64 (i:Int))=some (.eptr (C.flatMap intC) (i*1)):=by
   simp only[YU,j9 jG]
   rw[if_pos (by simp;omega)]
   rfl
  rw[Nat.mul_one]at hix
  simp[h11,f1,f9,f10,o2,j1,j2,hlt,hix,hci,hj,j7 jA,hfo]
  obtain⟨P,hP⟩:∃P,(C.take i).flatMap (rdOf g)=P:=⟨_,rfl⟩
  have hPl:P.length≤1000000:=by
   have h1:=jdr hs (C.take i) (fun x hx=>hClt x (List.mem_of_mem_take hx))
   rw[hP,List.length_take]at h1
   have:min i C.length*1000≤1000*1000:=Nat.mul_le_mul_right _ zO
   omega
  have hnext:(C.take (i+1)).flatMap (rdOf g)=P++jo g j (g.ts[j]).ops.length:=by
   rw[List.take_succ_eq_append_getElem hlt,List.flatMap_append,hP,hx]
   simp[jk1 hj]
  rw[hP]at hG
  refine jE [(3,3),(6,7),(22,35)] (g.ts[j]).ops.length (fun k s'=>s'.tm 22=.int .i64 k∧s'.ob 2=some ⟨0,.cells (j2 g)⟩∧Grow s'.tk 0 s'.nx jH 2 (P++jo g j k) (s'.tm 3)) rfl rfl ⟨zS,by simp[o2],by simp[jo];exact hG.mono (fun _ _ _ h=>h) zO⟩ ?_
  rintro k s' hk ⟨h22,o2',hG'⟩ f
  have e1:s'.tm 1=.ptr 2 0 0:=by rw[f.t 1 zS];simp[f1]
  have e5:s'.tm 5=.int .i64 j:=by rw[f.t 5 zS];simp
  have e11:s'.tm 11=.int .i64 i:=by rw[f.t 11 zS];simp[h11]
  have e21:s'.tm 21=.int .i64 (g.ts[j]).ops.length:=by rw[f.t 21 zS];simp
  have ed:s'.df=[]:=by rw[f.d];simp[fd]
  have eb:s'.fb=0:=by rw[f.b];simp[fb]
  have er:s'.ro=0:=by rw[f.r];simp[fr]
  clear f
  have e89:=ev136 hs (j:Int) (k:Int)
  have hos:=hs.os _ (List.getElem_mem hj)
  have hrl:=W3 g j k
  by_cases hkt:k<(g.ts[j]).ops.length
  ·have hw':=J0 hkt zO
   simp[h22,e1,e5,e21,o2',j1,j2,hkt,j6,eb,er]
   refine jV e89 (by simp[j2,jH]) rfl (by simp[j2,jH]) ?_
   cases ho:XL g j k
   ·have hstep:jo g j (k+1)=jo g j k:=by rw[jo,ho];simp
    simp[h22,hw',o2',j2]
    rw[hstep]
    exact⟨hkt,hG'.mono (fun u _ _ h=>by simpa[JG] using h) zO⟩
   ·have hstep:P++jo g j (k+1)=(P++jo g j k)++[((j:Int),(k:Int))]:=by rw[jo,ho,List.append_assoc];simp
    simp[j1]
    refine jS (cs:=jH (j,k)) (by simp[j6,jH]) rfl rfl ?_
    simp
    refine YL (f:=jH) (lo:=0) (hi:=s'.nx) (l:=P++jo g j k) (a:=((j:Int),(k:Int))) (v:=s'.tm 3) (hG'.mono (fun u _ _ h=>by simp[jv,h]) (Nat.le_refl _)) zS (by simp[jI,jH]) X0 (by decide) rfl (by rw[List.length_append];omega) (by rw[List.length_append];omega) (fun del hdel=>?_)
    have hlen:(P++jo g j k).length+1=(P++jo g j (k+1)).length:=by rw[hstep,List.length_append (bs:=[_])];rfl
    have hne:P++jo g j (k+1)≠[]:=by rw[hstep];simp
    rw[← hstep,hlen]
    obtain⟨M,hM⟩:∃M,P++jo g j (k+1)=M:=⟨_,rfl⟩
    rw[hM]at hne ⊢
    simp[h22,hw',o2',j2,hM]
    exact⟨hkt,.inr ⟨hne,_,rfl,by simp[jv],Nat.zero_le _,zO⟩⟩
  ·have:k=(g.ts[j]).ops.length:=by omega
   subst this
   simp[h22,e11,e21,o2',j2,hw]
   rw[hnext]
   exact⟨hlt,hG'.mono (fun _ _ _ h=>h) zO⟩
 ·have:i=C.length:=by omega
  subst this
  rw[List.take_length,hL]at hG
  obtain⟨t,ht⟩:=hG.form
  simp[h11,f10]
  exact slE (t:=t) (nl:=L.isEmpty) (k:=L.length) (cs:=L.flatMap jH) (fun r h=>h) (by simp[fd]) (by simp[ht])
section
variable {E:Env}{st:St}{ub:Nat}{K:List FP→St→Prop}{d:Option Nat}{nm:Bool}{r:List AOpr}
theorem jp3 {α:Type}{f:α→List V}{sz bytes hi:Nat}{l:List α}{a:α}{v:V}{s x:A}(hg:GrowT st.tk hi f sz l v) (hs:eval E st.tm s=v) (hx:jI st.ob sz (eval E st.tm x)=some (f a)) (hf:∀a,(f a).length=sz) (h0:0<sz)
 (hp:(f a).all V.pureLeaf=true) (hb:(l.length+1)*bytes≤140737488355328) (hb2:l.length+1≤140737488355328)
 (h:∀del:Option Nat,(∀u,del=some u→u<hi)→YS E r K (eval E st.tm) (.append false sz bytes s x) st d ub { v:=.sl (some (ub,sz)) false (l.length+1) ((l++[a]).flatMap f),del:=del,add:=[ub] }):jF E (⟨d,.append false sz bytes s x,none,nm⟩::r) st ub K:=by
 have hne:f a≠[]:=fun e=>by have:=hf a;rw[e]at this;simp at this;omega
 have h1:(f a).length / sz=1:=by rw[hf];exact Nat.div_self h0
 rw[jt rfl]
 obtain⟨u,rfl,ht,h3⟩:=hg
 simp only[aop,hs,hx,Option.bind_some,if_neg hne,Bool.false_and,Bool.false_eq_true,if_false]
 rw[if_pos ⟨by rw[j9 hf],h0,hp,by rw[h1];exact hb,by rw[h1];exact hb2⟩,if_pos (by simp[ht]),jM,h1]
 have:=h (some u) (fun u' e=>by cases e;exact h3)
 simpa using this
end
def jek (x:Bool × List Int):List V:=[.sl none x.1 x.2.length (x.2.flatMap intC)]
@[simp] theorem ja4 (x:Bool × List Int):(jek x).length=1:=rfl
def badO (ops:List Op') (k:Nat) (o:Op'):Bool:=!o.w && ((o.v.kind != 2) && ((J4 o.key ops k).2 && !(((J4 o.key ops k).1.kind == o.v.kind) && ((J4 o.key ops k).1.n == o.v.n))))
def jmb (ops:List Op'):Nat→List Int
 | 0=>[]
 | k+1=>jmb ops k++(match ops[k]? with|some o=>if badO ops k o then [(k:Int)] else []|none=>[])
def jh7 (g:Hist') (i:Int):List Int:=jmb (Xw g i).2 (Xw g i).2.length
end Go.Pv.T
namespace Go.Pv.T
open Go Go.Pv
end Go.Pv.T
namespace Go.Pv.T
open Go Go.Pv
structure KnS where
 m:List (Int × Int)
 n:List (Int × Int)
 hop:Bool
 more:Bool
structure Kn (g:Hist') (uK um un:Nat) (s:KnS) (ob:ZO) (ub:Nat):Prop where
 lt:um<un∧un<uK∧uK<ub
 k:ob (2*uK+1)=some ⟨uK,.cells [jN g.sn JL g.ss,jN g.kn JL g.ks,jN g.tn jl g.ts,.map (2*um+1) um,.map (2*un+1) un,.bool s.hop,.bool s.more]⟩
 m:∃ver,ob (2*um+1)=some ⟨um,.mp ver (MP jbl s.m)⟩
 n:∃ver,ob (2*un+1)=some ⟨un,.mp ver (MP jbl s.n)⟩
def KnP (g:Hist') (uK um un:Nat) (s':KnS) (ob:ZO) (ub:Nat) (r:V × (ZO) × (Nat→Bool) × Nat):Prop :=
 Kn g uK um un s' r.2.1 r.2.2.2∧(∀key,key≠2*uK+1→key≠2*um+1→key≠2*un+1→(∀m,ub≤m→key≠2*m+1)→r.2.1 key=ob key)∧ub≤r.2.2.2
def KnS.learnM (s:KnS) (t:Int):KnS:=if XE s.m t=0 then { s with m:=YR s.m t 1,more:=true } else s
def KnS.learnN (s:KnS) (t:Int):KnS:=if XE s.n t=0 then { s with n:=YR s.n t 1,more:=true } else s
def KnS.fails (s:KnS) (f:Int) (t:Int):KnS:=if f=1 then { s with hop:=true } else if f=3 then s.learnN t else s
theorem KnP.mono {g:Hist'}{uK um un:Nat}{s':KnS}{ob ob1:ZO}{ub ub1:Nat}{r:V × (ZO) × (Nat→Bool) × Nat}(h:KnP g uK um un s' ob1 ub1 r)
 (ho:∀key,key≠2*uK+1→key≠2*um+1→key≠2*un+1→(∀m,ub≤m→key≠2*m+1)→ob1 key=ob key) (hu:ub≤ub1):KnP g uK um un s' ob ub r :=
 ⟨h.1,fun key h1 h2 h3 h4=>(h.2.1 key h1 h2 h3 (fun m hm=>h4 m zO)).trans (ho key h1 h2 h3 h4),Nat.le_trans hu h.2.2⟩
theorem Kn.up {g:Hist'}{uK um un:Nat}{s:KnS}{ob ob1:ZO}{ub ub1:Nat}(h:Kn g uK um un s ob ub) (ho:ob1=ob) (hu:ub≤ub1):Kn g uK um un s ob1 ub1 :=
 ⟨⟨h.lt.1,h.lt.2.1,Nat.lt_of_lt_of_le h.lt.2.2 hu⟩,by rw[ho];exact h.k,by rw[ho];exact h.m,by rw[ho];exact h.n⟩
def OwnI (ob:ZO) (v:V) (l:List Int):Prop:=(v=.sl none true 0 []∧l=[])∨∃L u cs,v=.osl L u 0 l.length 1∧ob L=some ⟨u,.cells cs⟩∧l.length≤cs.length∧cs.take l.length=l.flatMap intC
theorem OwnI.at {l:List Int}{cs:List V}(ht:cs.take l.length=l.flatMap intC) {i:Nat}(h:i<l.length):cs[i]? = some (.int .i64 l[i]):=by
 have h1:=XP l h
 rw[← ht,List.getElem?_take_of_lt h]at h1
 exact h1
end Go.Pv.T
namespace Go.Pv.T
open Go Go.Pv
end Go.Pv.T
namespace Go.Pv.T
open Go Go.Pv
def KnS.left (s:KnS) (g:Hist') (a b:Int):List Int:=(ofH g a b).filter fun t=>!decide (0<XE s.n t)
def KnS.op (s:KnS) (g:Hist') (f:Int) (t k:Nat) (o:Op'):KnS :=
 if o.v.kind == 2 || !XL g t k then s else
 if (s.left g t k).length=0 then s.fails f t else
 if (s.left g t k).length == 1 && (decide (0≤(s.left g t k).headD 0) && decide (0<XE s.m t)) then s.learnM ((s.left g t k).headD 0) else s
def KnS.ops (s:KnS) (g:Hist') (f:Int) (t:Nat) (l:List Op'):Nat→KnS
 | 0=>s
 | k+1=>match l[k]? with
  | some o=>(s.ops g f t l k).op g f t k o
  | none=>s.ops g f t l k
def KnS.txn (s:KnS) (g:Hist') (t:Nat) (f:Int) (l:List Op'):KnS:=(if (jh7 g t).isEmpty then s else s.fails f t).ops g f t l l.length
theorem Kn.keep {g:Hist'}{uK um un:Nat}{s:KnS}{ob ob1:ZO}{ub ub1:Nat}(h:Kn g uK um un s ob ub) (ho:∀key,(∀m,ub≤m→key≠2*m+1)→ob1 key=ob key) (hu:ub≤ub1):Kn g uK um un s ob1 ub1:=by
 obtain⟨⟨l1,l2,l3⟩,hk,⟨vm,hm⟩,⟨vn,hn⟩⟩:=h
 exact⟨⟨l1,l2,zO⟩,(ho _ fun m h e=>by omega).trans hk,⟨vm,(ho _ fun m h e=>by omega).trans hm⟩,⟨vn,(ho _ fun m h e=>by omega).trans hn⟩⟩
def Aside (uK um un:Nat) (ob:ZO) (ub:Nat) (ob1:ZO):Prop:=∀key,key≠2*uK+1→key≠2*um+1→key≠2*un+1→(∀m,ub≤m→key≠2*m+1)→ob1 key=ob key
theorem Aside.trans {uK um un:Nat}{ob ob1 ob2:ZO}{ub ub1:Nat}(h:Aside uK um un ob ub ob1) (h':Aside uK um un ob1 ub1 ob2) (hu:ub≤ub1):Aside uK um un ob ub ob2 :=
 fun key h1 h2 h3 h4=>(h' key h1 h2 h3 fun m hm=>h4 m zO).trans (h key h1 h2 h3 h4)
theorem Aside.new {uK um un:Nat}{ob ob1:ZO}{ub:Nat}(h:∀key,(∀m,ub≤m→key≠2*m+1)→ob1 key=ob key):Aside uK um un ob ub ob1:=fun key _ _ _ h4=>h key h4
theorem jiy {g:Hist'}(hs:Small g):(jbu g).length≤1000000:=by
 unfold jbu
 have:=QO hs g.ts.length
 have h2:=hs.ts
 have:g.ts.length*1000≤1000*1000:=Nat.mul_le_mul_right _ h2
 split
 ·unfold readH;omega
 ·simp
def choW (g:Hist'):List (Bool × List Int):=(jbu g).map fun p=>((ofH g p.1 p.2).isEmpty,ofH g p.1 p.2)
theorem jrq (T:List Int):SlR (jjy T) T.isEmpty T.length (T.flatMap intC):=by
 unfold jjy
 cases T with
 | nil=>exact⟨none,rfl,zS⟩
 | cons a l=>exact⟨some (0,1),rfl,zS⟩
theorem ev161 {g:Hist'}(hs:Small g):∃v,Ev E 161 [.agg (j2 g)] v∧SlR v (choW g).isEmpty (choW g).length ((choW g).flatMap jek):=by
 obtain⟨vr,evr,hvr⟩:=ev86 hs
 have hll:=jiy hs
 obtain⟨L,hL⟩:∃L,jbu g=L:=⟨_,rfl⟩
 obtain⟨C,hC⟩:∃C,choW g=C:=⟨_,rfl⟩
 have hCL:C=L.map fun p=>((ofH g p.1 p.2).isEmpty,ofH g p.1 p.2):=by rw[← hC,← hL];rfl
 have hCl:C.length=L.length:=by rw[hCL];simp
 rw[hC]
 rw[hL]at hvr hll
 refine YE (af:=F161) rfl (by decide) ?_
 simp[F161,j2,j1]
 refine jV evr (by simp[j2]) rfl (by simp[j2]) ?_
 refine Qg hvr fun tc addc=>?_
 simp
 refine jE [(3,5),(9,20)] L.length (fun i s=>s.tm 9=.int .i64 i∧s.ob 2=some ⟨0,.cells (j2 g)⟩∧Grow s.tk 0 s.nx jek 1 (C.take i) (s.tm 3)) rfl rfl ⟨zS,by simp[j2],by simp;exact Grow.nil _ _ _ _ _⟩ ?_
 rintro i s hi ⟨h9,o2,hG⟩ f
 have f1:s.tm 1=.ptr 2 0 0:=by rw[f.t 1 zS];simp
 have f7:s.tm 7=.sl tc L.isEmpty L.length (L.flatMap jH):=by rw[f.t 7 zS];simp
 have f8:s.tm 8=.int .i64 L.length:=by rw[f.t 8 zS];simp
 have fd:s.df=[]:=by rw[f.d];simp
 have fb:s.fb=0:=by rw[f.b];simp
 have fr:s.ro=0:=by rw[f.r];simp
 clear f
 by_cases hlt:i<L.length
 ·have hw:=J0 hlt zO
  have hix:Jn 2 (.sl tc L.isEmpty L.length (L.flatMap jH)) (.int .i64 (i:Int))=some (.eptr (L.flatMap jH) (i*2)):=by
   simp only[YU,j9 X0]
   rw[if_pos (by simp;omega)]
   rfl
  have hp:=fun ob=>jdb L ob hlt
  have hCi:C[i]? = some ((ofH g (L[i]).1 (L[i]).2).isEmpty,ofH g (L[i]).1 (L[i]).2):=by
   rw[hCL,List.getElem?_map,List.getElem?_eq_getElem hlt];rfl
  have e27:=ev217 hs (L[i]).1 (L[i]).2
  generalize (L[i]).1=a at *
  generalize (L[i]).2=b at *
  obtain⟨T,hT⟩:∃T,ofH g a b=T:=⟨_,rfl⟩
  rw[hT]at e27 hCi
  simp[h9,f1,f7,f8,o2,j1,j2,hlt,hix,hp,j6,fb,fr]
  refine jV e27 (by simp[j2,jH]) rfl (by simp[j2,jH]) ?_
  refine Qg (jrq T) fun t add=>?_
  simp
  have hstep:C.take (i+1)=C.take i++[(T.isEmpty,T)]:=by
   rw[List.take_add_one,hCi];rfl
  have hil:i<C.length:=by omega
  have htl:(C.take i).length=i:=by rw[List.length_take];omega
  refine jS (cs:=[.sl t T.isEmpty T.length (T.flatMap intC)]) (by simp[j6]) rfl (by simp[V.strip1,V.pureLeaf]) ?_
  simp[V.strip1]
  refine YL (f:=jek) (lo:=0) (hi:=s.nx) (l:=C.take i) (a:=(T.isEmpty,T)) (v:=s.tm 3) (hG.mono (fun u _ _ h=>by simp[jv,h]) (Nat.le_refl _)) zS (by simp[jI,jek]) ja4 (by decide) (by simp[jek,V.pureLeaf]) zO zO (fun del hdel=>?_)
  have hne:C.take (i+1)≠[]:=by rw[hstep];simp
  have hlen:(C.take i).length+1=(C.take (i+1)).length:=by rw[hstep,List.length_append];rfl
  rw[← hstep,hlen]
  obtain⟨M,hM⟩:∃M,C.take (i+1)=M:=⟨_,rfl⟩
  rw[hM]at hne ⊢
  simp[h9,hw,o2,j2,hM]
  exact⟨hlt,.inr ⟨hne,_,rfl,by simp[jv],Nat.zero_le _,zO⟩⟩
 ·have:i=L.length:=by omega
  subst this
  rw[← hCl,List.take_length]at hG
  obtain⟨t,ht⟩:=hG.form
  simp[h9,f8]
  exact slE (t:=t) (nl:=C.isEmpty) (k:=C.length) (cs:=C.flatMap jek) (fun r h=>h) (by simp[fd]) (by simp[ht])
def choR (g:Hist'):List (Bool × List Int):=(readH g).map fun p=>(false,ofH g p.1 p.2)
theorem W4 {g:Hist'}(hs:Small g):(readH g).length≤1000000:=by
 have:=QO hs g.ts.length
 have h2:=hs.ts
 have:g.ts.length*1000≤1000*1000:=Nat.mul_le_mul_right _ h2
 unfold readH;omega
theorem ev61 {g:Hist'}(hs:Small g):∃v,Ev E 61 [.agg (j2 g)] v∧SlR v false (choR g).length ((choR g).flatMap jek):=by
 obtain⟨vr,evr,hvr⟩:=ev31 hs
 have hll:=W4 hs
 obtain⟨L,hL⟩:∃L,readH g=L:=⟨_,rfl⟩
 obtain⟨C,hC⟩:∃C,choR g=C:=⟨_,rfl⟩
 have hCL:C=L.map fun p=>(false,ofH g p.1 p.2):=by rw[← hC,← hL];rfl
 have hCl:C.length=L.length:=by rw[hCL];simp
 rw[hC]
 rw[hL]at hvr hll
 refine YE (af:=F61) rfl (by decide) ?_
 simp[F61,j2,j1]
 refine jV evr (by simp[j2]) rfl (by simp[j2]) ?_
 refine Qg hvr fun tc addc=>?_
 simp
 refine jS (cs:=[]) rfl rfl rfl ?_
 simp
 refine jE [(4,5),(9,24)] L.length (fun i s=>s.tm 5=.int .i64 i∧s.ob 2=some ⟨0,.cells (j2 g)⟩∧GrowT s.tk s.nx jek 1 (C.take i) (s.tm 4)) rfl rfl ⟨zS,by simp[j2],⟨256,zS,by simp[jv],zS⟩⟩ ?_
 rintro i s hi ⟨h5,o2,hG⟩ f
 have f1:s.tm 1=.ptr 2 0 0:=by rw[f.t 1 zS];simp
 have f3:s.tm 3=.sl tc false L.length (L.flatMap jH):=by rw[f.t 3 zS];simp
 have fd:s.df=[]:=by rw[f.d];simp
 clear f
 by_cases hlt:i<L.length
 ·have hw:=J0 hlt zO
  have hix:Jn 2 (.sl tc false L.length (L.flatMap jH)) (.int .i64 (i:Int))=some (.eptr (L.flatMap jH) (i*2)):=by
   simp only[YU,j9 X0]
   rw[if_pos (by simp;omega)]
   rfl
  have hp:=fun ob=>jdb L ob hlt
  have hCi:C[i]? = some (false,ofH g (L[i]).1 (L[i]).2):=by
   rw[hCL,List.getElem?_map,List.getElem?_eq_getElem hlt];rfl
  obtain⟨vo,evo,hvo⟩:=ev112' hs (L[i]).1 (L[i]).2
  generalize (L[i]).1=a at *
  generalize (L[i]).2=b at *
  obtain⟨T,hT⟩:∃T,ofH g a b=T:=⟨_,rfl⟩
  rw[hT]at hvo hCi
  have hstep:C.take (i+1)=C.take i++[(false,T)]:=by
   rw[List.take_add_one,hCi];rfl
  have hil:i<C.length:=by omega
  have htl:(C.take i).length=i:=by rw[List.length_take];omega
  simp[h5,f1,f3,o2,j1,j2,hlt,hix,hp]
  refine Xy evo (by simp[j2,jH]) rfl (by simp[j2,jH]) ?_
  refine Qg hvo fun t add=>?_
  simp
  refine jp2 (cs:=[.sl t false T.length (T.flatMap intC)]) (by simp[j6]) rfl (by simp[V.strip1,V.pureLeaf]) ?_
  simp[V.strip1]
  refine jp3 (f:=jek) (hi:=s.nx) (l:=C.take i) (a:=(false,T)) (v:=s.tm 4) (hG.mono (fun u _ h=>by simp[jv,h]) (Nat.le_refl _)) zS (by simp[jI,jek]) ja4 (by decide) (by simp[jek,V.pureLeaf]) zO zO (fun del hdel=>?_)
  have hlen:(C.take i).length+1=(C.take (i+1)).length:=by rw[hstep,List.length_append];rfl
  rw[← hstep,hlen]
  obtain⟨M,hM⟩:∃M,C.take (i+1)=M:=⟨_,rfl⟩
  rw[hM]
  simp[h5,hw,o2,j2,hM]
  exact⟨hlt,_,rfl,by simp[jv],zO⟩
 ·have:i=L.length:=by omega
  subst this
  rw[← hCl,List.take_length]at hG
  obtain⟨u,hv,_,_⟩:=hG
  simp[h5,f3]
  exact slE (t:=some (u,1)) (nl:=false) (k:=C.length) (cs:=C.flatMap jek) (fun r h=>h) (by simp[fd]) (by simp[hv])
def jbk:List (Bool × List Int)→List Int→Bool
 | [],_=>true
 | _::_,[]=>false
 | c::cs,m::ms=>c.2.contains m && jbk cs ms
def Ws (g:Hist') (M:List Int):Bool:=JC g && (M.length == (choR g).length && jbk (choR g) M)
theorem jz0 (C:List (Bool × List Int)) {i:Nat}(h:i<C.length):(C.flatMap jek)[i]? = some (.sl none (C[i]).1 (C[i]).2.length ((C[i]).2.flatMap intC)):=by
 have:=jh ja4 C h (by decide:0<1)
 rw[Nat.mul_one,Nat.add_zero]at this
 rw[this];rfl
theorem js1 {g:Hist'}(hm:XC g=true) (a b:Int):(ofH g a b).length≤41:=by
 unfold ofH
 split
 ·split
  ·simp
  ·exact j19 (jth hm) a _
 ·simp
theorem ev22 {g:Hist'}(hs:Small g) {b:Bool}(M:List Int) (_:M.length≤1000000000):Ev E 22 [.agg (j2 g),jN b intC M] (.bool (Ws g M)):=by
 have e37:=ev21 hs
 refine jU (af:=F22) rfl ?_
 unfold Ws
 cases hw:JC g
 ·rw[hw]at e37
  simp[F22,j2,j1]
  refine jV e37 (by simp[j2]) rfl (by simp[j2]) ?_
  simp
  exact j4 zS zS rfl
 rw[hw]at e37
 obtain⟨vc,evc,hvc⟩:=ev61 hs
 have hrl:=W4 hs
 have hCl:(choR g).length≤1000000:=by unfold choR;rw[List.length_map];exact hrl
 have hCo:∀x∈choR g,x.2.length≤41:=by
  intro x hx
  unfold choR at hx
  obtain⟨p,_,rfl⟩:=List.mem_map.1 hx
  have hm:XC g=true:=by unfold JC at hw;simp only[Bool.and_eq_true]at hw;exact hw.1
  exact js1 hm _ _
 generalize choR g=C at *
 simp[F22,j2,j1]
 refine jV e37 (by simp[j2]) rfl (by simp[j2]) ?_
 simp[j1]
 refine jV evc (by simp[j2]) rfl (by simp[j2]) ?_
 refine Qg hvc fun tc addc=>?_
 by_cases hl:M.length=C.length
 ·obtain⟨R,hR⟩:∃R,jbk C M=R:=⟨_,rfl⟩
  rw[hR]
  simp[hl]
  refine jE [(4,4),(6,6),(17,32)] C.length (fun i s=>s.tm 6=.int .i64 i∧jbk (C.drop i) (M.drop i)=R) rfl rfl ⟨zS,by simpa using hR⟩ ?_
  rintro i s hi ⟨h6,hT⟩ f
  have f1:s.tm 1=jN b intC M:=by rw[f.t 1 zS];simp
  have f5:s.tm 5=.sl tc false C.length (C.flatMap jek):=by rw[f.t 5 zS];simp
  have fd:s.df=[]:=by rw[f.d];simp
  clear f
  by_cases hlt:i<C.length
  ·have hw':=J0 hlt zO
   have hlt2:i<M.length:=by omega
   have h1:=jz0 C hlt
   have h2:=XP M hlt2
   have hix:Jn 1 (.sl tc false C.length (C.flatMap jek)) (.int .i64 (i:Int))=some (.eptr (C.flatMap jek) (i*1)):=by
    simp only[YU,j9 ja4]
    rw[if_pos (by simp;omega)]
    rfl
   rw[Nat.mul_one]at hix
   rw[List.drop_eq_getElem_cons hlt,List.drop_eq_getElem_cons hlt2,jbk]at hT
   have e87:=ev62 (a:=(C[i]).1) (C[i]).2 (by have:=hCo _ (List.getElem_mem hlt);omega) M[i]
   simp[h6,f1,f5,hlt,hlt2,hix,j7 jG,h1,h2]
   refine Xy e87 (by simp[jN]) rfl (by simp[jN]) ?_
   cases hc:(C[i]).2.contains M[i]
   ·rw[hc,Bool.false_and]at hT
    simp
    exact j4 (by simp[fd]) (by simp[← hT]) rfl
   ·rw[hc,Bool.true_and]at hT
    simp[h6,hw']
    exact⟨hlt,hT⟩
  ·have:i=C.length:=by omega
   subst this
   rw[List.drop_length,jbk]at hT
   simp[h6,f5]
   exact j4 (by simp[fd]) (by simp[← hT]) rfl
 ·have hne:((M.length:Int) != C.length)=true:=by simp;omega
  have hne2:(M.length == C.length)=false:=by simp;omega
  simp[hne]
  exact j4 zS (by simp[hne2]) rfl
theorem kD_own {st:St}{ub:Nat}{K:List FP→St→Prop}{d:Option Nat}{nm:Bool}{r:List AOpr}{f:FuncId}{xs:List A}{vs args':List V}{v:V}{δ:Delta}(hx:xs.map (eval E st.tm)=vs) (hs:E.sh nm f=true) (htw:E.tw f=true)
 (ha:vs.mapM (WE st.ob)=some args') (hev:Ev E f args' v) (hδ:Qd (jL d nm st.fb ub) ub v=some δ)
 (h:jF E r (st.app d δ) (ub+64) (kFp { wo:=δ.wo,all:=true,seen:=fun l=>(st.ob l).isSome,nw:=true } K)):jF E (⟨d,.call f xs,none,nm⟩::r) st ub K:=by
 have hsh:jD E nm (eval E st.tm) (.call f xs)=some (f,vs):=by simp only[jD,hs,hx,Bool.not_true,Bool.false_and,Bool.false_eq_true,if_false]
 simp only[jF,wanted,hsh]
 exact .inr (.inl ⟨hs,htw,args',v,ha,hev,δ,by rw[name_eq'];exact hδ,h⟩)
where
 name_eq':∀ {d:Option Nat}{op:AOp}{nm:Bool}{fb ub:Nat},AOpr.name ⟨d,op,none,nm⟩ fb ub=jL d nm fb ub:=by
  intro d op nm fb ub;cases nm <;> rfl
def KnS.round (s:KnS) (g:Hist'):Nat→KnS
 | 0=>{ s with more:=false }
 | i+1=>match g.ts[i]? with
  | some t=>(s.round g i).txn g i t.f t.ops
  | none=>s.round g i
def KnS.iter (g:Hist'):Nat→KnS→KnS
 | 0,s=>s
 | k+1,s=>if s.more then KnS.iter g k (s.round g g.ts.length) else s
def jj3 (m:List (Int × Int)):Nat→Nat
 | 0=>0
 | i+1=>jj3 m i+if XE m i=0 then 1 else 0
theorem je0 {m:List (Int × Int)}{t:Int}(h0:XE m t=0):∀n:Nat,(jj3 (YR m t 1) n≤jj3 m n)∧(0≤t→t<n→jj3 (YR m t 1) n+1≤jj3 m n)
 | 0=>⟨Nat.le_refl _,fun h1 h2=>by omega⟩
 | i+1=>by
  have ih:=je0 h0 i
  simp only[jj3,XV]
  by_cases hit:(i:Int)=t
  ·rw[if_pos hit,hit,if_pos h0,if_neg (by decide)]
   exact⟨zO,fun _ _=>by omega⟩
  ·rw[if_neg hit]
   refine⟨zO,fun h1 h2=>?_⟩
   have:=ih.2 h1 zO
   omega
def KnS.free (s:KnS) (n:Nat):Nat:=jj3 s.m n+jj3 s.n n
def Less (n:Nat) (s s':KnS):Prop:=s'.free n≤s.free n∧(s'.more=true→s.more=true∨s'.free n+1≤s.free n)∧(s.more=true→s'.more=true)
theorem Less.rfl' (n:Nat) (s:KnS):Less n s s:=⟨Nat.le_refl _,fun h=>.inl h,fun h=>h⟩
theorem Less.trans {n:Nat}{a b c:KnS}(h:Less n a b) (h':Less n b c):Less n a c :=
 ⟨Nat.le_trans h'.1 h.1,fun hm=>by
  rcases h'.2.1 hm with h1|h1
  ·rcases h.2.1 h1 with h2|h2
   ·exact .inl h2
   ·exact .inr (by have:=h'.1;omega)
  ·exact .inr (by have:=h.1;omega),fun hm=>h'.2.2 (h.2.2 hm)⟩
theorem Less.learnM {n:Nat}{s:KnS}{t:Int}(h1:0≤t) (h2:t<n):Less n s (s.learnM t):=by
 unfold KnS.learnM
 split
 ·rename_i h0
  have:=je0 h0 n
  have:=this.2 h1 h2
  exact⟨by simp only[KnS.free];omega,fun _=>.inr (by simp only[KnS.free];omega),fun _=>rfl⟩
 ·exact .rfl' n s
theorem Less.learnN {n:Nat}{s:KnS}{t:Int}(h1:0≤t) (h2:t<n):Less n s (s.learnN t):=by
 unfold KnS.learnN
 split
 ·rename_i h0
  have:=je0 h0 n
  have:=this.2 h1 h2
  exact⟨by simp only[KnS.free];omega,fun _=>.inr (by simp only[KnS.free];omega),fun _=>rfl⟩
 ·exact .rfl' n s
theorem Less.fails {n:Nat}{s:KnS}{f t:Int}(h1:0≤t) (h2:t<n):Less n s (s.fails f t):=by
 unfold KnS.fails
 split
 ·exact⟨Nat.le_refl _,fun h=>.inl h,fun h=>h⟩
 ·split
  ·exact .learnN h1 h2
  ·exact .rfl' n s
theorem js0 {g:Hist'}{a b x:Int}(h:x∈ofH g a b):x<g.ts.length:=by
 unfold ofH at h
 split at h
 ·split at h
  ·simp at h
  ·rename_i o _ _
   unfold ofL js at h
   rcases List.mem_append.1 h with h|h
   ·split at h
    ·simp at h
    ·simp at h;omega
   ·have:=W8 (p:=wrB o.key) (ts:=g.ts) g.ts.length (Nat.le_refl _)
    exact(this.1 x (List.mem_filter.1 h).1).2
 ·simp at h
theorem Less.op {g:Hist'}{s:KnS}{f:Int}{t k:Nat}{o:Op'}(ht:t<g.ts.length):Less g.ts.length s (s.op g f t k o):=by
 unfold KnS.op
 split
 ·exact .rfl' _ s
 ·split
  ·exact .fails zO zO
  ·rename_i h0
   split
   ·rename_i h1
    simp only[Bool.and_eq_true,decide_eq_true_eq]at h1
    refine .learnM h1.2.1 ?_
    cases hl:s.left g t k with
    | nil=>rw[hl]at h0;simp at h0
    | cons x r=>
     have hm:x∈s.left g t k:=by rw[hl];exact List.mem_cons_self ..
     exact js0 (List.mem_filter.1 hm).1
   ·exact .rfl' _ s
theorem Less.ops {g:Hist'}{s:KnS}{f:Int}{t:Nat}{l:List Op'}(ht:t<g.ts.length):∀k,Less g.ts.length s (s.ops g f t l k)
 | 0=>.rfl' _ s
 | k+1=>by
  simp only[KnS.ops]
  split
  ·exact(Less.ops ht k).trans (.op ht)
  ·exact Less.ops ht k
theorem Less.txn {g:Hist'}{s:KnS}{f:Int}{t:Nat}{l:List Op'}(ht:t<g.ts.length):Less g.ts.length s (s.txn g t f l):=by
 unfold KnS.txn
 refine Less.trans ?_ (.ops ht _)
 split
 ·exact .rfl' _ s
 ·exact .fails zO zO
theorem Less.round {g:Hist'}{s:KnS}:∀i,i≤g.ts.length→Less g.ts.length { s with more:=false } (s.round g i)
 | 0,_=>.rfl' _ _
 | i+1,h=>by
  simp only[KnS.round,List.getElem?_eq_getElem (show i<g.ts.length by omega)]
  exact(Less.round i zO).trans (.txn zO)
structure KnRun (g:Hist') (ub:Nat) (ob:ZO) (ro:Nat) (uK um un:Nat) (s:KnS) (st:St):Prop where
 kn:Kn g uK um un s st.ob st.nx
 t1:st.tm 1=.ptr (2*ub+1) ub 0
 t3:st.tm 3=.ptr (2*uK+1) uK 0
 df:st.df=[]
 ro:st.ro=ro
 h:st.ob (2*ub+1)=some ⟨ub,.cells (j2 g)⟩
 old:∀key,(∀m,ub≤m→key≠2*m+1)→st.ob key=ob key
theorem KnRun.up {g:Hist'}{ub:Nat}{ob:ZO}{ro uK um un:Nat}{s:KnS}{st st':St}(k:KnRun g ub ob ro uK um un s st) (ho:st'.ob=st.ob) (hn:st.nx≤st'.nx) (h1:st'.tm 1=st.tm 1) (h3:st'.tm 3=st.tm 3) (hd:st'.df=st.df) (hr:st'.ro=st.ro):KnRun g ub ob ro uK um un s st' :=
 ⟨k.kn.up ho hn,h1.trans k.t1,h3.trans k.t3,hd.trans k.df,hr.trans k.ro,by rw[ho];exact k.h,by rw[ho];exact k.old⟩
end Go.Pv.T
namespace Go.Pv.T
open Go Go.Pv
end Go.Pv.T
namespace Go.Pv.T
open Go Go.Pv
end Go.Pv.T
namespace Go.Pv.T
open Go Go.Pv
def j45 (l:List V) (v:V):Prop:=∃vs,v=.tup vs∧vs.map V.strip1=l∧∀p∈vs.flatMap V.toks,p<64
def j9k:V→Bool
 | .agg _=>false
 | _=>true
theorem jm2 {ub:Nat}{v:V}{l:List V}{K:Delta→Prop}(hv:j45 l v) (hl:l.all j9k=true) (h:∀ws add,ws.map V.strip1=l→K { v:=.tup ws,add:=add }):wpD (YB ub v) K:=by
 obtain⟨vs,rfl,hs,ht⟩:=hv
 have e:YB ub (.tup vs)=some { v:=.tup (vs.map (jb8 ub)),add:=(vs.flatMap V.toks).map (ub + ·) }:=by
  rw[YB,if_pos (by simpa only[toksRes,List.all_eq_true,Nat.blt_eq] using ht)]
  rfl
 rw[e,jM]
 refine h _ _ ?_
 rw[← hs,List.map_map]
 refine List.map_congr_left fun w hw=>?_
 have hn:j9k w.strip1=true:=List.all_eq_true.1 hl _ (by rw[← hs];exact List.mem_map.2 ⟨w,hw,rfl⟩)
 cases w with
 | agg=>cases hn
 | sl t nl n cs=>cases t <;> rfl
 | _=>rfl
theorem Wv {w:V}{nl:Bool}{n:Nat}{cs:List V}(h:w.strip1=.sl none nl n cs):∃t,w=.sl t nl n cs:=by
 cases w <;> simp[V.strip1]at h
 obtain⟨rfl,rfl,rfl⟩:=h
 exact⟨_,rfl⟩
theorem jku {w:V}{b:Bool}(h:w.strip1=.bool b):w=.bool b:=by cases w <;> simp[V.strip1]at h;subst h;rfl
theorem YJ {w:V}{k:IntKind}{b:Int}(h:w.strip1=.int k b):w=.int k b:=by cases w <;> simp[V.strip1]at h;obtain⟨rfl,rfl⟩:=h;rfl
theorem map3 {α β:Type}{f:α→β}{ws:List α}{a b c:β}(h:ws.map f=[a,b,c]):∃x y z,ws=[x,y,z]∧f x=a∧f y=b∧f z=c:=by
 match ws with
 | [x,y,z]=>simp only[List.map_cons,List.map_nil,List.cons.injEq,and_true]at h;exact⟨x,y,z,rfl,h.1,h.2.1,h.2.2⟩
 | []=>simp at h
 | [_]=>simp at h
 | [_,_]=>simp at h
 | _::_::_::_::_=>simp at h
theorem jzp {ub:Nat}{v:V}{a1 a2 b:Bool}{n1 n2:Nat}{c1 c2:List V}{K:Delta→Prop}(hv:j45 [.sl none a1 n1 c1,.sl none a2 n2 c2,.bool b] v)
 (h:∀t1 t2 add,K { v:=.tup [.sl t1 a1 n1 c1,.sl t2 a2 n2 c2,.bool b],add:=add }):wpD (YB ub v) K:=by
 refine jm2 hv rfl fun ws add hw=>?_
 obtain⟨x,y,z,rfl,h1,h2,h3⟩:=map3 hw
 obtain⟨t1,rfl⟩:=Wv h1
 obtain⟨t2,rfl⟩:=Wv h2
 obtain rfl:=jku h3
 exact h t1 t2 add
def jzb (st:St) (v w:V):Prop:=∀keep i,∃a,Xv st keep i v=some a∧a.strip1=w∧(a.toks=[]∨a.toks=[i])
def jom (st:St):List V→List V→Prop
 | [],[]=>True
 | v::vs,w::ws=>jzb st v w∧jom st vs ws
 | _,_=>False
theorem Jl {st:St}{v:V}(h:v.pureLeaf=true):jzb st v v:=by
 intro keep i
 refine⟨v,?_,Xn h,.inl ?_⟩
 ·cases v with
  | agg=>cases h
  | fn=>cases h
  | _=>exact Yj (st:=st) (keep:=keep) (i:=i) h
 ·cases v with
  | agg=>cases h
  | _=>exact jmr h
theorem jhf {st:St}{v:V}{nl:Bool}{n:Nat}{cs:List V}(hv:v.leaf=true) (h:jfh st v nl n cs):jzb st v (.sl none nl n cs):=by
 intro keep i
 obtain⟨a,ha,ht⟩:=h keep i
 refine⟨.sl a nl n cs,?_,rfl,?_⟩
 ·rw[← ha]
  cases v with
  | agg=>cases hv
  | fn=>simp only[jr,Jm]at ha;split at ha <;> cases ha
  | _=>rfl
 ·rcases ht with rfl|⟨z,rfl⟩
  ·exact .inl rfl
  ·exact .inr rfl
theorem W6 {st:St}{keep:Bool}:∀ {vs ls:List V}{i:Nat},jom st vs ls→∃as1,JU st keep i vs=some as1∧as1.map V.strip1=ls∧(∀p∈as1.flatMap V.toks,i≤p∧p<i+16*vs.length)∧nodup (as1.flatMap V.toks)=true
 | [],[],i,_=>⟨[],rfl,rfl,zS,rfl⟩
 | v::vs,w::ws,i,h=>by
  obtain⟨a,h1,h2,h3⟩:=h.1 keep i
  obtain⟨as1,k1,k2,k3,k4⟩:=W6 (keep:=keep) (i:=i+16) h.2
  refine⟨a::as1,by simp only[JU,h1,Option.bind_some,k1,Option.map_some],by rw[List.map_cons,h2,k2],fun p hp=>?_,?_⟩
  ·rw[List.flatMap_cons,List.mem_append]at hp
   simp only[List.length_cons]
   rcases hp with hp|hp
   ·rcases h3 with h3|h3 <;> rw[h3]at hp <;> simp at hp
    omega
   ·have:=k3 p hp;omega
  ·rw[List.flatMap_cons]
   rcases h3 with h3|h3 <;> rw[h3]
   ·exact k4
   ·simp only[List.singleton_append,nodup,Bool.and_eq_true,k4,and_true,Bool.not_eq_true']
    rw[Bool.eq_false_iff]
    intro hc
    obtain⟨p,hp,he⟩:=List.any_eq_true.1 hc
    have:=Nat.eq_of_beq_eq_true he
    have:=k3 p hp
    omega
 | [],_::_,_,h=>h.elim
 | _::_,[],_,h=>h.elim
theorem jm6 (st:St):∀ns:List Nat,(ns.map ARes.t).mapM (jw st)=some (ns.map st.tm)
 | []=>rfl
 | n::ns=>by rw[List.map_cons,List.mapM_cons,jm6 st ns];rfl
theorem tupE {ns:List Nat}{st:St}{vs ls:List V}{P:V→Prop}(hP:∀r,j45 ls r→P r) (hd:st.df=[]) (h:ns.map st.tm=vs) (h2:2≤vs.length) (h4:vs.length≤4) (ho:jom st vs ls):jfr (ns.map .t) P .ret st:=by
 obtain⟨as1,k1,k2,k3,k4⟩:=W6 (keep:=nodup (vs.flatMap V.toks)) (i:=0) ho
 have hal:2≤as1.length:=by
  have e1:=congrArg List.length k2
  have:∀ {vs ls:List V},jom st vs ls→vs.length=ls.length:=by
   intro vs
   induction vs with
   | nil=>intro ls h;cases ls with|nil=>rfl|cons=>exact h.elim
   | cons v vs ih=>intro ls h;cases ls with|nil=>exact h.elim|cons w ws=>rw[List.length_cons,List.length_cons,ih h.2]
  have:=this ho
  simp only[List.length_map]at e1
  omega
 refine⟨.tup as1,?_,hP _ ⟨as1,rfl,k2,fun p hp=>by have:=k3 p hp;omega⟩⟩
 simp only[jce,Wj hd,Wb hd,if_true,jm6,h,Option.bind_some,Wp,k1,k4]
 match as1,hal with
 | a::b::r,_=>rfl
theorem ev25 (b:Bool) (l:List Int) (hl:l.length≤1000000000):∃v,Ev E 25 [jN b intC l] v∧SlR v false l.length (l.flatMap intC):=by
 refine YE (af:=F25) rfl (by decide) ?_
 simp[F25]
 refine jS (cs:=[]) rfl rfl rfl ?_
 simp
 refine jfq (f:=intC) (l:=l) (u:=64) zS (by simp[jv]) (by simp[Wx jG]) jG (by decide) (by simp[intC,V.pureLeaf]) zO zO (fun t del add _ _=>?_)
 simp
 exact slE (t:=t) (nl:=false) (k:=l.length) (cs:=l.flatMap intC) (fun r h=>h) zS zS
section
variable {E:Env}{Yf:YF}{st:St}{ub:Nat}{K:St→Nat→Prop}{d:Option Nat}{nm:Bool}
theorem jxo {sz bytes n:Nat}{zero:List V}{x y:A}(hl:eval E st.tm x=.int .i64 (n:Int)) (hc:eval E st.tm y=.int .i64 (n:Int)) (hb:n*bytes≤140737488355328) (hn:n≤140737488355328) (hz:zero.length=sz) (h0:0<sz)
 (h:jaj K st d ub { v:=.osl (jL d nm st.fb ub) ub 0 n sz,obs:=[(jL d nm st.fb ub,⟨ub,.cells (jcp n zero)⟩)] }):j8 E Yf ⟨d,.mkSl true sz bytes zero x y,none,nm⟩ st ub K:=by
 rw[jT _ rfl rfl]
 simp only[aop,hl,hc]
 rw[if_pos (by refine⟨zO,zO,?_,zO,hz,h0⟩;rw[← Int.natCast_mul];exact Int.ofNat_le.2 hb),if_neg zS,Jh,jM]
 simp only[Int.toNat_natCast,Jq]
 exact h
end
def Upto (n i:Nat) (J:List Int) (cs:List V):Prop:=cs.length=n∧(∀j,j<i→cs[j]? = (J.flatMap intC)[j]?)∧cs.all V.pureLeaf=true
theorem Upto.set {n i:Nat}{J:List Int}{cs:List V}(h:Upto n i J cs) (hi:i<n) {x:Int}(hx:J[i]? = some x):Upto n (i+1) J (j6 cs i [.int .i64 x]):=by
 obtain⟨h1,h2,h3⟩:=h
 have hs:j6 cs i [.int .i64 x]=cs.set i (.int .i64 x):=by
  unfold j6
  rw[List.set_eq_take_append_cons_drop,if_pos zO,List.append_assoc]
  rfl
 rw[hs]
 refine⟨by rw[List.length_set];exact h1,fun j hj=>?_,?_⟩
 ·by_cases hji:j=i
  ·subst hji
   have hJ:=(List.getElem?_eq_some_iff.1 hx)
   rw[List.getElem?_set_self zO,XP J hJ.1,hJ.2]
  ·rw[List.getElem?_set_ne (fun e=>hji e.symm)]
   exact h2 j zO
 ·refine List.all_eq_true.2 fun y hy=>?_
  rcases List.mem_or_eq_of_mem_set hy with hy|rfl
  ·exact List.all_eq_true.1 h3 y hy
  ·rfl
theorem Upto.whole {n:Nat}{J:List Int}{cs:List V}(h:Upto n n J cs) (hJ:J.length=n):cs=J.flatMap intC:=by
 apply List.ext_getElem?
 intro j
 by_cases hj:j<n
 ·exact h.2.1 j hj
 ·rw[List.getElem?_eq_none (by rw[h.1];omega),List.getElem?_eq_none (by rw[j9 jG];omega)]
theorem Upto.zero (n:Nat) (J:List Int):Upto n 0 J (jcp n [.int .i64 0]):=by
 refine⟨by simp[jcp],fun j hj=>by omega,?_⟩
 refine List.all_eq_true.2 fun y hy=>?_
 simp only[jcp,List.mem_map]at hy
 obtain⟨i,_,rfl⟩:=hy
 simp[V.pureLeaf,Nat.mod_one]
theorem jer {st:St}{ub:Nat}{K:List FP→St→Prop}{d:Option Nat}{nm:Bool}{r:List AOpr}{f:FuncId}{xs:List A}{vs:List V}{v:V}{δ:Delta}(hx:xs.map (eval E st.tm)=vs) (hs:E.sh nm f=false) (hp:(vs.all fun v=>v.strip.pureTop)=false)
 (hev:EvO E f vs st.ob st.tk ((st.fb+d.getD 0+1)*1024) (ub+64*(r.length+1)) v) (hδ:YB ub v=some δ)
 (h:jF E r (st.app d δ) (ub+64) (kFp { wt:=δ.wt,all:=true,seen:=fun l=>(st.ob l).isSome } K)):jF E (⟨d,.call f xs,none,nm⟩::r) st ub K:=by
 have hp':(xs.all fun x=>(eval E st.tm x).strip.pureTop)=false:=by
  rw[← hx,List.all_map]at hp
  exact hp
 have hsh:jD E nm (eval E st.tm) (.call f xs)=some (f,vs):=by simp only[jD,hs,hx,hp',Bool.not_false,Bool.and_false,Bool.false_eq_true,if_false]
 simp only[jF,wanted,hsh]
 exact .inl ⟨hs,v,hev,δ,hδ,h⟩
theorem j23 {st:St}{ub:Nat}{K:List FP→St→Prop}{d:Option Nat}{nm:Bool}{r:List AOpr}{f:FuncId}{xs:List A}{vs:List V}{l:List Int}(hx:xs.map (eval E st.tm)=vs) (hs:E.sh nm f=false) (hp:(vs.all fun v=>v.strip.pureTop)=false)
 (he:∃v,EvO E f vs st.ob st.tk ((st.fb+d.getD 0+1)*1024) (ub+64*(r.length+1)) v∧NumR l v)
 (h:∀t nl add,jF E r (st.app d { v:=.sl t nl l.length (l.flatMap intC),add:=add }) (ub+64) (kFp { wt:=add,all:=true,seen:=fun l=>(st.ob l).isSome } K)):jF E (⟨d,.call f xs,none,nm⟩::r) st ub K:=by
 obtain⟨v,ev,nl,hv⟩:=he
 obtain⟨t,add,hr⟩:=jha (ub:=ub) hv
 exact jer hx hs hp ev hr (h t nl add)
def blC (b:Bool):List V:=[.bool b]
@[simp] theorem blC_len (b:Bool):(blC b).length=1:=rfl
end Go.Pv.T
namespace Go.Pv.T
open Go Go.Pv Go.Sort
@[simp] theorem cellV_lf (v:Val'):(jcg v).leaf=true:=by unfold jcg;split;rfl;split <;> rfl
def j9r (a b:Val'):Bool:=if a.kind=b.kind then (a.kind == 1 && decide (a.n<b.n)) else decide (a.kind<b.kind)
def cmpV (a b:Val'):Int:=if jim a && jim b && j9r a b then -1 else if jim b && jim a && j9r b a then 1 else 0
abbrev VV:Type:={ v:Val' // jim v=true }
instance:Inhabited VV:=⟨⟨⟨0,0⟩,rfl⟩⟩
def vvC (v:VV):List V:=JH v.1
@[simp] theorem j0u (v:VV):(vvC v).length=2:=rfl
@[simp] theorem vvC_leaf (v:VV):∀x∈vvC v,x.leaf=true:=by
 intro x hx
 simp only[vvC,JH,List.mem_cons,List.not_mem_nil,or_false]at hx
 rcases hx with rfl|rfl <;> rfl
@[simp] theorem j5a (v:VV):(vvC v).all V.leaf=true:=rfl
@[simp] theorem j4p (v:VV):(vvC v).map V.strip1=vvC v:=rfl
@[simp] theorem vvC_pure (v:VV):(vvC v).all V.pureLeaf=true:=rfl
def ltVV (a b:VV):Bool:=decide (cmpV a.1 b.1<0)
@[simp] theorem j9n (a b:VV):decide (cmpV a.1 b.1<0)=ltVV a b:=rfl
@[simp] theorem arrV_len (d:Array VV):(arr vvC d).length=d.size*2:=ju6 (sz:=2) j0u d
end Go.Pv.T
namespace Go.Pv.T.Vs
open Go Go.Pv Go.Pv.T Go.Sort
end Go.Pv.T.Vs
namespace Go.Pv.T.Vs
open Go Go.Pv Go.Pv.T Go.Sort
end Go.Pv.T.Vs
namespace Go.Pv.T.Vs
open Go Go.Pv Go.Pv.T Go.Sort
end Go.Pv.T.Vs
namespace Go.Pv.T.Vs
open Go Go.Pv Go.Pv.T Go.Sort
end Go.Pv.T.Vs
namespace Go.Pv.T.Vs
open Go Go.Pv Go.Pv.T Go.Sort
end Go.Pv.T.Vs
namespace Go.Pv.T.Vs
open Go Go.Pv Go.Pv.T Go.Sort
end Go.Pv.T.Vs
namespace Go.Pv.T.Vs
open Go Go.Pv Go.Pv.T Go.Sort
end Go.Pv.T.Vs
namespace Go.Pv.T.Vs
open Go Go.Pv Go.Pv.T Go.Sort
end Go.Pv.T.Vs
namespace Go.Pv.T.Vs
open Go Go.Pv Go.Pv.T Go.Sort
end Go.Pv.T.Vs
namespace Go.Pv.T.Vs
open Go Go.Pv Go.Pv.T Go.Sort
end Go.Pv.T.Vs
namespace Go.Pv.T.Vs
open Go Go.Pv Go.Pv.T Go.Sort
end Go.Pv.T.Vs
namespace Go.Pv.T
open Go Go.Pv
@[simp] theorem jmq (v:Val'):(JH v).length=2:=rfl
theorem jxh (ob:ZO) (l:List Val') {i:Nat}(h:i<l.length):Qh ob (some 2) (.eptr (l.flatMap JH) (i*2))=some (.agg (JH l[i])):=jk jmq ob l h
def idxJ:List (Bool × List Int)→List Int→List Int
 | c::cs,m::ms=>idxI c.2 m 0::idxJ cs ms
 | _,_=>[]
theorem jn1:∀ (C:List (Bool × List Int)) (M:List Int),C.length=M.length→(idxJ C M).length=C.length
 | [],[],_=>rfl
 | c::cs,m::ms,h=>by simp only[idxJ,List.length_cons]at h ⊢;rw[jn1 cs ms zO]
 | [],_::_,h=>by simp at h
 | _::_,[],h=>by simp at h
theorem jul:∀ (C:List (Bool × List Int)) (M:List Int) (i:Nat) (h:i<C.length) (h':i<M.length),(idxJ C M)[i]? = some (idxI (C[i]).2 M[i] 0)
 | c::cs,m::ms,0,_,_=>rfl
 | c::cs,m::ms,i+1,h,h'=>by
  simp only[idxJ,List.getElem?_cons_succ,List.getElem_cons_succ]
  exact jul cs ms i (by simpa using h) (by simpa using h')
 | [],_,_,h,_=>by simp at h
 | _::_,[],_,_,h=>by simp at h
def Y5 (g:Hist') (M:List Int):Option (List Int):=if JC g && ((choW g).length == M.length && (idxJ (choW g) M).all fun x=>decide (0≤x)) then some (idxJ (choW g) M) else none
def jml (g:Hist') (r:Option (List Int)) (v:V):Prop:=match r with
 | some J=>j45 [.sl none (choW g).isEmpty (choW g).length ((choW g).flatMap jek),.sl none false J.length (J.flatMap intC),.bool true] v
 | none=>j45 [.sl none true 0 [],.sl none true 0 [],.bool false] v
theorem jy3 {g:Hist'}(hs:Small g):(choW g).length≤1000000:=by unfold choW;rw[List.length_map];exact jiy hs
theorem j35 {g:Hist'}(_:Small g):∀x∈choW g,x.1=x.2.isEmpty∧x.2.length≤41:=by
 intro x hx
 unfold choW jbu at hx
 split at hx
 ·rename_i hw
  obtain⟨p,_,rfl⟩:=List.mem_map.1 hx
  have hm:XC g=true:=by unfold JC at hw;simp only[Bool.and_eq_true]at hw;exact hw.1
  exact⟨rfl,js1 hm _ _⟩
 ·simp at hx
theorem ev106 {g:Hist'}(hs:Small g) {b:Bool}(M:List Int) (hM:M.length≤1000000):∃v,Ev E 106 [.agg (j2 g),jN b intC M] v∧jml g (Y5 g M) v:=by
 obtain⟨vc,evc,hvc⟩:=ev161 hs
 have e83:=ev52 hs
 have hCl:=jy3 hs
 have hCs:=j35 hs
 have hnone:∀ {st:St}{P:V→Prop},st.df=[]→st.tm 4=.sl none true 0 []→st.tm 5=.sl none true 0 []→st.tm 6=.bool false→Y5 g M=none→jfr [.t 4,.t 5,.t 6] (jml g (Y5 g M)) .ret st:=by
  intro st _ hd h4 h5 h6 hp
  rw[hp]
  exact tupE (ns:=[4,5,6]) (vs:=[.sl none true 0 [],.sl none true 0 [],.bool false]) (fun r h=>h) hd (by simp[h4,h5,h6]) zS zS ⟨Jl rfl,Jl rfl,Jl rfl,trivial⟩
 refine YE (af:=F106) rfl (by decide) ?_
 obtain⟨P,hP⟩:∃P,jml g (Y5 g M)=P:=⟨_,rfl⟩
 have hPn:=fun st h1 h2 h3 h4 h5=>hP▸@hnone st (fun _=>True) h1 h2 h3 h4 h5
 rw[hP]
 obtain⟨C,hC⟩:∃C,choW g=C:=⟨_,rfl⟩
 rw[hC]at hvc hCl hCs
 simp[F106,j2,j1]
 refine jV evc (by simp[j2]) rfl (by simp[j2]) ?_
 refine Qg hvc fun tc addc=>?_
 simp[j1]
 refine jV e83 (by simp[j2]) rfl (by simp[j2]) ?_
 cases hw:JC g
 ·simp
  exact hPn _ zS zS zS zS (by simp[Y5,hw])
 by_cases hl:¬ C.length=M.length
 ·have hne:((C.length:Int) != M.length)=true:=by simp;omega
  simp[hne]
  exact hPn _ zS zS zS zS (by simp[Y5,hC,hl])
 have hl:C.length=M.length:=Classical.byContradiction hl
 have hne:((C.length:Int) != M.length)=false:=by simp;omega
 simp[hne]
 refine jxo (n:=M.length) zS zS zO zO rfl (by decide) ?_
 simp
 obtain⟨J,hJ⟩:∃J,idxJ C M=J:=⟨_,rfl⟩
 have hJl:J.length=M.length:=by rw[← hJ,jn1 C M hl];exact hl
 have hJat:=jul C M
 rw[hJ]at hJat
 have hplaces:Y5 g M=if J.all (fun x=>decide (0≤x)) then some J else none:=by
  unfold Y5
  rw[hC,hJ,hw,hl]
  simp
 refine jE [(4,6),(9,10),(28,47)] C.length (fun i s=>s.tm 28=.int .i64 i∧(∃cs,s.ob 2433=some ⟨1216,.cells cs⟩∧Upto M.length i J cs)∧(J.take i).all (fun x=>decide (0≤x))=true) rfl rfl ⟨zS,⟨_,zS,Upto.zero _ _⟩,zS⟩ ?_
 rintro i s hi ⟨h28,⟨cs,hcs,hU⟩,hall⟩ f
 have f1:s.tm 1=jN b intC M:=by rw[f.t 1 zS];simp
 have f7:s.tm 7=.sl tc C.isEmpty C.length (C.flatMap jek):=by rw[f.t 7 zS];simp
 have f8:s.tm 8=.osl 2433 1216 0 M.length 1:=by rw[f.t 8 zS];simp
 have f26:s.tm 26=.sl tc C.isEmpty C.length (C.flatMap jek):=by rw[f.t 26 zS];simp
 have f27:s.tm 27=.int .i64 C.length:=by rw[f.t 27 zS];simp
 have fd:s.df=[]:=by rw[f.d];simp
 have fr:s.ro=0:=by rw[f.r];simp
 clear f
 by_cases hlt:i<C.length
 ·have hw':=J0 hlt zO
  have hlt2:i<M.length:=by omega
  have h1:=jz0 C hlt
  have h2:=XP M hlt2
  have hix:Jn 1 (.sl tc C.isEmpty C.length (C.flatMap jek)) (.int .i64 (i:Int))=some (.eptr (C.flatMap jek) (i*1)):=by
   simp only[YU,j9 ja4]
   rw[if_pos (by simp;omega)]
   rfl
  rw[Nat.mul_one]at hix
  have hio:=idxN (l:=2433) (u:=1216) (n:=M.length) (kk:=.i64) (X:=(i:Int)) rfl hlt2
  have e128:=ev127 (a:=(C[i]).1) (C[i]).2 (by have:=(hCs _ (List.getElem_mem hlt)).2;omega) M[i]
  have hji:=hJat i hlt hlt2
  generalize idxI (C[i]).2 M[i] 0=x at *
  have hU2:=hU.set hlt2 hji
  have hget:(j6 cs i [.int .i64 x])[i]? = some (.int .i64 x):=by
   rw[hU2.2.1 i zO]
   have hJ':=List.getElem?_eq_some_iff.1 hji
   rw[XP J hJ'.1,hJ'.2]
  have hcl:=hU.1
  have hle:i+1≤M.length:=hlt2
  simp[h28,f1,f8,f26,f27,hlt,hlt2,hix,j7 jG,h1,h2]
  refine jV e128 (by simp[jN]) rfl (by simp[jN]) ?_
  simp[hio,hcs,j1,fr,hcl,hle,f8,hget]
  by_cases hx:x<0
  ·simp[hx]
   refine hPn _ (by simp[fd]) zS zS zS ?_
   rw[hplaces]
   have hm:x∈J:=List.mem_of_getElem? hji
   rw[if_neg]
   rw[List.all_eq_true]
   intro h
   have:=h x hm
   simp at this
   omega
  ·simp[hx,h28,hw']
   refine⟨hlt,hU2,fun y hy=>?_⟩
   rw[List.take_add_one,hji,List.mem_append]at hy
   rcases hy with hy|hy
   ·simpa using List.all_eq_true.1 hall y hy
   ·simp at hy;omega
 ·have:i=C.length:=by omega
  subst this
  simp[h28,f27]
  rw[List.take_of_length_le zO]at hall
  rw[hl]at hU
  have hcsJ:=hU.whole hJl
  rw[← hP,hplaces,if_pos hall]
  subst hcsJ
  refine tupE (ns:=[4,5,6]) (vs:=[.sl tc C.isEmpty C.length (C.flatMap jek),.osl 2433 1216 0 M.length 1,.bool true]) (fun r h=>h) (by simp[fd]) (by simp[f7,f8]) zS zS ⟨?_,?_,Jl rfl,trivial⟩
  ·rw[hC];exact jhf rfl (jc8 _ _ _ _ _)
  ·rw[hJl];exact jhf rfl (jis (by simp[hcs]) hU.1 (by simp[fr]) hU.2.2)
theorem ev53 {g:Hist'}(hs:Small g) {b:Bool}(M:List Int) (hM:M.length≤1000000):Ev E 53 [.agg (j2 g),jN b intC M] (.bool (Y5 g M).isSome):=by
 obtain⟨v,ev,hv⟩:=ev106 hs (b:=b) M hM
 refine jU (af:=F53) rfl ?_
 simp[F53,j2,j1]
 refine jV ev (by simp[j2,jN]) rfl (by simp[j2,jN]) ?_
 cases hp:Y5 g M with
 | none=>
  rw[hp]at hv
  refine jzp hv fun t1 t2 add=>?_
  simp
  exact j4 zS zS rfl
 | some J=>
  rw[hp]at hv
  refine jzp hv fun t1 t2 add=>?_
  simp
  exact j4 zS zS rfl
theorem jkg:∀ (C D:List (Bool × List Int)) (M:List Int),C.map (·.2)=D.map (·.2)→jbk D M=((idxJ C M).all (fun x=>decide (0≤x)) && decide (C.length≤M.length))
 | [],[],M,_=>by cases M <;> simp[jbk,idxJ]
 | c::C,d::D,[],_=>by simp[jbk]
 | c::C,d::D,m::M,h=>by
  simp only[List.map_cons,List.cons.injEq]at h
  have h1:=jkg C D M h.2
  have h2:=jdg m c.2 0
  have h3:decide (0≤idxI c.2 m 0)=c.2.contains m:=by
   have:decide (0≤idxI c.2 m 0) = !decide (idxI c.2 m 0<0):=by
    by_cases h:idxI c.2 m 0<0
    ·simp[h];
    ·simp[h];omega
   rw[this,h2,Bool.not_not]
  simp only[jbk,idxJ,List.all_cons,h1,h3,← h.1,List.length_cons,Nat.add_le_add_iff_right]
  rw[Bool.and_assoc]
 | [],_::_,_,h=>by simp at h
 | _::_,[],_,h=>by simp at h
theorem juz {g:Hist'}(hw:JC g=true):(choW g).map (·.2)=(choR g).map (·.2):=by
 unfold choW choR jbu
 rw[if_pos hw]
 simp[List.map_map,Function.comp_def]
theorem j34 {g:Hist'}(hw:JC g=true):(choW g).length=(choR g).length:=by
 have:=congrArg List.length (juz hw)
 simpa using this
theorem is_eq (g:Hist') (M:List Int):(Y5 g M).isSome=Ws g M:=by
 unfold Y5 Ws
 cases hw:JC g
 ·simp
 ·rw[jkg _ _ M (juz hw),j34 hw]
  by_cases hl:M.length=(choR g).length
  ·have h1:((choR g).length == M.length)=true:=by simp[hl]
   have h2:(M.length == (choR g).length)=true:=by simp[hl]
   rw[h1,h2]
   simp only[Bool.true_and,hl,Nat.le_refl,decide_true,Bool.and_true]
   split
   ·rename_i h;simp[h]
   ·rename_i h;simp only[Option.isSome_none];simpa using h
  ·have h1:((choR g).length == M.length)=false:=by simp;omega
   have h2:(M.length == (choR g).length)=false:=by simp;omega
   rw[h1,h2]
   simp
@[simp] theorem eqVV_bool (ob:ZO) (neg a b:Bool):jvj ob neg .bool (.bool a) (.bool b)=some (.bool (xor neg (a == b))):=rfl
theorem jrz {ub:Nat}{r:V}{g:Hist'}{K:Delta→Prop}(h:jqu r g)
 (hK:∀a b c add,K { v:=.agg [.sl a g.sn g.ss.length (g.ss.flatMap JL),.sl b g.kn g.ks.length (g.ks.flatMap JL),.sl c g.tn g.ts.length (g.ts.flatMap jl)],add:=add }):wpD (YB ub r) K:=by
 obtain⟨a,b,c,add,hr⟩:=jo7 (ub:=ub) h
 rw[hr,jM]
 exact hK a b c add
theorem jdt {α:Type}{f:α→List V}{k:Nat}(hf:∀a,(f a).length=k):∀ (l:List α) (n:Nat),(l.flatMap f).take (n*k)=(l.take n).flatMap f
 | [],n=>by simp
 | a::l,0=>by simp
 | a::l,n+1=>by
  rw[List.flatMap_cons,List.take_succ_cons,List.flatMap_cons,Nat.succ_mul,Nat.add_comm,← hf a,List.take_length_add_append,hf a,jdt hf l n]
section
variable {E:Env}{st:St}{ub:Nat}{K:List FP→St→Prop}{d:Option Nat}{nm:Bool}{r:List AOpr}
theorem nbeq {a b:Nat}(h:a≠b):a.beq b=false:=by
 cases e:a.beq b
 ·rfl
 ·exact absurd (Nat.eq_of_beq_eq_true e) h
@[simp] theorem j0w (v:Val'):(JH v).map V.strip1=JH v:=rfl
end
theorem jro {α:Type}{f:α→List V}{sz:Nat}(hf:∀a,(f a).length=sz) (t:Option (Nat × Nat)) (nl:Bool) (l:List α) {k:Nat}(hk:k≤l.length):jaq sz none (some (.int .i64 (k:Int))) (.sl t nl l.length (l.flatMap f))=some (.sl none nl (l.take k).length ((l.take k).flatMap f)):=by
 have h1:(l.take k).length=k:=by rw[List.length_take];omega
 have e:=jdt hf l k
 have h2:(k:Int)≤l.length:=by omega
 simp[jaq,X6,j9 hf,h1,e,h2]
theorem ld2 {ob:ZO}{l u:Nat}{M:List Val'}{x:Nat}(ho:ob l=some ⟨u,.cells (M.flatMap JH)⟩) (hx:x<M.length):Qh ob (some 2) (.ptr l u (x*2))=some (.agg (JH M[x])):=by
 have h:=jxh ob M hx
 rw[← h]
 simp only[Qh,j1,ho,if_true,Option.bind_some]
theorem st2 {M:List Val'}{x:Nat}(hx:x<M.length) (v:Val'):j6 (M.flatMap JH) (x*2) (JH v)=(M.set x v).flatMap JH:=jn8 jmq v M x hx
structure RwS where
 c:List Bool
 d:List Bool
 hop:Bool
 more:Bool
def RwS.left (r:RwS) (g:Hist') (t k:Nat):List Int:=(ofH g t k).filter fun x=>decide (x<0) || !(r.d.getD x.toNat false)
def RwS.sole (r:RwS) (g:Hist') (t:Nat) (l:List Op'):Nat→Bool × List Int
 | 0=>(false,[])
 | k+1=>match l[k]? with
  | some o=>
   if !XL g t k || o.v.kind == 2 then r.sole g t l k else
   ((r.sole g t l k).1 || (r.left g t k).length == 0,
    if (r.left g t k).length == 1 && decide (0≤(r.left g t k).headD 0) then (r.sole g t l k).2++[(r.left g t k).headD 0] else (r.sole g t l k).2)
  | none=>r.sole g t l k
def RwS.learn (r:RwS) (t:Nat):List Int→RwS
 | []=>r
 | x::xs=>if r.c.getD t false then (if r.c.getD x.toNat false then r.learn t xs else { r with c:=r.c.set x.toNat true,more:=true }.learn t xs) else r
def RwS.fails (r:RwS) (f:Int) (t:Nat):RwS :=
 if f=1 then { r with hop:=true } else if f=3 then (if r.d.getD t false then r else { r with d:=r.d.set t true,more:=true }) else r
def RwS.txn (r:RwS) (g:Hist') (t:Nat) (f:Int) (l:List Op'):RwS :=
 (if (r.sole g t l l.length).1 || !(jh7 g t).isEmpty then r.fails f t else r).learn t (r.sole g t l l.length).2
def Alike (n:Nat) (s:KnS) (r:RwS):Prop :=
 r.c.length=n∧r.d.length=n∧(∀i,i<n→r.c.getD i false=decide (0<XE s.m i))∧(∀i,i<n→r.d.getD i false=decide (0<XE s.n i))∧s.hop=r.hop∧s.more=r.more∧∀x:Int,x<0→XE s.n x=0
theorem jsz {g:Hist'}{t:Nat}{b x:Int}(h:x∈ofH g t b):x≠t:=by
 unfold ofH at h
 split at h
 ·split at h
  ·simp at h
  ·rename_i o _ _
   unfold ofL js at h
   rcases List.mem_append.1 h with h|h
   ·split at h
    ·simp at h
    ·simp at h;omega
   ·have:=(List.mem_filter.1 h).2
    simp only[Bool.and_eq_true,Bool.not_eq_true',beq_eq_false_iff_ne,ne_eq]at this
    exact this.1
 ·simp at h
theorem jpt {g:Hist'}{s:KnS}{r:RwS}{t k:Nat}(hd:∀i,i<g.ts.length→i≠t→r.d.getD i false=decide (0<XE s.n i)) (hn:∀x:Int,x<0→XE s.n x=0):s.left g t k=r.left g t k:=by
 unfold KnS.left RwS.left
 refine List.filter_congr fun x hx=>?_
 have hlt:=js0 hx
 have hne:=jsz hx
 by_cases h0:x<0
 ·simp[hn x h0,h0]
 ·obtain⟨i,rfl⟩:∃i:Nat,x=i:=⟨x.toNat,zO⟩
  have:=hd i zO zO
  simp only[Int.toNat_natCast,this,h0,decide_false,Bool.false_or]
theorem Alike.fails {n:Nat}{s:KnS}{r:RwS}(h:Alike n s r) {f:Int}{t:Nat}(ht:t<n) (hp:0≤XE s.n t):Alike n (s.fails f t) (r.fails f t):=by
 obtain⟨h1,h2,h3,h4,h5,h6,h7⟩:=h
 unfold KnS.fails RwS.fails
 by_cases f1:f=1
 ·simp only[f1,if_true]
  exact⟨h1,h2,h3,h4,rfl,h6,h7⟩
 ·by_cases f3:f=3
  ·rw[if_neg f1,if_neg f1,if_pos f3,if_pos f3]
   unfold KnS.learnN
   by_cases h0:XE s.n t=0
   ·have hr:r.d.getD t false=false:=by rw[h4 t ht,h0];rfl
    rw[if_pos h0,hr]
    simp only[Bool.false_eq_true,if_false]
    refine⟨h1,by simp[h2],h3,fun i hi=>?_,h5,rfl,fun x hx=>?_⟩
    ·simp only[XV]
     by_cases e:i=t
     ·subst e
      simp[List.getD_eq_getElem?_getD,h2,hi]
     ·have e':¬ (i:Int)=t:=by omega
      have e2:¬ (t:Int)=i:=by omega
      have:=h4 i hi
      simp[e',List.getD_eq_getElem?_getD,Ne.symm e]at this ⊢
      exact this
    ·simp only[XV]
     rw[if_neg zO]
     exact h7 x hx
   ·have hr:r.d.getD t false=true:=by rw[h4 t ht];simp;omega
    rw[if_neg h0,hr]
    simp only[if_true]
    exact⟨h1,h2,h3,h4,h5,h6,h7⟩
  ·rw[if_neg f1,if_neg f1,if_neg f3,if_neg f3]
   exact⟨h1,h2,h3,h4,h5,h6,h7⟩
def RwS.com (r:RwS) (x:Nat):RwS:=if r.c.getD x false then r else { r with c:=r.c.set x true,more:=true }
theorem Alike.learnM {n:Nat}{s:KnS}{r:RwS}(h:Alike n s r) {t:Nat}(ht:t<n) (hp:0≤XE s.m t):Alike n (s.learnM t) (r.com t):=by
 obtain⟨h1,h2,h3,h4,h5,h6,h7⟩:=h
 unfold KnS.learnM RwS.com
 by_cases h0:XE s.m t=0
 ·have hr:r.c.getD t false=false:=by rw[h3 t ht,h0];rfl
  rw[if_pos h0,hr]
  simp only[Bool.false_eq_true,if_false]
  refine⟨by simp[h1],h2,fun i hi=>?_,h4,h5,rfl,h7⟩
  simp only[XV]
  by_cases e:i=t
  ·subst e
   simp[List.getD_eq_getElem?_getD,h1,hi]
  ·have e':¬ (i:Int)=t:=by omega
   have:=h3 i hi
   simp[e',List.getD_eq_getElem?_getD,Ne.symm e]at this ⊢
   exact this
 ·have hr:r.c.getD t false=true:=by rw[h3 t ht];simp;omega
  rw[if_neg h0,hr]
  simp only[if_true]
  exact⟨h1,h2,h3,h4,h5,h6,h7⟩
theorem KnS.fails_learnM (s:KnS) (f t x:Int):(s.learnM x).fails f t=(s.fails f t).learnM x:=by
 unfold KnS.fails KnS.learnM KnS.learnN
 by_cases f1:f=1
 ·simp only[f1,if_true]
  split <;> rfl
 ·by_cases f3:f=3
  ·rw[if_neg f1,if_neg f1,if_pos f3,if_pos f3]
   by_cases h0:XE s.m x=0 <;> by_cases h1:XE s.n t=0 <;> simp[h0,h1]
  ·rw[if_neg f1,if_neg f1,if_neg f3,if_neg f3]
theorem KnS.fails_fails (s:KnS) (f t:Int):(s.fails f t).fails f t=s.fails f t:=by
 unfold KnS.fails KnS.learnN
 by_cases f1:f=1
 ·simp[f1]
 ·by_cases f3:f=3
  ·rw[if_neg f1,if_pos f3]
   by_cases h1:XE s.n t=0
   ·simp[h1,f3,XV]
   ·simp[h1,f3]
  ·simp[f1,f3]
def KnS.learnAll (s:KnS):List Int→KnS
 | []=>s
 | x::xs=>(s.learnM x).learnAll xs
theorem KnS.learnAll_append (s:KnS) (x:Int):∀xs:List Int,s.learnAll (xs++[x])=(s.learnAll xs).learnM x:=by
 intro xs
 induction xs generalizing s with
 | nil=>rfl
 | cons y ys ih=>exact ih (s.learnM y)
theorem KnS.fails_learnAll (f t:Int):∀ (xs:List Int) (s:KnS),(s.learnAll xs).fails f t=(s.fails f t).learnAll xs
 | [],_=>rfl
 | x::xs,s=>by
  show((s.learnM x).learnAll xs).fails f t=((s.fails f t).learnM x).learnAll xs
  rw[KnS.fails_learnAll f t xs,KnS.fails_learnM]
theorem KnS.learnM_n (s:KnS) (x:Int):(s.learnM x).n=s.n:=by unfold KnS.learnM;split <;> rfl
theorem KnS.learnAll_n:∀ (xs:List Int) (s:KnS),(s.learnAll xs).n=s.n
 | [],_=>rfl
 | x::xs,s=>(KnS.learnAll_n xs (s.learnM x)).trans (s.learnM_n x)
theorem KnS.learnM_m (s:KnS) {x t:Int}(h:x≠t):XE (s.learnM x).m t=XE s.m t:=by
 unfold KnS.learnM
 split
 ·simp only[XV]
  rw[if_neg (Ne.symm h)]
 ·rfl
theorem KnS.learnAll_m {t:Int}:∀ (xs:List Int) (s:KnS),(∀x∈xs,x≠t)→XE (s.learnAll xs).m t=XE s.m t
 | [],_,_=>rfl
 | x::xs,s,h=>(KnS.learnAll_m xs (s.learnM x) fun y hy=>h y (List.mem_cons_of_mem _ hy)).trans (s.learnM_m (h x (List.mem_cons_self ..)))
theorem KnS.fails_m (s:KnS) (f t:Int):(s.fails f t).m=s.m:=by
 unfold KnS.fails KnS.learnN
 split
 ·rfl
 ·split
  ·split <;> rfl
  ·rfl
theorem KnS.fails_n (s:KnS) (f t:Int) {x:Int}(h:x≠t):XE (s.fails f t).n x=XE s.n x:=by
 unfold KnS.fails KnS.learnN
 split
 ·rfl
 ·split
  ·split
   ·simp only[XV]
    rw[if_neg h]
   ·rfl
  ·rfl
theorem KnS.left_same {g:Hist'}{s s':KnS}{t k:Nat}(h:∀x:Int,x≠t→XE s.n x=XE s'.n x):s.left g t k=s'.left g t k:=by
 unfold KnS.left
 refine List.filter_congr fun x hx=>?_
 rw[h x (jsz hx)]
def KnS.told (s:KnS) (g:Hist') (t:Nat) (l:List Op'):Nat→Bool × List Int
 | 0=>(false,[])
 | k+1=>match l[k]? with
  | some o=>
   if o.v.kind == 2 || !XL g t k then s.told g t l k else
   if (s.left g t k).length=0 then (true,(s.told g t l k).2) else
   if (s.left g t k).length == 1 && decide (0≤(s.left g t k).headD 0) then ((s.told g t l k).1,(s.told g t l k).2++[(s.left g t k).headD 0]) else s.told g t l k
  | none=>s.told g t l k
theorem KnS.left_mem {g:Hist'}{s:KnS}{t k:Nat}(h:(s.left g t k).length≠0):(s.left g t k).headD 0≠t:=by
 cases hl:s.left g t k with
 | nil=>rw[hl]at h;exact absurd rfl h
 | cons x r=>
  have hm:x∈s.left g t k:=by rw[hl];exact List.mem_cons_self ..
  exact jsz (List.mem_filter.1 hm).1
theorem KnS.told_ne {g:Hist'}{s:KnS}{t:Nat}{l:List Op'}:∀k,∀x∈(s.told g t l k).2,x≠t
 | 0,x,h=>by simp[KnS.told]at h
 | k+1,x,h=>by
  simp only[KnS.told]at h
  split at h
  ·split at h
   ·exact KnS.told_ne k x h
   ·split at h
    ·exact KnS.told_ne k x h
    ·rename_i h0
     split at h
     ·rcases List.mem_append.1 h with h|h
      ·exact KnS.told_ne k x h
      ·rw[List.mem_singleton.1 h]
       exact KnS.left_mem h0
     ·exact KnS.told_ne k x h
  ·exact KnS.told_ne k x h
theorem KnS.ops_told {g:Hist'}(s:KnS) (f:Int) (t:Nat) (l:List Op'):∀k,s.ops g f t l k=(if (s.told g t l k).1 then s.fails f t else s).learnAll (if 0<XE s.m t then (s.told g t l k).2 else [])
 | 0=>by
  simp only[KnS.ops,KnS.told,Bool.false_eq_true,if_false]
  split <;> rfl
 | k+1=>by
  cases ho:l[k]? with
  | none=>
   simp only[KnS.ops,KnS.told,ho]
   exact KnS.ops_told s f t l k
  | some o=>
   simp only[KnS.ops,KnS.told,ho]
   rw[KnS.ops_told s f t l k]
   have hne:=KnS.told_ne (g:=g) (s:=s) (t:=t) (l:=l) k
   generalize hB:(if (s.told g t l k).1 then s.fails f t else s)=B
   generalize hL:(if 0<XE s.m t then (s.told g t l k).2 else [])=L
   have hBn:∀x:Int,x≠t→XE B.n x=XE s.n x:=fun x hx=>by
    rw[← hB];split
    ·exact s.fails_n f t hx
    ·rfl
   have hBm:XE B.m t=XE s.m t:=by
    rw[← hB];split
    ·rw[s.fails_m]
    ·rfl
   have hLne:∀x∈L,x≠(t:Int):=fun x hx=>by
    rw[← hL]at hx
    split at hx
    ·exact hne x hx
    ·simp at hx
   have hleft:(B.learnAll L).left g t k=s.left g t k:=KnS.left_same fun x hx=>by rw[KnS.learnAll_n];exact hBn x hx
   have hm:XE (B.learnAll L).m t=XE s.m t:=by rw[KnS.learnAll_m L B hLne];exact hBm
   have hBf:B.fails f t=s.fails f t:=by
    rw[← hB];split
    ·exact s.fails_fails f t
    ·rfl
   unfold KnS.op
   rw[hleft,hm]
   by_cases c0:(o.v.kind == 2 || !XL g t k)=true
   ·rw[if_pos c0,if_pos c0,hB,hL]
   ·rw[if_neg c0,if_neg c0]
    by_cases c1:(s.left g t k).length=0
    ·rw[if_pos c1,if_pos c1,KnS.fails_learnAll,hBf]
     simp only[if_true]
     rw[hL]
    ·rw[if_neg c1,if_neg c1]
     by_cases c2:((s.left g t k).length == 1 && decide (0≤(s.left g t k).headD 0))=true
     ·rw[if_pos c2]
      simp only[hB]
      simp only[Bool.and_eq_true]at c2
      by_cases c3:0<XE s.m t
      ·rw[if_pos (by simp only[c2.1,c2.2,c3,decide_true,Bool.and_self]),if_pos c3,← hL,if_pos c3,KnS.learnAll_append]
      ·rw[if_neg (by simp[c3]),if_neg c3,← hL,if_neg c3]
     ·rw[if_neg c2,hB,hL,if_neg ?_]
      intro h
      simp only[Bool.and_eq_true]at h c2
      exact c2 ⟨h.1,h.2.1⟩
theorem jio {g:Hist'}{s:KnS}{r:RwS}{t:Nat}(hd:∀i,i<g.ts.length→i≠t→r.d.getD i false=decide (0<XE s.n i)) (hn:∀x:Int,x<0→XE s.n x=0) (l:List Op'):∀k,s.told g t l k=r.sole g t l k
 | 0=>rfl
 | k+1=>by
  have ih:=jio hd hn l k
  cases ho:l[k]? with
  | none=>simp only[KnS.told,RwS.sole,ho,ih]
  | some o=>
   have hl:=jpt (k:=k) hd hn
   simp only[KnS.told,RwS.sole,ho,ih,← hl]
   rw[Bool.or_comm (!XL g t k) (o.v.kind == 2)]
   by_cases c0:(o.v.kind == 2 || !XL g t k)=true
   ·rw[if_pos c0,if_pos c0]
   ·rw[if_neg c0,if_neg c0]
    by_cases c1:(s.left g t k).length=0
    ·rw[if_pos c1]
     simp[c1]
    ·rw[if_neg c1]
     have c1':((s.left g t k).length == 0)=false:=by simpa using c1
     rw[c1',Bool.or_false]
     split <;> rfl
def KnS.Pos (s:KnS):Prop:=∀x:Int,0≤XE s.m x∧0≤XE s.n x
theorem KnS.Pos.learnM {s:KnS}(h:s.Pos) (t:Int):(s.learnM t).Pos:=by
 unfold KnS.learnM
 split
 ·intro x
  refine⟨?_,(h x).2⟩
  simp only[XV]
  split
  ·decide
  ·exact(h x).1
 ·exact h
theorem KnS.Pos.learnN {s:KnS}(h:s.Pos) (t:Int):(s.learnN t).Pos:=by
 unfold KnS.learnN
 split
 ·intro x
  refine⟨(h x).1,?_⟩
  simp only[XV]
  split
  ·decide
  ·exact(h x).2
 ·exact h
theorem KnS.Pos.fails {s:KnS}(h:s.Pos) (f t:Int):(s.fails f t).Pos:=by
 unfold KnS.fails
 split
 ·exact h
 ·split
  ·exact h.learnN t
  ·exact h
theorem KnS.Pos.learnAll:∀ (xs:List Int) {s:KnS},s.Pos→(s.learnAll xs).Pos
 | [],_,h=>h
 | x::xs,_,h=>KnS.Pos.learnAll xs (h.learnM x)
def RwS.comAll (r:RwS):List Int→RwS
 | []=>r
 | x::xs=>(r.com x.toNat).comAll xs
theorem RwS.com_c {r:RwS}{x t:Nat}(h:r.c.getD t false=true):(r.com x).c.getD t false=true:=by
 unfold RwS.com
 split
 ·exact h
 ·rw[List.getD_eq_getElem?_getD]at h
  simp only[List.getD_eq_getElem?_getD,List.getElem?_set]
  split
  ·rename_i e
   subst e
   split
   ·rfl
   ·rename_i e
    rw[List.getElem?_eq_none zO]at h
    cases h
  ·exact h
theorem RwS.learn_all (t:Nat):∀ (xs:List Int) (r:RwS),r.learn t xs=if r.c.getD t false then r.comAll xs else r
 | [],r=>by simp[RwS.learn,RwS.comAll]
 | x::xs,r=>by
  simp only[RwS.learn,RwS.comAll]
  by_cases h:r.c.getD t false=true
  ·rw[if_pos h,if_pos h]
   have hc:=RwS.com_c (x:=x.toNat) h
   unfold RwS.com at hc ⊢
   by_cases h2:r.c.getD x.toNat false=true
   ·rw[if_pos h2,if_pos h2,RwS.learn_all t xs r,if_pos h]
   ·rw[if_neg h2]at hc
    rw[if_neg h2,if_neg h2,RwS.learn_all t xs,if_pos hc]
  ·rw[if_neg h,if_neg h]
theorem Alike.learnAll {n:Nat}:∀ (xs:List Int) {s:KnS}{r:RwS},Alike n s r→s.Pos→(∀x∈xs,0≤x∧x<n)→Alike n (s.learnAll xs) (r.comAll xs)
 | [],_,_,h,_,_=>h
 | x::xs,s,r,h,hp,hx=>by
  obtain⟨h0,h1⟩:=hx x (List.mem_cons_self ..)
  have hl:=h.learnM (t:=x.toNat) zO (hp _).1
  have e:((x.toNat:Nat):Int)=x:=Int.toNat_of_nonneg h0
  rw[e]at hl
  exact Alike.learnAll xs hl (hp.learnM x) fun y hy=>hx y (List.mem_cons_of_mem _ hy)
theorem KnS.left_lt {g:Hist'}{s:KnS}{t k:Nat}(h:(s.left g t k).length≠0):(s.left g t k).headD 0<g.ts.length:=by
 cases hl:s.left g t k with
 | nil=>rw[hl]at h;exact absurd rfl h
 | cons x r=>
  have hm:x∈s.left g t k:=by rw[hl];exact List.mem_cons_self ..
  exact js0 (List.mem_filter.1 hm).1
theorem KnS.told_lt {g:Hist'}{s:KnS}{t:Nat}{l:List Op'}:∀k,∀x∈(s.told g t l k).2,0≤x∧x<g.ts.length
 | 0,x,h=>by simp[KnS.told]at h
 | k+1,x,h=>by
  simp only[KnS.told]at h
  split at h
  ·split at h
   ·exact KnS.told_lt k x h
   ·split at h
    ·exact KnS.told_lt k x h
    ·rename_i h0
     split at h
     ·rename_i h1
      simp only[Bool.and_eq_true,decide_eq_true_eq]at h1
      rcases List.mem_append.1 h with h|h
      ·exact KnS.told_lt k x h
      ·rw[List.mem_singleton.1 h]
       exact⟨h1.2,KnS.left_lt h0⟩
     ·exact KnS.told_lt k x h
  ·exact KnS.told_lt k x h
theorem Alike.txn {g:Hist'}{s:KnS}{r:RwS}(h:Alike g.ts.length s r) (hp:s.Pos) {t:Nat}(ht:t<g.ts.length) (f:Int) (l:List Op') :
 Alike g.ts.length (s.txn g t f l) (r.txn g t f l)∧(s.txn g t f l).Pos:=by
 unfold KnS.txn
 rw[KnS.ops_told]
 generalize hs1:(if (jh7 g t).isEmpty then s else s.fails f t)=s1
 have hn1:∀x:Int,x≠t→XE s1.n x=XE s.n x:=fun x hx=>by
  rw[← hs1];split
  ·rfl
  ·exact s.fails_n f t hx
 have hm1:s1.m=s.m:=by
  rw[← hs1];split
  ·rfl
  ·rw[s.fails_m]
 have hsole:=jio (s:=s1) (r:=r) (t:=t) (g:=g) (fun i hi hne=>by rw[h.2.2.2.1 i hi,hn1 i zO]) (fun x hx=>by rw[hn1 x zO];exact h.2.2.2.2.2.2 x hx) l l.length
 have hlt:=KnS.told_lt (g:=g) (s:=s1) (t:=t) (l:=l) l.length
 rw[hsole]at hlt
 rw[hsole,hm1]
 unfold RwS.txn
 rw[RwS.learn_all]
 have base:(if (r.sole g t l l.length).1 then s1.fails f t else s1)=if (r.sole g t l l.length).1 || !(jh7 g t).isEmpty then s.fails f t else s:=by
  rw[← hs1]
  cases (jh7 g t).isEmpty <;> cases (r.sole g t l l.length).1 <;> simp[KnS.fails_fails]
 rw[base]
 generalize r.sole g t l l.length=q at hlt ⊢
 have hB:Alike g.ts.length (if q.1 || !(jh7 g t).isEmpty then s.fails f t else s) (if q.1 || !(jh7 g t).isEmpty then r.fails f t else r)∧(if q.1 || !(jh7 g t).isEmpty then s.fails f t else s).Pos∧(if q.1 || !(jh7 g t).isEmpty then s.fails f t else s).m=s.m:=by
  split
  ·exact⟨h.fails ht (hp _).2,hp.fails f t,s.fails_m f t⟩
  ·exact⟨h,hp,rfl⟩
 generalize (if q.1 || !(jh7 g t).isEmpty then s.fails f t else s)=B at hB ⊢
 generalize (if q.1 || !(jh7 g t).isEmpty then r.fails f t else r)=R at hB ⊢
 obtain⟨hA,hP,hM⟩:=hB
 have hc:=hA.2.2.1 t ht
 rw[hM]at hc
 by_cases h0:0<XE s.m t
 ·have hc':R.c.getD t false=true:=by rw[hc];simp[h0]
  rw[if_pos h0,if_pos hc']
  exact⟨hA.learnAll _ hP hlt,hP.learnAll _⟩
 ·have hc':¬ R.c.getD t false=true:=by rw[hc];simp[h0]
  rw[if_neg h0,if_neg hc']
  exact⟨hA,hP⟩
def RwS.round (r:RwS) (g:Hist'):Nat→RwS
 | 0=>{ r with more:=false }
 | i+1=>match g.ts[i]? with
  | some t=>(r.round g i).txn g i t.f t.ops
  | none=>r.round g i
def RwS.iter (g:Hist'):Nat→RwS→RwS
 | 0,r=>r
 | k+1,r=>if r.more then RwS.iter g k (r.round g g.ts.length) else r
theorem Alike.round {g:Hist'}{s:KnS}{r:RwS}(h:Alike g.ts.length s r) (hp:s.Pos):∀i,i≤g.ts.length→Alike g.ts.length (s.round g i) (r.round g i)∧(s.round g i).Pos
 | 0,_=>⟨⟨h.1,h.2.1,h.2.2.1,h.2.2.2.1,h.2.2.2.2.1,rfl,h.2.2.2.2.2.2⟩,hp⟩
 | i+1,hi=>by
  obtain⟨hA,hP⟩:=Alike.round h hp i zO
  simp only[KnS.round,RwS.round,List.getElem?_eq_getElem (show i<g.ts.length by omega)]
  exact hA.txn hP zO _ _
theorem Alike.iter {g:Hist'}:∀ (k:Nat) {s:KnS}{r:RwS},Alike g.ts.length s r→s.Pos→Alike g.ts.length (KnS.iter g k s) (RwS.iter g k r)∧(KnS.iter g k s).Pos
 | 0,_,_,h,hp=>⟨h,hp⟩
 | k+1,s,r,h,hp=>by
  simp only[KnS.iter,RwS.iter,← h.2.2.2.2.2.1]
  split
  ·obtain⟨hA,hP⟩:=Alike.round h hp g.ts.length (Nat.le_refl _)
   exact Alike.iter k hA hP
  ·exact⟨h,hp⟩
@[simp] theorem j4q (v:Val'):(JH v).all V.leaf=true:=rfl
end Go.Pv.T
namespace Go.Pv.T
open Go Go.Pv
end Go.Pv.T
namespace Go.Pv.T
open Go Go.Pv
end Go.Pv.T
namespace Go.Pv.T
open Go Go.Pv
def ValsP (ob:ZO) (p:Nat→Prop) (l:List Val') (v:V):Prop:=∃u,v=.osl (2*u+1) u 0 l.length 2∧ob (2*u+1)=some ⟨u,.cells (l.flatMap JH)⟩∧p u
theorem ValsP.frame {ob ob':ZO}{p p':Nat→Prop}{l:List Val'}{v:V}(h:ValsP ob p l v) (hf:∀u,p u→ob' (2*u+1)=ob (2*u+1)) (hh:∀u,p u→p' u):ValsP ob' p' l v:=by
 obtain⟨u,h2,h3,h4⟩:=h
 exact⟨u,h2,(hf u h4).trans h3,hh u h4⟩
end Go.Pv.T
namespace Go.Pv.T
open Go Go.Pv
end Go.Pv.T
namespace Go.Pv.T
open Go Go.Pv
end Go.Pv.T
namespace Go.Pv.T
open Go Go.Pv
def jid (g:Hist') (cs:List Bool) (i:Nat):Bool:=match g.ts[i]? with
 | some t=>if t.f=3 then cs.getD (numsTo Jv g.ts i).length false else t.f == 1
 | none=>false
def opR (g:Hist') (lo:List Val') (i k:Nat) (o:Op'):Op':=if o.v.kind=2 then { o with v:=lo.getD (Jr g i k).length ⟨0,0⟩ } else o
def jfk (g:Hist') (cs:List Bool) (lo:List Val') (i:Nat) (t:Txn'):Txn':={ s:=t.s,f:=if jid g cs i then 1 else 2,nl:=false,ops:=t.ops.mapIdx (opR g lo i) }
def rawH (g:Hist') (cs:List Bool) (lo:List Val'):Hist':=⟨false,g.ss,false,g.ks,g.ts.isEmpty,g.ts.mapIdx (jfk g cs lo)⟩
def loB (v:Val'):Bool:=v.kind == 1 || (v.kind == 0 && v.n == 0)
def Y1 (g:Hist'):Bool:=(numsTo JF g.ts g.ts.length).any (fun i=>!(jh7 g i).isEmpty) || (choR g).any fun c=>c.2.isEmpty
section
variable {g:Hist'}{cs:List Bool}{lo:List Val'}
theorem WW:(rawH g cs lo).ts.length=g.ts.length:=by simp[rawH]
theorem Yr {i:Nat}(h:i<g.ts.length):(rawH g cs lo).ts[i]'(by rw[WW];exact h)=jfk g cs lo i g.ts[i]:=by simp[rawH]
theorem Yr? (i:Nat):(rawH g cs lo).ts[i]? = (g.ts[i]?).map (jfk g cs lo i):=by simp[rawH]
theorem jc7 (i:Nat) (t:Txn'):(jfk g cs lo i t).ops.length=t.ops.length:=by simp[jfk]
theorem j1z (i k:Nat) (o:Op'):(opR g lo i k o).w=o.w:=by unfold opR;split <;> rfl
theorem jhj (i k:Nat) (o:Op'):(opR g lo i k o).key=o.key:=by unfold opR;split <;> rfl
theorem jzt (i k:Nat) (key:Int) (o:Op'):wkB key (opR g lo i k o)=wkB key o:=by unfold wkB;rw[j1z,jhj]
theorem jdd {i k:Nat}{o:Op'}(h:¬ o.v.kind=2):opR g lo i k o=o:=by unfold opR;rw[if_neg h]
theorem j2e {v:Val'}(h:loB v=true):jim v=true:=by
 unfold loB at h;unfold jim
 revert h
 cases v.kind == 1 <;> cases v.kind == 0 <;> cases v.n == 0 <;> simp
theorem j3i (hl:lo.all loB=true) (n:Nat):loB (lo.getD n ⟨0,0⟩)=true:=by
 rw[List.getD_eq_getElem?_getD]
 cases h:lo[n]? with
 | none=>rfl
 | some v=>exact List.all_eq_true.1 hl v (List.mem_of_getElem? h)
theorem j10 {i k:Nat}{o:Op'}(hl:lo.all loB=true) (h:jim o.v=true):jim (opR g lo i k o).v=true:=by
 unfold opR
 split
 ·exact j2e (j3i hl _)
 ·exact h
theorem jhq {α β:Type}(f:α→β) (k:Nat→α→α) (h:∀n x,f (k n x)=f x) (l:List α):(l.mapIdx k).map f=l.map f:=by
 apply List.ext_getElem?
 intro n
 rw[List.getElem?_map,List.getElem?_map,List.getElem?_mapIdx]
 cases l[n]? <;> simp[h]
theorem jzz (hm:XC g=true) {t:Txn'}{o:Op'}(ht:t∈g.ts) (ho:o∈t.ops):opB g o=true:=by
 unfold XC at hm
 simp only[Bool.and_eq_true,List.all_eq_true]at hm
 exact hm.2.2.1 o (List.mem_flatMap.2 ⟨t,ht,ho⟩)
theorem jhd (hm:XC g=true) (hl:lo.all loB=true):XC (rawH g cs lo)=true:=by
 have hop:=fun t o=>@jzz g hm t o
 unfold XC at hm ⊢
 simp only[Bool.and_eq_true,List.all_eq_true]at hm ⊢
 obtain⟨h1,h2,h3,h4⟩:=hm
 refine⟨?_,?_,?_,?_⟩
 ·unfold XR at h1 ⊢
  rw[WW]
  exact h1
 ·intro x hx
  obtain⟨i,hi⟩:=List.mem_iff_getElem?.1 hx
  rw[Yr?]at hi
  obtain⟨t,ht,rfl⟩:=Option.map_eq_some_iff.1 hi
  have:=h2 t (List.mem_of_getElem? ht)
  unfold jc4 at this ⊢
  rw[jc7]
  simp only[Bool.and_eq_true,decide_eq_true_eq]at this ⊢
  refine⟨this.1,?_,?_,this.2.2.2⟩ <;> (simp only[jfk];split <;> decide)
 ·intro x hx
  unfold jab at hx
  rw[List.mem_flatMap]at hx
  obtain⟨y,hy,hx⟩:=hx
  obtain⟨i,hi⟩:=List.mem_iff_getElem?.1 hy
  rw[Yr?]at hi
  obtain⟨t,ht,rfl⟩:=Option.map_eq_some_iff.1 hi
  obtain⟨k,hk⟩:=List.mem_iff_getElem?.1 hx
  simp only[jfk,List.getElem?_mapIdx]at hk
  obtain⟨o,ho,rfl⟩:=Option.map_eq_some_iff.1 hk
  have:=hop t o (List.mem_of_getElem? ht) (List.mem_of_getElem? ho)
  unfold opB at this ⊢
  simp only[Bool.and_eq_true]at this ⊢
  rw[jhj,j1z]
  refine⟨this.1,j10 hl this.2.1,?_⟩
  cases hw:o.w
  ·rfl
  ·rw[hw]at this
   have hk1:o.v.kind=1:=by simpa using this.2.2
   rw[jdd zO]
   simp[hk1]
 ·unfold jks at h4 ⊢
  have e1:usesS (rawH g cs lo)=usesS g:=jhq (fun t:Txn'=>t.s) (jfk g cs lo) (fun _ _=>rfl) g.ts
  have e2:usesK (rawH g cs lo)=usesK g:=by
   unfold usesK jab
   rw[List.map_flatMap,List.map_flatMap,List.flatMap_def,List.flatMap_def]
   congr 1
   exact jhq (fun t:Txn'=>t.ops.map (·.key)) (jfk g cs lo) (fun n t=>jhq (fun o:Op'=>o.key) (opR g lo n) (fun k o=>jhj n k o) t.ops) g.ts
  rw[e1,e2]
  exact h4
end
theorem js9 {α:Type}(k0:Int) (b:α) (m:List (Int × α)) (k:Int) (a:α):YR ((k0,b)::m) k a=if k=k0 then (k,a)::m else (k0,b)::YR m k a:=by
 unfold YR
 rw[jg]
 by_cases h:k=k0
 ·simp[h]
 ·rw[if_neg h,if_neg h]
  cases jg m k <;> simp
theorem Q5 {α:Type}(k:Int) (a:α) (k':Int):∀m:List (Int × α),(jg (YR m k a) k').map (·.2)=if k'=k then some a else (jg m k').map (·.2)
 | []=>by
  by_cases h:k'=k <;> simp[YR,jg,h]
 | (k0,b)::m=>by
  rw[js9]
  have ih:=Q5 k a k' m
  by_cases h:k=k0
  ·subst h
   rw[if_pos rfl,jg,jg]
   by_cases h':k'=k <;> simp[h']
  ·rw[if_neg h,jg,jg]
   by_cases h':k'=k0
   ·subst h'
    simp[show ¬ k'=k from fun e=>h e.symm]
   ·rw[if_neg h',if_neg h']
    simp only[Option.map_map]
    have e:((fun x:Nat × α=>x.2) ∘ fun p:Nat × α=>(p.1+1,p.2))=fun x=>x.2:=rfl
    rw[e]
    exact ih
theorem jjl (m:List (Int × Int)) (k a k':Int):XE (YR m k a) k'=if k'=k then a else XE m k':=by
 unfold XE
 rw[Q5]
 split <;> rfl
def Cnt (m:List (Int × Int)) (L:List Int):Prop:=∀k,XE m k=(L.count k:Nat)
theorem Cnt.nil:Cnt [] []:=fun _=>rfl
theorem Cnt.snoc {m:List (Int × Int)}{L:List Int}(h:Cnt m L) (k:Int):Cnt (YR m k (XE m k+1)) (L++[k]):=fun k'=>by
 rw[jjl,h k',h k,List.count_append]
 by_cases e:k'=k
 ·subst e;simp
 ·rw[if_neg e]
  have:List.count k' [k]=0:=List.count_eq_zero.2 (by simpa using e)
  omega
theorem Cnt.le {m:List (Int × Int)}{L:List Int}(h:Cnt m L) (k:Int):0≤XE m k∧XE m k≤L.length:=by
 rw[h k]
 have:=List.count_le_length (a:=k) (l:=L)
 omega
theorem jgk {α:Type}{k:α→α}{y:α}:∀ {l:List α}{i:Nat},y∈l.modify i k→y∈l∨∃x,l[i]? = some x∧y=k x
 | [],i,h=>by simp at h
 | x::l,0,h=>by
  rw[List.modify_cons]at h
  simp only[if_true,List.mem_cons]at h
  rcases h with rfl|h
  ·exact .inr ⟨x,rfl,rfl⟩
  ·exact .inl (List.mem_cons_of_mem _ h)
 | x::l,i+1,h=>by
  rw[List.modify_cons]at h
  simp only[Nat.add_one_ne_zero,if_false,Nat.add_sub_cancel,List.mem_cons]at h
  rcases h with rfl|h
  ·exact .inl (List.mem_cons_self ..)
  ·rcases jgk h with h|⟨z,h1,h2⟩
   ·exact .inl (List.mem_cons_of_mem _ h)
   ·exact .inr ⟨z,by simpa using h1,h2⟩
theorem jla {g:Hist'}{a b:Nat}{t:Txn'}{o:Op'}(hm:XC g=true) (ht:g.ts[a]? = some t) (ho:t.ops[b]? = some o):opAt g a b=some o:=by
 obtain⟨h1,h2⟩:=List.getElem?_eq_some_iff.1 ht
 obtain⟨h3,h4⟩:=List.getElem?_eq_some_iff.1 ho
 unfold opAt
 simp only[Int.toNat_natCast]
 have hg:g.ts.getD a ⟨0,0,true,[]⟩=t:=by rw[JQ h1,h2]
 have hlt:b<(g.ts.getD a ⟨0,0,true,[]⟩).ops.length:=by rw[hg];exact h3
 rw[hm,if_pos (by simp only[Bool.true_and,Bool.and_eq_true,decide_eq_true_eq];omega),hg]
 exact ho
section
variable {g:Hist'}{cs:List Bool}{lo:List Val'}
theorem mem_nums {p:Txn'→Bool}{l:List Txn'}{x:Int}:∀ {n:Nat},x∈numsTo p l n ↔ ∃i:Nat,i<n∧x=i∧∃t,l[i]? = some t∧p t=true
 | 0=>by simp[numsTo]
 | n+1=>by
  simp only[numsTo,List.mem_append,mem_nums (n:=n)]
  constructor
  ·rintro(⟨i,h1,h2⟩|h)
   ·exact⟨i,zO,h2⟩
   ·cases hn:l[n]? with
    | none=>rw[hn]at h;simp at h
    | some t=>
     rw[hn]at h
     simp only at h
     split at h
     ·rename_i hp
      exact⟨n,zO,by simpa using h,t,hn,hp⟩
     ·simp at h
  ·rintro⟨i,h1,h2,t,ht,hp⟩
   rcases Nat.lt_succ_iff_lt_or_eq.1 h1 with h|h
   ·exact .inl ⟨i,h,h2,t,ht,hp⟩
   ·subst h
    right
    rw[ht]
    simp[hp,h2]
theorem j1s (i:Nat) (t:Txn'):(jfk g cs lo i t).f=if jid g cs i then 1 else 2:=rfl
theorem jav (hm:XC g=true) {i:Nat}{t:Txn'}(ht:t∈g.ts) (key:Int):∀n,J4 key (jfk g cs lo i t).ops n=J4 key t.ops n
 | 0=>rfl
 | n+1=>by
  rw[J4,J4,jav hm ht key n]
  simp only[jfk,List.getElem?_mapIdx]
  cases ho:t.ops[n]? with
  | none=>rfl
  | some o=>
   simp only[Option.map_some,jzt]
   split
   ·rename_i hw
    have hb:=jzz hm ht (List.mem_of_getElem? ho)
    unfold opB at hb
    unfold wkB at hw
    simp only[Bool.and_eq_true]at hw hb
    have hk:o.v.kind=1:=by simpa[hw.1] using hb.2.2
    rw[jdd zO]
   ·rfl
theorem j1u {i:Nat}{t:Txn'}(key:Int):(jfk g cs lo i t).ops.any (wkB key)=t.ops.any (wkB key):=by
 have:(jfk g cs lo i t).ops.map (wkB key)=t.ops.map (wkB key):=jhq (wkB key) (opR g lo i) (fun n x=>jzt i n key x) t.ops
 have h:=congrArg (fun l:List Bool=>l.any id) this
 simpa[List.any_map] using h
theorem jk3 {key x:Int}(h:x∈writersH (rawH g cs lo) key):x∈writersH g key∧∃i:Nat,x=i∧jid g cs i=true:=by
 unfold writersH at h ⊢
 rw[WW]at h
 obtain⟨i,h1,h2,t',ht',hp⟩:=mem_nums.1 h
 rw[Yr?]at ht'
 obtain⟨t,ht,rfl⟩:=Option.map_eq_some_iff.1 ht'
 unfold wrB at hp
 rw[j1u,Bool.and_eq_true,j1s]at hp
 have hc:jid g cs i=true:=by
  cases hc:jid g cs i
  ·rw[hc]at hp;simp at hp
  ·rfl
 refine⟨mem_nums.2 ⟨i,h1,h2,t,ht,?_⟩,i,h2,hc⟩
 unfold wrB
 rw[hp.2,Bool.and_true]
 unfold jid at hc
 rw[ht]at hc
 simp only at hc
 split at hc
 ·rename_i hf;simp[hf]
 ·have:t.f=1:=by simpa using hc
  simp[this]
theorem jr5 (hm:XC g=true) (hl:lo.all loB=true) (key:Int) {i:Nat}(h:i<g.ts.length):XX (rawH g cs lo) key i=XX g key i:=by
 rw[jb5 (jhd hm hl) key (by rw[WW];exact h),jb5 hm key h,Yr h,jc7,jav hm (List.getElem_mem h)]
theorem jna (hm:XC g=true) (hl:lo.all loB=true) {i k:Nat}{t:Txn'}{o:Op'}(ht:g.ts[i]? = some t) (ho:t.ops[k]? = some o):opAt (rawH g cs lo) i k=some (opR g lo i k o) :=
 jla (jhd hm hl) (t:=jfk g cs lo i t) (by rw[Yr?,ht];rfl) (by simp[jfk,ho])
theorem jr4 (hm:XC g=true) (hl:lo.all loB=true) {i k:Nat}{t:Txn'}{o:Op'}(ht:g.ts[i]? = some t) (ho:t.ops[k]? = some o):XL (rawH g cs lo) i k=XL g i k:=by
 obtain⟨h1,h2⟩:=List.getElem?_eq_some_iff.1 ht
 unfold XL jk8
 rw[jna hm hl ht ho,jla hm ht ho]
 simp only[j1z,jhj,Int.toNat_natCast]
 rw[JQ (by rw[WW];exact h1),JQ h1,Yr h1,jav hm (List.getElem_mem h1)]
theorem j51 (hm:XC g=true) (hl:lo.all loB=true) {i k:Nat}{t:Txn'}{o:Op'}(ht:g.ts[i]? = some t) (ho:t.ops[k]? = some o) (h2:¬ o.v.kind=2) {x:Int}(h:x∈ofH (rawH g cs lo) i k):x∈ofH g i k∧(x = -1∨∃j:Nat,x=j∧jid g cs j=true):=by
 unfold ofH at h ⊢
 rw[jna hm hl ht ho,jdd h2]at h
 rw[jla hm ht ho]
 simp only at h ⊢
 split at h
 ·simp at h
 ·rename_i hw
  rw[if_neg hw]
  unfold ofL at h ⊢
  rw[List.mem_append]at h ⊢
  rcases h with h|h
  ·refine⟨.inl h,.inl ?_⟩
   unfold js at h
   split at h
   ·simp at h
   ·simpa using h
  ·obtain⟨hx,hf⟩:=List.mem_filter.1 h
   obtain⟨hx',j,rfl,hc⟩:=jk3 hx
   have hj:j<g.ts.length:=by
    obtain⟨i',h1,h2,_⟩:=mem_nums.1 hx'
    omega
   refine⟨.inr (List.mem_filter.2 ⟨hx',?_⟩),.inr ⟨j,rfl,hc⟩⟩
   rw[jr5 hm hl _ hj]at hf
   exact hf
theorem badTo_mem {ops:List Op'}{x:Int}:∀ {n:Nat},x∈jmb ops n ↔ ∃k:Nat,k<n∧x=k∧∃o,ops[k]? = some o∧badO ops k o=true
 | 0=>by simp[jmb]
 | n+1=>by
  simp only[jmb,List.mem_append,badTo_mem (n:=n)]
  constructor
  ·rintro(⟨i,h1,h2⟩|h)
   ·exact⟨i,zO,h2⟩
   ·cases hn:ops[n]? with
    | none=>rw[hn]at h;simp at h
    | some t=>
     rw[hn]at h
     simp only at h
     split at h
     ·rename_i hp
      exact⟨n,zO,by simpa using h,t,hn,hp⟩
     ·simp at h
  ·rintro⟨i,h1,h2,t,ht,hp⟩
   rcases Nat.lt_succ_iff_lt_or_eq.1 h1 with h|h
   ·exact .inl ⟨i,h,h2,t,ht,hp⟩
   ·subst h
    right
    rw[ht]
    simp[hp,h2]
theorem ju5 (hm:XC g=true) {i:Nat}{t:Txn'}(ht:g.ts[i]? = some t):jh7 g i=jmb t.ops t.ops.length:=by
 obtain⟨h1,h2⟩:=List.getElem?_eq_some_iff.1 ht
 unfold jh7 Xw
 rw[hm,if_pos (by simp;omega)]
 simp only[Int.toNat_natCast]
 rw[JQ h1,h2]
theorem j1t (hm:XC g=true) (hl:lo.all loB=true) {i:Nat}{t:Txn'}(ht:g.ts[i]? = some t) (h:¬ jh7 g i=[]):¬ jh7 (rawH g cs lo) i=[]:=by
 rw[ju5 hm ht]at h
 rw[ju5 (jhd hm hl) (by rw[Yr?,ht];rfl)]
 obtain⟨x,hx⟩:=List.exists_mem_of_ne_nil _ h
 obtain⟨k,h1,h2,o,ho,hb⟩:=badTo_mem.1 hx
 have:x∈jmb (jfk g cs lo i t).ops (jfk g cs lo i t).ops.length:=by
  refine badTo_mem.2 ⟨k,by rw[jc7];exact h1,h2,opR g lo i k o,by simp[jfk,ho],?_⟩
  have h2k:¬ o.v.kind=2:=by
   unfold badO at hb
   simp only[Bool.and_eq_true]at hb
   simpa using hb.2.1
  rw[jdd h2k]
  unfold badO at hb ⊢
  rw[jav hm (List.mem_of_getElem? ht)]
  exact hb
 intro e
 rw[e]at this
 simp at this
theorem readIn_mem {i:Nat}{p:Int × Int}:∀ {n:Nat},p∈jo g i n ↔ ∃k:Nat,k<n∧p=((i:Int),(k:Int))∧XL g i k=true
 | 0=>by simp[jo]
 | n+1=>by
  simp only[jo,List.mem_append,readIn_mem (n:=n)]
  constructor
  ·rintro(⟨k,h1,h2⟩|h)
   ·exact⟨k,zO,h2⟩
   ·split at h
    ·rename_i hp
     exact⟨n,zO,by simpa using h,hp⟩
    ·simp at h
  ·rintro⟨k,h1,h2,hp⟩
   rcases Nat.lt_succ_iff_lt_or_eq.1 h1 with h|h
   ·exact .inl ⟨k,h,h2,hp⟩
   ·subst h
    right
    simp[hp,h2]
theorem jf9 {i k:Nat}{t:Txn'}(ht:g.ts[i]? = some t) (hc:JF t=true) (hk:k<t.ops.length) (ho:XL g i k=true):∀ {n:Nat},i<n→((i:Int),(k:Int))∈Jp g n
 | 0,h=>by omega
 | n+1,h=>by
  simp only[Jp,List.mem_append]
  rcases Nat.lt_succ_iff_lt_or_eq.1 h with h|h
  ·exact .inl (jf9 ht hc hk ho h)
  ·subst h
   right
   rw[ht]
   simp only[hc,if_true]
   exact readIn_mem.2 ⟨k,hk,rfl,ho⟩
end
section
variable {g:Hist'}{cs:List Bool}{lo:List Val'}
structure Snd (g:Hist') (cs:List Bool) (s:KnS):Prop where
 m:∀x:Int,0<XE s.m x→∃i:Nat,x=i∧jid g cs i=true
 n:∀x:Int,0<XE s.n x→∃i:Nat,x=i∧jid g cs i=false
 h:s.hop=false
theorem Snd.learnM {s:KnS}(h:Snd g cs s) {i:Nat}(hi:jid g cs i=true):Snd g cs (s.learnM i):=by
 unfold KnS.learnM
 split
 ·refine⟨fun x hx=>?_,h.n,h.h⟩
  simp only[XV]at hx
  split at hx
  ·rename_i e;exact⟨i,e,hi⟩
  ·exact h.m x hx
 ·exact h
theorem Snd.learnN {s:KnS}(h:Snd g cs s) {i:Nat}(hi:jid g cs i=false):Snd g cs (s.learnN i):=by
 unfold KnS.learnN
 split
 ·refine⟨h.m,fun x hx=>?_,h.h⟩
  simp only[XV]at hx
  split at hx
  ·rename_i e;exact⟨i,e,hi⟩
  ·exact h.n x hx
 ·exact h
theorem Snd.fails {s:KnS}(h:Snd g cs s) {i:Nat}{t:Txn'}(ht:g.ts[i]? = some t) (hi:jid g cs i=false):Snd g cs (s.fails t.f i):=by
 unfold KnS.fails
 split
 ·rename_i hf
  unfold jid at hi
  rw[ht]at hi
  simp[hf]at hi
 ·split
  ·exact h.learnN hi
  ·exact h
theorem hope (h:Y1 (rawH g cs lo)=false):(∀i:Nat,i<g.ts.length→jid g cs i=true→jh7 (rawH g cs lo) i=[])∧∀p∈readH (rawH g cs lo),¬ ofH (rawH g cs lo) p.1 p.2=[]:=by
 unfold Y1 at h
 rw[Bool.or_eq_false_iff,List.any_eq_false,List.any_eq_false]at h
 constructor
 ·intro i hi hc
  have:=h.1 (i:Int) (mem_nums.2 ⟨i,by rw[WW];exact hi,rfl,jfk g cs lo i g.ts[i],by rw[Yr?,List.getElem?_eq_getElem hi];rfl,by unfold JF;rw[j1s,hc];rfl⟩)
  simpa using this
 ·intro p hp e
  have:=h.2 (false,ofH (rawH g cs lo) p.1 p.2) (List.mem_map.2 ⟨p,hp,rfl⟩)
  simp[e]at this
theorem jtp (hm:XC g=true) (hl:lo.all loB=true) (hh:Y1 (rawH g cs lo)=false) {s:KnS}(h:Snd g cs s) {i k:Nat}{t:Txn'}{o:Op'}(ht:g.ts[i]? = some t) (ho:t.ops[k]? = some o) (h2:¬ o.v.kind=2) (hu:XL g i k=true) (hc:jid g cs i=true) :
 ∃x∈s.left g i k,x = -1∨∃j:Nat,x=j∧jid g cs j=true:=by
 have hne:=(hope hh).2 ((i:Int),(k:Int)) (jf9 (t:=jfk g cs lo i t) (by rw[Yr?,ht];rfl) (by unfold JF;rw[j1s,hc];rfl) (by rw[jc7];exact(List.getElem?_eq_some_iff.1 ho).1) (by rw[jr4 hm hl ht ho];exact hu) (by rw[WW];exact(List.getElem?_eq_some_iff.1 ht).1))
 obtain⟨x,hx⟩:=List.exists_mem_of_ne_nil _ hne
 obtain⟨h3,h4⟩:=j51 hm hl ht ho h2 hx
 refine⟨x,List.mem_filter.2 ⟨h3,?_⟩,h4⟩
 simp only[Bool.not_eq_true',decide_eq_false_iff_not]
 intro hn
 obtain⟨j,hj,hjc⟩:=h.n x hn
 rcases h4 with e|⟨j',e,hc'⟩
 ·omega
 ·have:j=j':=by omega
  subst this
  rw[hjc]at hc'
  cases hc'
theorem Snd.op (hm:XC g=true) (hl:lo.all loB=true) (hh:Y1 (rawH g cs lo)=false) {s:KnS}(h:Snd g cs s) {i k:Nat}{t:Txn'}{o:Op'}(ht:g.ts[i]? = some t) (ho:t.ops[k]? = some o):Snd g cs (s.op g t.f i k o):=by
 unfold KnS.op
 split
 ·exact h
 ·rename_i hc
  simp only[Bool.or_eq_true,not_or,beq_iff_eq,Bool.not_eq_true',Bool.not_eq_false]at hc
  have key:=jtp hm hl hh h ht ho hc.1 hc.2
  split
  ·rename_i h0
   refine h.fails ht ?_
   cases hci:jid g cs i
   ·rfl
   ·obtain⟨x,hx,_⟩:=key hci
    have:=List.length_pos_of_mem hx
    omega
  ·split
   ·rename_i h1
    simp only[Bool.and_eq_true,decide_eq_true_eq,beq_iff_eq]at h1
    obtain⟨i',e,hci⟩:=h.m i h1.2.2
    have:i'=i:=by omega
    subst this
    obtain⟨x,hx,hx2⟩:=key hci
    obtain⟨y,hy⟩:=List.length_eq_one_iff.1 h1.1
    rw[hy]at hx h1 ⊢
    have hxy:x=y:=by simpa using hx
    subst hxy
    rcases hx2 with e|⟨j,e,hj⟩
    ·have:=h1.2.1
     simp only[List.headD_cons]at this
     omega
    ·simp only[List.headD_cons]
     rw[e]
     exact h.learnM hj
   ·exact h
theorem Snd.ops (hm:XC g=true) (hl:lo.all loB=true) (hh:Y1 (rawH g cs lo)=false) {s:KnS}(h:Snd g cs s) {i:Nat}{t:Txn'}(ht:g.ts[i]? = some t):∀n,Snd g cs (s.ops g t.f i t.ops n)
 | 0=>h
 | n+1=>by
  simp only[KnS.ops]
  split
  ·rename_i o ho
   exact(Snd.ops hm hl hh h ht n).op hm hl hh ht ho
  ·exact Snd.ops hm hl hh h ht n
theorem Snd.txn (hm:XC g=true) (hl:lo.all loB=true) (hh:Y1 (rawH g cs lo)=false) {s:KnS}(h:Snd g cs s) {i:Nat}{t:Txn'}(ht:g.ts[i]? = some t):Snd g cs (s.txn g i t.f t.ops):=by
 unfold KnS.txn
 refine Snd.ops hm hl hh ?_ ht _
 split
 ·exact h
 ·rename_i hb
  refine h.fails ht ?_
  cases hci:jid g cs i
  ·rfl
  ·have h1:=j1t (cs:=cs) hm hl ht (by simpa using hb)
   exact absurd ((hope hh).1 i (List.getElem?_eq_some_iff.1 ht).1 hci) h1
theorem Snd.round (hm:XC g=true) (hl:lo.all loB=true) (hh:Y1 (rawH g cs lo)=false) {s:KnS}(h:Snd g cs s):∀n,Snd g cs (s.round g n)
 | 0=>⟨h.m,h.n,h.h⟩
 | n+1=>by
  simp only[KnS.round]
  split
  ·rename_i t ht
   exact(Snd.round hm hl hh h n).txn hm hl hh ht
  ·exact Snd.round hm hl hh h n
theorem Snd.iter (hm:XC g=true) (hl:lo.all loB=true) (hh:Y1 (rawH g cs lo)=false):∀ (n:Nat) {s:KnS},Snd g cs s→Snd g cs (KnS.iter g n s)
 | 0,_,h=>h
 | n+1,s,h=>by
  simp only[KnS.iter]
  split
  ·exact Snd.iter hm hl hh n (h.round hm hl hh _)
  ·exact h
end
abbrev Cs':=List (Bool × List Int)
def hd1 (c:Bool × List Int):Int:=c.2.headD 0
def jhl:Cs'→List Int→Option (List Int)
 | c::cs,m::ms=>match jhl cs ms with
  | some r=>some (m::r)
  | none=>if idxI c.2 m 0+1<c.2.length then some (c.2.getD (idxI c.2 m 0+1).toNat 0::cs.map hd1) else none
 | _,_=>none
end Go.Pv.T
namespace Go.Pv.T
open Go Go.Pv
end Go.Pv.T
namespace Go.Pv.T
open Go Go.Pv
theorem ev39 (h:Hist') (hn:h.ts.length≤1000):Ev E 39 [.agg (j2 h)] (.sl (some (0,1)) false (numsTo JF h.ts h.ts.length).length ((numsTo JF h.ts h.ts.length).flatMap intC)):=by
 refine jU (af:=F39) rfl ?_
 simp[F39,j2]
 refine jS (cs:=[]) rfl rfl rfl ?_
 simp
 refine WL (n:=h.ts.length) (fun k s=>∃i u,k=h.ts.length - i∧i≤h.ts.length∧s.df=[]∧s.fb=0∧s.ro=0∧s.tm 1=.ptr 2 0 0∧s.ob 2=some ⟨0,.cells (j2 h)⟩∧s.tm 4=.int .i64 i∧s.tk u=true ∧
  s.tm 3=.sl (some (u,1)) false (numsTo JF h.ts i).length ((numsTo JF h.ts i).flatMap intC))
  ⟨0,128,by simp[numsTo,j2]⟩ ?_
 rintro k s ⟨i,u,rfl,hi,hd,hfb,hro,h1,o2,h4,hu,h3⟩
 by_cases hlt:i<h.ts.length
 ·simp[h1,o2,h4,j1,j2,hlt,j7 jA,jh jA,jl]
  have hl:=JJ JF h.ts i
  cases hf:h.ts[i].f == 1
  ·simp[h4]
   refine⟨h.ts.length - (i+1),zO,i+1,⟨rfl,zO,hd,hfb,hro,h1,by simpa[j2] using o2,by rw[jy zO zO];simp,u,hu,?_⟩⟩
   rw[h3,JM hlt,JF,hf]
   simp
  ·simp[h3,h4]
   refine jS (cs:=[.int .i64 i]) (by simp[j6]) rfl rfl ?_
   simp
   refine X3 (u:=u) (nl:=false) (n:=(numsTo JF h.ts i).length) (cs:=(numsTo JF h.ts i).flatMap intC) (ys:=[.int .i64 i]) zS (by simp[jv,hu]) (by simp[jI]) zS (by rw[j9 jG]) (by decide) rfl (by simp;omega) (by simp;omega) ?_
   simp[h4,hd,hfb,hro,h1,o2,j2]
   refine⟨h.ts.length - (i+1),zO,i+1,rfl,zO,by rw[jy zO zO];simp,Or.inl ?_⟩
   rw[JM hlt,JF,hf]
   simp[intC]
 ·have:i=h.ts.length:=by omega
  subst this
  simp[h1,o2,h4,j1,j2]
  exact je3 (u:=u) (by simpa using hd) (by simp[h3]) (by simpa using hu)
def XS (f:Nat→Bool):Nat→Bool
 | 0=>true
 | k+1=>XS f k && f k
theorem andTo_iff {f:Nat→Bool}:∀ {n:Nat},XS f n=true ↔ ∀k,k<n→f k=true
 | 0=>by simp[XS]
 | n+1=>by
  rw[XS,Bool.and_eq_true,andTo_iff]
  constructor
  ·rintro⟨h,h'⟩ k hk
   rcases Nat.lt_or_ge k n with h1|h1
   ·exact h k h1
   ·have:k=n:=by omega
    exact this▸h'
  ·exact fun h=>⟨fun k hk=>h k zO,h n zO⟩
theorem jmg {f:Nat→Bool}{k n:Nat}(hk:k<n) (h:f k=false):XS f n=false:=by
 cases e:XS f n with
 | false=>rfl
 | true=>rw[andTo_iff.1 e k hk]at h;cases h
theorem jmh {f f':Nat→Bool}{n:Nat}(h:∀k,k<n→f k=f' k):XS f n=XS f' n:=by
 rw[Bool.eq_iff_iff,andTo_iff,andTo_iff]
 exact⟨fun a k hk=>h k hk▸a k hk,fun a k hk=>(h k hk).symm▸a k hk⟩
def jh1 (f:Nat→Bool):Nat→List Int
 | 0=>[]
 | k+1=>jh1 f k++(if f k then [(k:Int)] else [])
theorem filTo_mem {f:Nat→Bool}{x:Int}:∀ {n:Nat},x∈jh1 f n ↔ ∃k:Nat,k<n∧x=k∧f k=true
 | 0=>by simp[jh1]
 | n+1=>by
  rw[jh1,List.mem_append,filTo_mem]
  constructor
  ·rintro(⟨k,h1,h2,h3⟩|h)
   ·exact⟨k,zO,h2,h3⟩
   ·cases hf:f n
    ·simp[hf]at h
    ·simp[hf]at h;exact⟨n,zO,h,hf⟩
  ·rintro⟨k,h1,h2,h3⟩
   rcases Nat.lt_or_ge k n with h|h
   ·exact .inl ⟨k,h,h2,h3⟩
   ·have:k=n:=by omega
    subst this
    exact .inr (by simp[h3,h2])
def X4 (g:Hist') (a:Nat):Bool:=match g.ts[a]? with|some t=>JF t|none=>false
def sesAt (g:Hist') (a:Nat):Int:=match g.ts[a]? with|some t=>t.s|none=>0
def jmv (p:Txn'→Bool) (ts:List Txn') (a:Nat):Bool:=match ts[a]? with|some t=>p t|none=>false
theorem W9 (p:Txn'→Bool) (ts:List Txn'):∀n,numsTo p ts n=jh1 (jmv p ts) n
 | 0=>rfl
 | n+1=>by
  rw[numsTo,jh1,W9 p ts n]
  congr 1
  unfold jmv
  cases ts[n]? <;> rfl
theorem XG {g:Hist'}{a:Nat}(h:X4 g a=true):a<g.ts.length:=by
 unfold X4 at h
 cases h':g.ts[a]? with
 | none=>rw[h']at h;cases h
 | some t=>exact(List.getElem?_eq_some_iff.1 h').1
def comL (g:Hist'):List Int:=numsTo JF g.ts g.ts.length
theorem comL_mem {g:Hist'}{x:Int}:x∈comL g ↔ ∃k:Nat,x=k∧X4 g k=true:=by
 rw[comL,W9,filTo_mem]
 exact⟨fun⟨k,_,h2,h3⟩=>⟨k,h2,h3⟩,fun⟨k,h2,h3⟩=>⟨k,XG h3,h2,h3⟩⟩
theorem jux {g:Hist'}(h:JC g=true):comH g=comL g:=by rw[comH,if_pos h];rfl
def fromB (R:List (Int × Int)) (M:List Int) (a b:Nat):Bool:=(R.zip M).any fun x=>x.2 == (a:Int) && x.1.1 == (b:Int)
def jfl (g:Hist') (M:List Int) (a b:Nat):Bool:=X4 g a && X4 g b && ((decide (a<b) && sesAt g a == sesAt g b) || fromB (readH g) M a b)
def war (r:Nat→Nat→Bool):Nat→Nat→Nat→Bool
 | 0,b,a=>r a b
 | k+1,b,a=>war r k b a || (war r k b k && war r k k a)
theorem jal {r:Nat→Nat→Bool}:∀ {K k:Nat},k<K→∀ {b a:Nat},war r K b k=true→war r K k a=true→war r K b a=true
 | K+1,k,hk,b,a,h1,h2=>by
  simp only[war,Bool.or_eq_true,Bool.and_eq_true]at h1 h2 ⊢
  rcases Nat.lt_or_ge k K with hlt|hge
  ·rcases h1 with h1|⟨h1,h1'⟩ <;> rcases h2 with h2|⟨h2,h2'⟩
   ·exact .inl (jal hlt h1 h2)
   ·exact .inr ⟨jal hlt h1 h2,h2'⟩
   ·exact .inr ⟨h1,jal hlt h1' h2⟩
   ·exact .inr ⟨h1,h2'⟩
  ·have:k=K:=by omega
   subst this
   rcases h1 with h1|⟨h1,h1'⟩ <;> rcases h2 with h2|⟨h2,h2'⟩
   ·exact .inr ⟨h1,h2⟩
   ·exact .inr ⟨h1,h2'⟩
   ·exact .inr ⟨h1,h2⟩
   ·exact .inr ⟨h1,h2'⟩
theorem jkr {r:Nat→Nat→Bool}{b a:Nat}(h:r a b=true):∀K,war r K b a=true
 | 0=>h
 | K+1=>by simp[war,jkr h K]
theorem jik {r:Nat→Nat→Bool}{p:Nat→Prop}{q:Nat→Prop}(h0:∀a b,q b→r a b=true→p a) (h1:∀b,p b→q b):∀ (K:Nat) {b a:Nat},q b→war r K b a=true→p a
 | 0,b,a,hb,h=>h0 a b hb h
 | K+1,b,a,hb,h=>by
  simp only[war,Bool.or_eq_true,Bool.and_eq_true]at h
  rcases h with h|⟨h,h'⟩
  ·exact jik h0 h1 K hb h
  ·exact jik h0 h1 K (h1 _ (jik h0 h1 K hb h)) h'
def j3p (g:Hist') (M:List Int) (t a:Nat):Bool:=war (jfl g M) g.ts.length t a
theorem jrj {g:Hist'}{M:List Int}{a b:Nat}(h:jfl g M a b=true):X4 g a=true∧X4 g b=true:=by
 simp only[jfl,Bool.and_eq_true]at h
 exact h.1
theorem jod {g:Hist'}{M:List Int}{t a:Nat}(h:j3p g M t a=true):X4 g a=true :=
 jik (r:=jfl g M) (p:=fun a=>X4 g a=true) (q:=fun _=>True) (fun _ _ _ h=>(jrj h).1) (fun _ _=>trivial) g.ts.length (b:=t) trivial h
def atO (O:List Int) (t:Int):Int:=idxI O t 0
theorem jhz (k:Int):∀ (l:List Int) (n:Nat),idxI l k n = -1∨(n:Int)≤idxI l k n
 | [],n=>.inl rfl
 | x::r,n=>by
  rw[idxI]
  split
  ·exact .inr (Int.le_refl _)
  ·rcases jhz k r (n+1) with h|h
   ·exact .inl h
   ·exact .inr zO
theorem j0g (O:List Int) (t:Int):-1≤atO O t:=by
 rcases jhz t O 0 with h|h <;> unfold atO <;> omega
theorem atO_neg {O:List Int}{t:Int}:atO O t<0 ↔ t ∉ O:=by
 have h:=jdg t O 0
 unfold atO
 constructor
 ·intro h1 h2
  have:O.contains t=true:=by simpa using h2
  rw[this]at h
  simp at h
  omega
 ·intro h1
  have:O.contains t=false:=by simpa using h1
  rw[this]at h
  simpa using h
theorem jn2 {a b:Int}:∀ {l:List Int}{n:Nat},0≤idxI l a n→idxI l a n=idxI l b n→a=b
 | [],n,h,_=>by simp[idxI]at h
 | x::r,n,h,h'=>by
  rw[idxI]at h h'
  rw[idxI]at h'
  by_cases h1:a=x
  ·by_cases h2:b=x
   ·rw[h1,h2]
   ·have e1:(a == x)=true:=by simpa using h1
    have e2:(b == x)=false:=by simpa using h2
    rw[e1,e2]at h'
    simp only[if_true,Bool.false_eq_true,if_false]at h'
    rcases jhz b r (n+1) with h3|h3 <;> omega
  ·have e1:(a == x)=false:=by simpa using h1
   by_cases h2:b=x
   ·have e2:(b == x)=true:=by simpa using h2
    rw[e1,e2]at h'
    simp only[if_true,Bool.false_eq_true,if_false]at h'
    rcases jhz a r (n+1) with h3|h3 <;> omega
   ·have e2:(b == x)=false:=by simpa using h2
    rw[e1]at h
    rw[e1,e2]at h'
    simp only[Bool.false_eq_true,if_false]at h h'
    exact jn2 h h'
theorem j4c {O:List Int}{a b:Int}(ha:a∈O) (h:atO O a=atO O b):a=b:=by
 refine jn2 (l:=O) (n:=0) ?_ h
 rcases Int.lt_or_le (idxI O a 0) 0 with h1|h1
 ·exact absurd ha (atO_neg.1 h1)
 ·exact h1
def ja6 (g:Hist') (p:Int × Int):Int:=match opAt g p.1 p.2 with|some o=>o.key|none=>0
def Y6 (g:Hist') (t key:Int):Bool:=(jaf (Xw g t).2 key).2
def rcB (R:List (Int × Int)) (M:List Int) (p:Int × Int) (t:Int):Bool:=(R.zip M).any fun x=>x.1.1 == p.1 && (decide (x.1.2<p.2) && x.2 == t)
def jfm (g:Hist') (lvl:Int) (M O:List Int) (p:Int × Int) (t:Nat):Bool :=
 if lvl=1 then rcB (readH g) M p t else if lvl=2 then j3p g M p.1.toNat t else if lvl=3 then X4 g t && decide (atO O t<atO O p.1) else false
def j1l (g:Hist') (lvl:Int) (M O:List Int) (p:Int × Int):List Int:=jh1 (jfm g lvl M O p) g.ts.length
def okB (g:Hist') (O:List Int) (p:Int × Int) (m t:Int):Bool:=t == m || (!Y6 g t (ja6 g p) || decide (atO O t<atO O m))
def jf4 (g:Hist') (lvl:Int) (M O:List Int) (i:Nat):Bool:=match (readH g)[i]?,M[i]? with
 | some p,some m=>decide (m<0∨atO O m<atO O p.1) && (j1l g lvl M O p).all (okB g O p m)
 | _,_=>true
def jfg (g:Hist') (O:List Int) (b a:Nat):Bool:=!(sesAt g ((comL g).getD a 0).toNat == sesAt g ((comL g).getD b 0).toNat) || decide (atO O ((comL g).getD a 0)<atO O ((comL g).getD b 0))
def jwf (g:Hist') (O:List Int) (b:Nat):Bool:=(jh7 g ((comL g).getD b 0)).isEmpty && XS (jfg g O b) b
def jbd (g:Hist') (lvl:Int) (M O:List Int):Bool:=XS (jwf g O) (comL g).length && XS (jf4 g lvl M O) (readH g).length
def JZ (g:Hist') (O:List Int):Bool:=JC g && ((comL g).length == O.length && XS (fun i=>(comL g).contains (O.getD i 0) && !(O.take i).contains (O.getD i 0)) O.length)
def jut (g:Hist') (lvl:Int) (M O:List Int):Int:=if !JC g then 4 else if decide (lvl<1∨3<lvl) || (!Ws g M || !JZ g O) then 2 else 0
theorem com_f {g:Hist'}(hw:JC g=true) {a:Nat}{t:Txn'}(ht:g.ts[a]? = some t) (h2:t.f≠2):X4 g a=true:=by
 unfold JC at hw
 simp only[Bool.and_eq_true,List.isEmpty_iff]at hw
 obtain⟨hm,hi,_⟩:=hw
 have h3:t.f≠3:=fun e=>by
  have:((a:Nat):Int)∈Xa g:=by
   rw[Xa,W9,filTo_mem]
   exact⟨a,(List.getElem?_eq_some_iff.1 ht).1,rfl,by simp[jmv,ht,Jv,e]⟩
  rw[hi]at this
  cases this
 unfold XC at hm
 simp only[Bool.and_eq_true,List.all_eq_true]at hm
 have:=hm.2.1 t (List.mem_of_getElem? ht)
 simp only[jc4,Bool.and_eq_true,decide_eq_true_eq]at this
 simp only[X4,ht,JF,beq_iff_eq]
 omega
theorem jzv {g:Hist'}(hw:JC g=true) {a b x:Int}(h:x∈ofH g a b):x = -1∨x∈comL g:=by
 unfold ofH at h
 split at h
 ·split at h
  ·cases h
  ·rw[ofL,List.mem_append]at h
   rcases h with h|h
   ·unfold js at h
    split at h
    ·cases h
    ·exact .inl (by simpa using h)
   ·have h1:=(List.mem_filter.1 h).1
    rw[writersH,W9,filTo_mem]at h1
    obtain⟨k,h1,h2,h3⟩:=h1
    refine .inr (comL_mem.2 ⟨k,h2,?_⟩)
    unfold jmv at h3
    cases ht:g.ts[k]? with
    | none=>rw[ht]at h3;cases h3
    | some t=>
     rw[ht]at h3
     simp only[wrB,Bool.and_eq_true,bne_iff_ne,ne_eq]at h3
     exact com_f hw ht h3.1
 ·cases h
theorem jkh:∀ {C:List (Bool × List Int)}{M:List Int}{i:Nat}{c:Bool × List Int},jbk C M=true→C[i]? = some c→∃m,M[i]? = some m∧m∈c.2
 | [],_,_,_,_,hc=>by simp at hc
 | _::_,[],_,_,h,_=>by simp[jbk]at h
 | d::C,m::M,0,c,h,hc=>by
  simp only[jbk,Bool.and_eq_true]at h
  simp at hc
  subst hc
  exact⟨m,rfl,by simpa using h.1⟩
 | d::C,m::M,i+1,c,h,hc=>by
  simp only[jbk,Bool.and_eq_true]at h
  simpa using jkh h.2 (by simpa using hc)
section
variable {g:Hist'}{M O:List Int}
theorem jns (h:Ws g M=true) {i:Nat}{p:Int × Int}(hp:(readH g)[i]? = some p):∃m,M[i]? = some m∧m∈ofH g p.1 p.2:=by
 unfold Ws at h
 simp only[Bool.and_eq_true]at h
 exact jkh (c:=(false,ofH g p.1 p.2)) h.2.2 (by simp[choR,hp])
theorem jej (h:Ws g M=true):M.length=(readH g).length:=by
 unfold Ws at h
 simp only[Bool.and_eq_true,beq_iff_eq]at h
 simpa[choR] using h.2.1
theorem XW (h:Ws g M=true):JC g=true:=by
 unfold Ws at h
 simp only[Bool.and_eq_true]at h
 exact h.1
theorem jln (h:Ws g M=true) {m:Int}(hm:m∈M):m = -1∨m∈comL g:=by
 obtain⟨i,hi,e⟩:=List.getElem_of_mem hm
 have hi':i<(readH g).length:=by rw[← jej h];exact hi
 obtain⟨m',h1,h2⟩:=jns h (List.getElem?_eq_getElem hi')
 rw[List.getElem?_eq_getElem hi]at h1
 cases h1
 rw[← e]
 exact jzv (XW h) h2
theorem jd7 {p:Int × Int}:∀ {n:Nat},p∈Jp g n→∃ (i k:Nat) (t:Txn'),p=((i:Int),(k:Int))∧g.ts[i]? = some t∧JF t=true∧k<t.ops.length∧XL g i k=true
 | 0,h=>by simp[Jp]at h
 | n+1,h=>by
  rw[Jp,List.mem_append]at h
  rcases h with h|h
  ·exact jd7 h
  ·cases ht:g.ts[n]? with
   | none=>rw[ht]at h;cases h
   | some t=>
    rw[ht]at h
    simp only at h
    split at h
    ·rename_i hc
     obtain⟨k,h1,h2,h3⟩:=readIn_mem.1 h
     exact⟨n,k,t,h2,ht,hc,h1,h3⟩
    ·cases h
theorem jhb {p:Int × Int}(h:p∈readH g):p.1∈comL g:=by
 obtain⟨i,k,t,rfl,ht,hc,_⟩:=jd7 h
 exact comL_mem.2 ⟨i,rfl,by simp[X4,ht,hc]⟩
/-! Orders -/
theorem jsd (h:JZ g O=true):(comL g).length=O.length:=by
 unfold JZ at h
 simp only[Bool.and_eq_true,beq_iff_eq]at h
 exact h.2.1
theorem jnf (h:JZ g O=true) {i:Nat}(hi:i<O.length):O[i]∈comL g∧O[i] ∉ O.take i:=by
 unfold JZ at h
 simp only[Bool.and_eq_true]at h
 have:=andTo_iff.1 h.2.2 i hi
 simpa[List.getD_eq_getElem?_getD,List.getElem?_eq_getElem hi] using this
theorem jnn:∀ {L:List Int},(∀i (hi:i<L.length),L[i] ∉ L.take i)→L.Nodup
 | [],_=>List.nodup_nil
 | x::r,h=>by
  rw[List.nodup_cons]
  constructor
  ·intro hx
   obtain⟨i,hi,e⟩:=List.getElem_of_mem hx
   have:=h (i+1) (by simpa using hi)
   simp[e]at this
  ·refine jnn fun i hi hm=>?_
   have:=h (i+1) (by simpa using hi)
   simp[hm]at this
theorem jef (h:JZ g O=true):O.Nodup:=jnn fun _ hi=>(jnf h hi).2
theorem jee (h:JZ g O=true) {x:Int}(hx:x∈O):x∈comL g:=by
 obtain⟨i,hi,e⟩:=List.getElem_of_mem hx
 exact e▸(jnf h hi).1
theorem jh4 (g:Hist'):(comL g).Pairwise (· < ·):=(W8 (p:=JF) (ts:=g.ts) g.ts.length (Nat.le_refl _)).2
theorem jql (g:Hist'):(comL g).Nodup:=(jh4 g).imp fun h=>Int.ne_of_lt h
theorem Qz:∀ {O C:List Int},O.Nodup→(∀x∈O,x∈C)→C.length=O.length→O.Perm C
 | [],C,_,_,h=>by
  have:C=[]:=List.length_eq_zero_iff.1 h
  rw[this]
 | x::r,C,hn,hs,h=>by
  rw[List.nodup_cons]at hn
  have hx:=hs x zS
  have h1:=List.perm_cons_erase hx
  refine(List.Perm.cons x (Qz hn.2 (fun y hy=>?_) ?_)).trans h1.symm
  ·have hne:y≠x:=fun e=>hn.1 (e▸hy)
   exact(List.mem_erase_of_ne hne).2 (hs y (by simp[hy]))
  ·have:=h1.length_eq
   simp at this h
   omega
theorem W7 (h:JZ g O=true):O.Perm (comL g):=Qz (jef h) (fun _=>jee h) (jsd h)
theorem jse (hw:JC g=true):JZ g O=true ↔ O.Perm (comL g):=by
 refine⟨W7,fun h=>?_⟩
 have hn:O.Nodup:=h.nodup_iff.2 (jql g)
 unfold JZ
 rw[hw,Bool.true_and,Bool.and_eq_true,andTo_iff]
 refine⟨by rw[h.length_eq];simp,fun i hi=>?_⟩
 have h1:O[i]∈comL g:=h.mem_iff.1 (List.getElem_mem hi)
 have h2:O[i] ∉ O.take i:=fun hm=>by
  obtain⟨j,hj,e⟩:=List.getElem_of_mem hm
  simp at hj
  rw[List.getElem_take]at e
  exact List.pairwise_iff_getElem.1 hn j i zO hi zO e
 simp[List.getD_eq_getElem?_getD,List.getElem?_eq_getElem hi,h1,h2]
/-! Where each stands -/
theorem jn3:∀ {l:List Int}{n k:Nat}(h:k<l.length),l.Nodup→idxI l l[k] n=(n+k:Nat)
 | x::r,n,0,_,_=>by simp[idxI]
 | x::r,n,k+1,h,hn=>by
  rw[List.nodup_cons]at hn
  have hk:k<r.length:=by simpa using h
  have hne:((r[k]) == x)=false:=by
   rw[beq_eq_false_iff_ne]
   exact fun e=>hn.1 (e▸List.getElem_mem hk)
  simp only[List.getElem_cons_succ,idxI,hne,Bool.false_eq_true,if_false]
  rw[jn3 hk hn.2]
  omega
theorem j4d (hn:O.Nodup) {k:Nat}(h:k<O.length):atO O O[k]=k:=by
 rw[atO,jn3 h hn,Nat.zero_add]
def atM (O:List Int):Nat→List (Int × Int)
 | 0=>[(-1,-1)]
 | k+1=>YR (atM O k) (O.getD k 0) k
theorem j0h (hn:O.Nodup) (t:Int):∀k,k≤O.length→XE (atM O k) t=if t∈O.take k then atO O t else if t = -1 then -1 else 0
 | 0,_=>by
  unfold atM XE
  by_cases h:t = -1 <;> simp[jg,h]
 | k+1,h=>by
  have hk:k<O.length:=by omega
  rw[atM,jjl,j0h hn t k zO]
  have e:O.getD k 0=O[k]:=by simp[List.getD_eq_getElem?_getD,List.getElem?_eq_getElem hk]
  have hm:t∈O.take (k+1) ↔ t∈O.take k∨t=O[k]:=by
   rw[List.take_add_one,List.getElem?_eq_getElem hk]
   simp only[List.mem_append,Option.toList_some,List.mem_singleton]
  rw[e]
  by_cases h1:t=O[k]
  ·rw[if_pos h1,if_pos (hm.2 (.inr h1)),h1,j4d hn hk]
  ·rw[if_neg h1]
   by_cases h2:t∈O.take k
   ·rw[if_pos h2,if_pos (hm.2 (.inl h2))]
   ·rw[if_neg h2,if_neg fun h=>(hm.1 h).elim h2 h1]
theorem atM_eq (h:JZ g O=true) {t:Int}(ht:t = -1∨t∈comL g):XE (atM O O.length) t=atO O t:=by
 have hneg:(-1:Int) ∉ O:=fun hm=>by
  obtain⟨k,e,_⟩:=comL_mem.1 (jee h hm)
  omega
 rw[j0h (jef h) t _ (Nat.le_refl _),List.take_length]
 rcases ht with rfl|ht
 ·rw[if_neg hneg,if_pos rfl]
  have h1:=atO_neg.2 hneg
  have h2:=j0g O (-1)
  omega
 ·rw[if_pos ((W7 h).mem_iff.2 ht)]
theorem j4e (h:JZ g O=true) {t:Int}(ht:t∈comL g):0≤atO O t:=by
 rcases Int.lt_or_le (atO O t) 0 with h1|h1
 ·exact absurd ((W7 h).mem_iff.2 ht) (atO_neg.1 h1)
 ·exact h1
theorem j4b (h:JZ g O=true):atO O (-1) = -1:=by
 have hneg:(-1:Int) ∉ O:=fun hm=>by
  obtain⟨k,e,_⟩:=comL_mem.1 (jee h hm)
  omega
 have h1:=atO_neg.2 hneg
 have h2:=j0g O (-1)
 omega
/-! Sessions -/
def j4w (g:Hist') (O:List Int):Nat→List (Int × Int)
 | 0=>[]
 | k+1=>YR (j4w g O k) (sesAt g ((comL g).getD k 0).toNat) (atO O ((comL g).getD k 0))
def sesG (g:Hist') (O:List Int) (k:Nat):Bool:=!((jg (j4w g O k) (sesAt g ((comL g).getD k 0).toNat)).any fun x=>decide (atO O ((comL g).getD k 0)<x.2)) && (jh7 g ((comL g).getD k 0)).isEmpty
def SesI (g:Hist') (O:List Int) (n:Nat):Prop:=∀s,match (jg (j4w g O n) s).map (·.2) with
 | none=>∀j,j<n→sesAt g ((comL g).getD j 0).toNat≠s
 | some v=>(∃j,j<n∧sesAt g ((comL g).getD j 0).toNat=s∧atO O ((comL g).getD j 0)=v)∧∀j,j<n→sesAt g ((comL g).getD j 0).toNat=s→atO O ((comL g).getD j 0)≤v
theorem j1j (h:JZ g O=true) {n:Nat}(hn:n<(comL g).length) (hi:SesI g O n):sesG g O n=jwf g O n:=by
 unfold sesG jwf
 rw[Bool.and_comm]
 congr 1
 have hi:=hi (sesAt g ((comL g).getD n 0).toNat)
 have hget:∀j (hj:j<(comL g).length),(comL g).getD j 0=(comL g)[j]:=fun j hj=>by simp[List.getD_eq_getElem?_getD,List.getElem?_eq_getElem hj]
 have hinj:∀j,j<n→atO O ((comL g).getD j 0)≠atO O ((comL g).getD n 0):=fun j hj e=>by
  rw[hget j zO,hget n hn]at e
  have:=j4c ((W7 h).mem_iff.2 (List.getElem_mem (show j<(comL g).length by omega))) e
  have hp:=List.pairwise_iff_getElem.1 (jh4 g) j n zO hn hj
  omega
 rw[Bool.eq_iff_iff,andTo_iff]
 cases hf:jg (j4w g O n) (sesAt g ((comL g).getD n 0).toNat) with
 | none=>
  rw[hf]at hi
  simp only[Option.map_none]at hi
  simp only[Option.any_none,Bool.not_false,true_iff]
  intro j hj
  rw[jfg,beq_eq_false_iff_ne.2 (hi j hj)]
  rfl
 | some x=>
  rw[hf]at hi
  simp only[Option.map_some]at hi
  obtain⟨⟨j0,h1,h2,h3⟩,h4⟩:=hi
  simp only[Option.any_some,Bool.not_eq_true',decide_eq_false_iff_not,Int.not_lt]
  constructor
  ·intro hle j hj
   by_cases hs:sesAt g ((comL g).getD j 0).toNat=sesAt g ((comL g).getD n 0).toNat
   ·have:=h4 j hj hs
    have:=hinj j hj
    simp only[jfg,hs,beq_self_eq_true,Bool.not_true,Bool.false_or,decide_eq_true_eq]
    omega
   ·rw[jfg,beq_eq_false_iff_ne.2 hs]
    rfl
  ·intro ha
   have:=ha j0 h1
   simp only[jfg,h2,beq_self_eq_true,Bool.not_true,Bool.false_or,decide_eq_true_eq]at this
   omega
theorem jrs (h:JZ g O=true):∀ {n:Nat},n≤(comL g).length→XS (jwf g O) n=true→SesI g O n
 | 0,_,_=>fun s=>by simp[j4w,jg]
 | n+1,hn,ha=>fun s=>by
  rw[XS,Bool.and_eq_true]at ha
  have hi:=jrs h (n:=n) zO ha.1
  have hb:=ha.2
  unfold jwf at hb
  rw[Bool.and_eq_true,andTo_iff]at hb
  have hi:=hi s
  rw[j4w,Q5]
  by_cases hs:s=sesAt g ((comL g).getD n 0).toNat
  ·subst hs
   rw[if_pos rfl]
   refine⟨⟨n,zO,rfl,rfl⟩,fun j hj he=>?_⟩
   rcases Nat.lt_succ_iff_lt_or_eq.1 hj with h1|h1
   ·have:=hb.2 j h1
    simp only[jfg,he,beq_self_eq_true,Bool.not_true,Bool.false_or,decide_eq_true_eq]at this
    omega
   ·subst h1;exact Int.le_refl _
  ·rw[if_neg hs]
   split at hi
   ·intro j hj
    rcases Nat.lt_succ_iff_lt_or_eq.1 hj with h1|h1
    ·exact hi j h1
    ·subst h1;exact fun e=>hs e.symm
   ·obtain⟨⟨j,h1,h2,h3⟩,h4⟩:=hi
    refine⟨⟨j,zO,h2,h3⟩,fun j hj he=>?_⟩
    rcases Nat.lt_succ_iff_lt_or_eq.1 hj with h1|h1
    ·exact h4 j h1 he
    ·subst h1;exact absurd he.symm hs
theorem jzn (h:JZ g O=true):∀ {n:Nat},n≤(comL g).length→XS (sesG g O) n=XS (jwf g O) n
 | 0,_=>rfl
 | n+1,hn=>by
  have ih:=jzn h (n:=n) zO
  rw[XS,XS,ih]
  cases ha:XS (jwf g O) n with
  | false=>rfl
  | true=>rw[j1j h zO (jrs h zO ha)]
/-! What reads see -/
def j1k (g:Hist') (lvl:Int) (M O:List Int) (p:Int × Int) (t:Int):Bool:=if lvl=1 then rcB (readH g) M p t else if lvl=2 then j3p g M p.1.toNat t.toNat else decide (atO O t<atO O p.1)
def jry (g:Hist') (lvl:Int) (M O:List Int) (i:Nat):Bool:=match (readH g)[i]?,M[i]? with
 | some p,some m=>decide (atO O m<atO O p.1) && (comL g).all fun t=>!j1k g lvl M O p t || okB g O p m t
 | _,_=>true
def jum (g:Hist') (lvl:Int) (M O:List Int):Bool:=XS (sesG g O) (comL g).length && XS (jry g lvl M O) (readH g).length
theorem jwg (hm:Ws g M=true) {lvl:Int}{p:Int × Int}{t:Nat}(h:jfm g lvl M O p t=true):X4 g t=true:=by
 unfold jfm at h
 split at h
 ·unfold rcB at h
  obtain⟨x,hx,h1⟩:=List.any_eq_true.1 h
  simp only[Bool.and_eq_true,beq_iff_eq]at h1
  have hm2:=jln hm (List.of_mem_zip hx).2
  rw[h1.2.2]at hm2
  rcases hm2 with h2|h2
  ·omega
  ·obtain⟨k,e,hc⟩:=comL_mem.1 h2
   have:t=k:=by omega
   exact this▸hc
 ·split at h
  ·exact jod h
  ·split at h
   ·rw[Bool.and_eq_true]at h;exact h.1
   ·cases h
theorem jrt {lvl:Int}(h1:1≤lvl) (h3:lvl≤3) {p:Int × Int}{t:Nat}(hc:X4 g t=true):j1k g lvl M O p t=jfm g lvl M O p t:=by
 unfold j1k jfm
 split
 ·rfl
 ·split
  ·simp
  ·rw[if_pos zO,hc,Bool.true_and]
theorem jwk {lvl:Int}(h1:1≤lvl) (h3:lvl≤3) (hm:Ws g M=true) (ho:JZ g O=true) (i:Nat):jry g lvl M O i=jf4 g lvl M O i:=by
 unfold jry jf4
 cases hp:(readH g)[i]? with
 | none=>rfl
 | some p=>
  obtain⟨m,e,hmo⟩:=jns hm hp
  rw[e]
  simp only
  have hpc:=jhb (List.mem_of_getElem? hp)
  have ha:=j4e ho hpc
  congr 1
  ·rcases jzv (XW hm) hmo with rfl|hmc
   ·rw[j4b ho]
    have:(-1:Int)<atO O p.1:=by omega
    simp[this]
   ·obtain⟨k,e,_⟩:=comL_mem.1 hmc
    have:¬ m<0:=by omega
    simp[this]
  ·rw[Bool.eq_iff_iff,List.all_eq_true,List.all_eq_true]
   unfold j1l
   constructor
   ·intro h t ht
    obtain⟨k,_,rfl,hk⟩:=filTo_mem.1 ht
    have hc:=jwg hm hk
    have:=h k (comL_mem.2 ⟨k,rfl,hc⟩)
    rw[jrt h1 h3 hc,hk]at this
    simpa using this
   ·intro h t ht
    obtain⟨k,rfl,hc⟩:=comL_mem.1 ht
    rw[jrt h1 h3 hc]
    cases hk:jfm g lvl M O p k with
    | false=>rfl
    | true=>simpa using h k (filTo_mem.2 ⟨k,XG hc,rfl,hk⟩)
theorem jyh {lvl:Int}(h1:1≤lvl) (h3:lvl≤3) (hm:Ws g M=true) (ho:JZ g O=true):jum g lvl M O=jbd g lvl M O:=by
 unfold jum jbd
 rw[jzn ho (Nat.le_refl _),jmh fun k _=>jwk h1 h3 hm ho k]
/-! Levels -/
theorem j05 (_:Ws g M=true) (_:JZ g O=true) (hs:XS (jwf g O) (comL g).length=true) (hr:∀ (i:Nat) (p:Int × Int) (m:Int),(readH g)[i]? = some p→M[i]? = some m→m<0∨atO O m<atO O p.1) {a b:Nat}(h:jfl g M a b=true):atO O a<atO O b:=by
 unfold jfl at h
 simp only[Bool.and_eq_true,Bool.or_eq_true,decide_eq_true_eq,beq_iff_eq]at h
 obtain⟨⟨ca,cb⟩,h⟩:=h
 rcases h with⟨hab,hse⟩|h
 ·obtain⟨i,hi,ei⟩:=List.getElem_of_mem (comL_mem.2 ⟨a,rfl,ca⟩)
  obtain⟨j,hj,ej⟩:=List.getElem_of_mem (comL_mem.2 ⟨b,rfl,cb⟩)
  have hij:i<j:=by
   rcases Nat.lt_or_ge i j with h|h
   ·exact h
   ·rcases Nat.lt_or_ge j i with h'|h'
    ·have:=List.pairwise_iff_getElem.1 (jh4 g) j i hj hi h'
     omega
    ·have:i=j:=by omega
     subst this
     omega
  have:=andTo_iff.1 hs j hj
  unfold jwf at this
  rw[Bool.and_eq_true,andTo_iff]at this
  have:=this.2 i hij
  have e1:(comL g).getD i 0=a:=by rw[← ei];simp[List.getD_eq_getElem?_getD,List.getElem?_eq_getElem hi]
  have e2:(comL g).getD j 0=b:=by rw[← ej];simp[List.getD_eq_getElem?_getD,List.getElem?_eq_getElem hj]
  rw[jfg,e1,e2]at this
  simpa[hse] using this
 ·unfold fromB at h
  obtain⟨x,hx,h1⟩:=List.any_eq_true.1 h
  simp only[Bool.and_eq_true,beq_iff_eq]at h1
  obtain⟨i,hi,ei⟩:=List.getElem_of_mem hx
  rw[List.getElem_zip]at ei
  rw[List.length_zip]at hi
  rw[← ei]at h1
  have:=hr i _ _ (List.getElem?_eq_getElem zO) (List.getElem?_eq_getElem zO)
  simp only at h1
  rw[h1.1,h1.2]at this
  rcases this with h|h
  ·omega
  ·exact h
theorem far_at (hs:∀a b:Nat,jfl g M a b=true→atO O a<atO O b) {t a:Nat}(h:j3p g M t a=true):atO O a<atO O t :=
 jik (r:=jfl g M) (p:=fun a=>atO O a<atO O t) (q:=fun a=>atO O (a:Int)≤atO O t) (fun a b hb hab=>Int.lt_of_lt_of_le (hs a b hab) hb) (fun _ h=>Int.le_of_lt h) g.ts.length (b:=t) (Int.le_refl _) h
theorem j5x {lvl:Int}(h:XS (jf4 g lvl M O) (readH g).length=true) {i:Nat}{p:Int × Int}{m:Int}(hp:(readH g)[i]? = some p) (hm:M[i]? = some m):(m<0∨atO O m<atO O p.1)∧(j1l g lvl M O p).all (okB g O p m)=true:=by
 have:=andTo_iff.1 h i (List.getElem?_eq_some_iff.1 hp).1
 unfold jf4 at this
 rw[hp,hm]at this
 simpa only[Bool.and_eq_true,decide_eq_true_eq] using this
theorem jp8 {l1 l2:Int}(h:jbd g l1 M O=true) (hsub:∀ (i:Nat) (p:Int × Int) (m:Int),(readH g)[i]? = some p→M[i]? = some m→∀t,jfm g l2 M O p t=true→jfm g l1 M O p t=true):jbd g l2 M O=true:=by
 unfold jbd at h ⊢
 rw[Bool.and_eq_true]at h ⊢
 refine⟨h.1,andTo_iff.2 fun i hi=>?_⟩
 have:=andTo_iff.1 h.2 i hi
 unfold jf4 at this ⊢
 cases hp:(readH g)[i]? with
 | none=>rfl
 | some p=>
  cases hm:M[i]? with
  | none=>rfl
  | some m=>
   rw[hp,hm]at this
   simp only[Bool.and_eq_true,List.all_eq_true]at this ⊢
   refine⟨this.1,fun t ht=>?_⟩
   obtain⟨k,h1,rfl,h3⟩:=filTo_mem.1 ht
   exact this.2 k (filTo_mem.2 ⟨k,h1,rfl,hsub i p m hp hm k h3⟩)
theorem j5v (hm:Ws g M=true) (ho:JZ g O=true) (h:jbd g 3 M O=true):jbd g 2 M O=true:=by
 refine jp8 h fun i p m hp he t ht=>?_
 unfold jbd at h
 rw[Bool.and_eq_true]at h
 have hst:∀a b:Nat,jfl g M a b=true→atO O a<atO O b:=fun a b=>j05 hm ho h.1 fun i p m h1 h2=>(j5x h.2 h1 h2).1
 have hf:j3p g M p.1.toNat t=true:=by simpa[jfm] using ht
 have hc:=jod hf
 obtain⟨k,e,_⟩:=comL_mem.1 (jhb (List.mem_of_getElem? hp))
 have:=far_at hst hf
 have e2:((p.1.toNat:Nat):Int)=p.1:=by omega
 rw[e2]at this
 simp[jfm,hc,this]
end
section
variable (g:Hist') (M O:List Int)
def rdsT (t:Int):List (Int × Int × Int):=(((readH g).zip M).filter fun x=>x.1.1 == t).map fun x=>(x.1.2,ja6 g x.1,x.2)
end
theorem jtr (ops:List Op') (key:Int):(jaf ops key).2=ops.any (wkB key):=by
 have:=Q1 key ops ops.length (Nat.le_refl _)
 rwa [List.take_length]at this
section
variable {g:Hist'}{M O:List Int}
variable (hm:Ws g M=true) (ho:JZ g O=true)
include ho
include hm
omit ho in
end
end Go.Pv.T
namespace Go.Pv.T
open Go Go.Pv
end Go.Pv.T
namespace Go.Pv.T
open Go Go.Pv
end Go.Pv.T
namespace Go.Pv.T
open Go Go.Pv
end Go.Pv.T
namespace Go.Pv.T
open Go Go.Pv
structure RwAt (g:Hist') (r:RwS) (st:St):Prop where
 cl:r.c.length=g.ts.length
 dl:r.d.length=g.ts.length
 h:st.ob 2=some ⟨0,.cells (j2 g)⟩
 c:st.ob 36=some ⟨448,.cells (r.c.map V.bool)⟩
 d:st.ob 44=some ⟨704,.cells (r.d.map V.bool)⟩
 t1:st.tm 1=.ptr 2 0 0
 t5:st.tm 5=.osl 36 448 0 g.ts.length 1
 t6:st.tm 6=.osl 44 704 0 g.ts.length 1
 t8:st.tm 8=.bool r.hop
 t9:st.tm 9=.bool r.more
 df:st.df=[]
 ro:st.ro=0
 nx:768≤st.nx
section
variable (g:Hist') (M:List Int) (t:Nat)
def jl4 (bs:List Bool) (a b:Nat):Bool:=!bs.getD a false && ((b == t || bs.getD b false) && jfl g M a b)
def FarS (bs:List Bool):Prop:=bs.length=g.ts.length∧∀a,bs.getD a false=true→j3p g M t a=true
def FarR (bs0:List Bool) (i j:Nat) (bs:List Bool) (more:Bool):Prop:=FarS g M t bs∧(more=false→bs=bs0∧∀a b,(a<i∨a=i∧b<j)→b<g.ts.length→jl4 g M t bs0 a b=false) ∧
 (more=true→bs.count false+1≤bs0.count false)
end
section
variable {g:Hist'}{M:List Int}{t:Nat}
theorem FarS.fire {bs:List Bool}(h:FarS g M t bs) (ht:t<g.ts.length) {a b:Nat}(hb:b<g.ts.length) (hf:jl4 g M t bs a b=true):FarS g M t (bs.set a true):=by
 refine⟨by simp[h.1],fun x hx=>?_⟩
 unfold jl4 at hf
 simp only[Bool.and_eq_true,Bool.or_eq_true,beq_iff_eq]at hf
 by_cases hxa:x=a
 ·subst hxa
  rcases hf.2.1 with rfl|h2
  ·exact jkr hf.2.2 _
  ·exact jal hb (h.2 b h2) (jkr hf.2.2 _)
 ·refine h.2 x ?_
  rw[List.getD_eq_getElem?_getD,List.getElem?_set_ne (fun e=>hxa e.symm)]at hx
  simpa[List.getD_eq_getElem?_getD] using hx
theorem jqj {bs:List Bool}{a:Nat}(ha:a<bs.length) (hf:bs.getD a false=false):(bs.set a true).count false+1=bs.count false:=by
 have e:bs[a]=false:=by simpa[List.getD_eq_getElem?_getD,ha] using hf
 have h1:0<bs.count false:=List.count_pos_iff.2 (e▸List.getElem_mem ha)
 rw[List.count_set ha,e]
 simp
 omega
theorem FarR.next {bs0 bs:List Bool}{i j:Nat}{m:Bool}(h:FarR g M t bs0 i j bs m) (ht:t<g.ts.length) (hi:i<g.ts.length) (hj:j<g.ts.length) :
 FarR g M t bs0 i (j+1) (if jl4 g M t bs i j then bs.set i true else bs) (m || jl4 g M t bs i j):=by
 obtain⟨h1,h2,h3⟩:=h
 cases hf:jl4 g M t bs i j
 ·simp only[Bool.or_false,Bool.false_eq_true,if_false]
  refine⟨h1,fun hm=>?_,h3⟩
  obtain⟨rfl,h4⟩:=h2 hm
  refine⟨rfl,fun a b hab hb=>?_⟩
  rcases hab with hab|⟨rfl,hab⟩
  ·exact h4 a b (.inl hab) hb
  ·rcases Nat.lt_succ_iff_lt_or_eq.1 hab with h|h
   ·exact h4 a b (.inr ⟨rfl,h⟩) hb
   ·subst h;exact hf
 ·simp only[Bool.or_true,if_true]
  have hfa:bs.getD i false=false:=by
   unfold jl4 at hf
   simp only[Bool.and_eq_true,Bool.not_eq_true']at hf
   exact hf.1
  have hc:=jqj (by rw[h1.1];exact hi) hfa
  refine⟨h1.fire ht hj hf,fun hm=>(by cases hm),fun _=>?_⟩
  cases m
  ·rw[(h2 rfl).1]at hc ⊢
   omega
  ·have:=h3 rfl
   omega
end
end Go.Pv.T
namespace Go.Pv.T
open Go Go.Pv
end Go.Pv.T
namespace Go.Pv.T
open Go Go.Pv
end Go.Pv.T
namespace Go.Pv.T
open Go Go.Pv
theorem Qa (g:Hist'):(comL g).length≤g.ts.length:=JJ JF g.ts g.ts.length
theorem jk0 {g:Hist'}(hm:XC g=true) {q:Nat}(hq:q<(readH g).length):∃ (i k:Nat) (hi:i<g.ts.length) (hk:k<(g.ts[i]).ops.length),(readH g)[q]=((i:Int),(k:Int))∧ja6 g (readH g)[q]=((g.ts[i]).ops[k]).key∧X4 g i=true:=by
 obtain⟨i,k,t,e,ht,hc,hk,_⟩:=jd7 (List.getElem_mem hq)
 obtain⟨hi,rfl⟩:=List.getElem?_eq_some_iff.1 ht
 refine⟨i,k,hi,hk,e,?_,by simpa[X4,hi] using hc⟩
 rw[e]
 have:opAt g (i:Int) (k:Int)=some (g.ts[i]).ops[k]:=by
  unfold opAt
  simp[hm,hi,hk,List.getD_eq_getElem?_getD]
 unfold ja6
 simp only[this]
theorem Yx {g:Hist'}(h:JC g=true):XC g=true:=by
 unfold JC at h
 simp only[Bool.and_eq_true]at h
 exact h.1
def Off (ub key:Nat):Prop:=∀m,ub≤m→¬ key=2*m+1
theorem Off.up {ub ub' key:Nat}(h:Off ub key) (hu:ub≤ub'):Off ub' key:=fun m hm=>h m (Nat.le_trans hu hm)
theorem Off.new {ub m:Nat}(h:m<ub):Off ub (2*m+1):=fun k hk e=>by omega
def Was (ub:Nat) (ob ob':ZO):Prop:=∀key,Off ub key→ob' key=ob key
theorem Was.trans {ub ub1:Nat}{ob ob1 ob2:ZO}(h:Was ub ob ob1) (h':Was ub1 ob1 ob2) (hu:ub≤ub1):Was ub ob ob2:=fun key hk=>(h' key (hk.up hu)).trans (h key hk)
theorem Was.refl (ub:Nat) (ob:ZO):Was ub ob ob:=fun _ _=>rfl
structure JN where
 tr:Option (Nat × Nat)
 nr:Bool
 nm:Bool
 kJ:Nat
 uJ:Nat
 kA:Nat
 uA:Nat
 kP:Nat
 uP:Nat
 rows:List (Nat × Nat)
def farL (g:Hist') (M:List Int) (b:Nat):List Bool:=(List.range g.ts.length).map (j3p g M b)
def rowC (n:Nat) (r:Nat × Nat):V:=.osl r.1 r.2 0 n 1
structure Jd (g:Hist') (lvl:Int) (M O:List Int) (N:JN) (ob:ZO) (ub:Nat):Prop where
 j:ob N.kJ=some ⟨N.uJ,.cells [.int .i64 lvl,jN g.sn JL g.ss,jN g.kn JL g.ks,jN g.tn jl g.ts,.sl N.tr N.nr (readH g).length ((readH g).flatMap jH),jN N.nm intC M,.map N.kA N.uA,if lvl=2 then .osl N.kP N.uP 0 g.ts.length 1 else .sl none true 0 []]⟩
 a:∃ver,ob N.kA=some ⟨N.uA,.mp ver (MP jbl (atM O O.length))⟩
 p:lvl=2→ob N.kP=some ⟨N.uP,.cells (N.rows.map (rowC g.ts.length))⟩∧N.rows.length=g.ts.length∧(∀b (h:b<N.rows.length),ob (N.rows[b]).1=some ⟨(N.rows[b]).2,.cells ((farL g M b).map V.bool)⟩)∧Off ub N.kP∧∀r∈N.rows,Off ub r.1
 fj:Off ub N.kJ
 fa:Off ub N.kA
 odd:N.kJ % 2=1∧N.kA % 2=1∧(lvl=2→N.kP % 2=1∧∀r∈N.rows,r.1 % 2=1)
theorem Jd.keep {g:Hist'}{lvl:Int}{M O:List Int}{N:JN}{ob ob':ZO}{ub ub':Nat}(h:Jd g lvl M O N ob ub) (hw:Was ub ob ob') (hu:ub≤ub'):Jd g lvl M O N ob' ub':=by
 refine⟨(hw _ h.fj).trans h.j,?_,fun h2=>?_,h.fj.up hu,h.fa.up hu,h.odd⟩
 ·obtain⟨ver,e⟩:=h.a
  exact⟨ver,(hw _ h.fa).trans e⟩
 ·obtain⟨p1,p2,p3,p4,p5⟩:=h.p h2
  exact⟨(hw _ p4).trans p1,p2,fun b hb=>(hw _ (p5 _ (List.getElem_mem hb))).trans (p3 b hb),p4.up hu,fun r hr=>(p5 r hr).up hu⟩
theorem Jd.map {g:Hist'}{lvl:Int}{M O:List Int}{N:JN}{ob:ZO}{ub:Nat}(h:Jd g lvl M O N ob ub) (ho:JZ g O=true) {t:Int}(ht:t = -1∨t∈comL g):Xe ob .int (.int .i64 0) false (.map N.kA N.uA) (.int .i64 t)=some (.int .i64 (atO O t)):=by
 obtain⟨ver,e⟩:=h.a
 rw[QS (atM O O.length) (by simp[jR,e]),atM_eq ho ht]
theorem jyg {l u n x sz:Nat}{kk:IntKind}(hx:x<n):Jn sz (.osl l u 0 n sz) (.int kk (x:Int))=some (.ptr l u (x*sz)):=by simp[Jn,hx]
theorem Jx {a b:Nat}(h:¬ a=b):Nat.beq a b=false:=by
 cases e:Nat.beq a b
 ·rfl
 ·exact absurd (Nat.eq_of_beq_eq_true e) h
end Go.Pv.T
namespace Go.Pv.T
open Go Go.Pv
end Go.Pv.T
namespace Go.Pv.T
open Go Go.Pv
theorem two_inj {a b:Nat}:(2*a=2*b)=(a=b):=propext ⟨fun h=>by omega,fun h=>by rw[h]⟩
theorem jwp {l u o:Nat}:(V.ptr l u o).leaf=true:=rfl
end Go.Pv.T
