/- Ranges over maps. -/
import Derived.Test.YtphecmnehkdihaaGreatDoorOA
import Derived.OrdersIn
import Derived.TacticsIn
import Derived.LoopNIn
import Derived.RangeFuncRecord
import Derived.Sort.Grow
import Derived.RangeFuncLeaves
set_option maxRecDepth 100000
set_option maxHeartbeats 8000000
set_option linter.all false
namespace Go.Pv
open Go
section
variable {P:Program}{E:Env}{w0 w:World}{I0:IMap}{nt:Nat}{γ:Nat->Option Place}{I:IMap}{st:St}{a:Act}{o:Oper}{ub:Nat}{δ:Delta}
theorem jm2 (y:R E w0 I0 nt γ I st a w) (D:∀d,o.dst=some d->d<nt) (J:γ ub=none) {t S e:TypeId}{x:Operand}{H:A}{d:Nat}(K:o.op=.range t x) (Z:opd x=some H) (N:P.underlying t=some (.map S e))
 (i:(match eval E st.tm H with
  | .nilmap=>Jj d ub .nomap (.iter d ub)
  | .map l u=>(jn st.ob l u).bind λL=>Jj d ub (.miter l u (jq st.ob l) L none) (.iter d ub)
  | _=>none)=some δ):XH P E w0 I0 nt γ I st a w o ub δ:=by
 have s:=jC y Z;split at i;rename_i r;rw[r]at s;have f:=XV s;refine Yv y D J (x:=.pointer (some ⟨w.heap.size,0,none⟩)) (obj:=.mapIter none 0 #[] 0) (body:=.nomap) (k:=.n 0) ?_ rfl (λB h=>.iter _ _ _ _ h) ⟨_,_,_,rfl⟩ i;simp[execOp,K,f,Instr.range,run_underlying N];rename_i l u r;rw[r]at s;obtain⟨b,kb,m,f⟩:=Wl s;obtain⟨L,z,i⟩:=bind_some i;have q:=X9 z;obtain⟨M,c,G,O,U,X,p⟩:=jm5 y q m;refine Yv y D J (x:=.pointer (some ⟨w.heap.size,0,none⟩)) (obj:=.mapIter (some b) c #[] c) (k:=.n 0) ?_ rfl (λB h=>.iter _ _ _ _ h) ?_ i;simp[execOp,K,f,Instr.range,run_underlying N,JP G];refine⟨b,kb,c,#[],c,rfl,m,λF T g=>?_⟩;rw[q]at g;simp only[ab,Obj'.mk.injEq,OBody.mp.injEq,true_and]at g;obtain⟨rfl,rfl⟩:=g;refine⟨zK,λ_=>⟨M,G,p,zK,?_,λk v h=>by cases h⟩⟩;have:(M.toList.filter λe=>!(#[]:Array Nat).contains e.born)=M.toList:=eP.2 (λe _=>by simp);rw[this];exact⟨by simpa using O,λj e k v r Q=>U j e k v (by simpa using r) Q⟩;cases i
theorem je0 (n:Nat):(choose (.mapNext n)).run P w=if n<=1 then .ok 0 w else .ok (w.tape w.drawn (.mapNext n) % n) w.drew:=by by_cases h:n<=1 <;> simp[choose,Sem.run,Question.forced,Question.cut,h]
theorem jy8 {m:List MapEntry}(b:(m.map (·.born)).Nodup) {e c:MapEntry}(g:e∈m) (f:c∈m) (h:e.born=c.born):e=c:=by obtain⟨i,k,rfl⟩:=cy.1 g;obtain⟨j,d,rfl⟩:=cy.1 f;have:i=j:=(List.getElem_inj (xs:=m.map (·.born)) (h₀:=by simpa using k) (h₁:=by simpa using d) b).1 (by simpa using h);subst this;rfl
theorem jnp (m:List MapEntry) (d:(m.map (·.born)).Nodup) (seen:Array Nat) (j:Nat) (e:MapEntry) (c:(m.filter λe=>!seen.contains e.born)[j]? = some e) :
 (m.filter λg=>!(seen.push e.born).contains g.born)=(m.filter λe=>!seen.contains e.born).eraseIdx j:=by
 have f:e∈m:=(bV.1 (aI c)).1;have k:(m.filter λg=>!(seen.push e.born).contains g.born)=(m.filter λe=>!seen.contains e.born).filter λg=>!(g.born == e.born):=by
  rw[List.filter_filter];refine gg λx _=>?_;have:(seen.push e.born).contains x.born=(seen.contains x.born || (x.born == e.born)):=by rw[Array.contains_push]
  rw[this,Bool.not_or,fX]
 rw[k];have b:((m.filter λe=>!seen.contains e.born).map (·.born)).Nodup:=(List.filter_sublist.map _).nodup d;generalize m.filter (λe=>!seen.contains e.born)=L at c b;clear k f d;induction L generalizing j with
 | nil=>simp at c
 | cons x L n=>
  simp only[bt,dN]at b;cases j with
  | zero=>simp only[aD,ab]at c;subst c;simp only[cq,beq_self_eq_true,cZ,aj,if_false,List.eraseIdx_cons_zero];refine eP.2 λy l=>?_;have:y.born≠x.born:=λe=>b.1 (aJ.2 ⟨y,l,e⟩);simpa using this
  | succ j=>
   simp only[bO]at c;have i:x.born≠e.born:=λh=>b.1 (aJ.2 ⟨e,aI c,h.symm⟩);have:(x.born == e.born)=false:=by simpa using i
   simp only[cq,this,cG,if_true,List.eraseIdx_cons_succ,n j c b.2]
theorem jk4 (l u l' u' ver:Nat):∀ (r b:List (V × V)) (j:Nat) (k v:V),r[j]? = some (k,v) ->
 ({ v:=.tup [.bool true,k,v],obs:=[(l,⟨u,.miter l' u' ver (b++r.eraseIdx j) (some (k,v))⟩)] }:Delta)∈jkm l u l' u' ver b r
 | [],b,j,k,v,h=>by simp at h
 | (k0,v0)::r,b,0,k,v,h=>by simp only[aD,ab,bW]at h;obtain⟨rfl,rfl⟩:=h;exact aP ..
 | (k0,v0)::r,b,j+1,k,v,h=>by simp only[bO]at h;have:=jk4 l u l' u' ver r (b++[(k0,v0)]) j k v h;rw[aY]at this;exact bf _ this
theorem EntsOk.erase {L:List MapEntry}{es:List (V × V)}(h:EntsOk γ I L es) (j:Nat):EntsOk γ I (L.eraseIdx j) (es.eraseIdx j):=by refine⟨?_,λi e k v c b=>?_⟩;rw[fQ,fQ,h.1];rw[QM]at c b;split at c;rename_i d;rw[if_pos d]at b;exact h.2 i e k v c b;rename_i d;rw[if_neg d]at b;exact h.2 (i+1) e k v c b
theorem jq6 (hR:R E w0 I0 nt γ I st a w) (hd:∀d,o.dst=some d->d<nt) {x:Operand}{x':A}{l:List Delta}(ho:o.op=.next x false) (hx:opd x=some x')
 (ha:jm7 st.ob st.ro (eval E st.tm x')=some l):∃δ∈l,XH P E w0 I0 nt γ I st a w o ub δ:=by
 have hr:=jC hR hx
 unfold jm7 at ha
 split at ha
 case h_2=>cases ha
 rename_i lb u he
 rw[he]at hr
 obtain⟨b,kb,hγ,hx'⟩:=jd6 hr
 have hover:Rep γ I (.tuple #[.bool false]) (.tup [.bool false]):=by
  refine .tup _ _ rfl (λj y v hy hv=>?_)
  match j with
  | 0=>simp at hy hv;subst hy;subst hv;exact .pure _ _ (.bool _)
  | j+1=>simp at hv
 obtain⟨Ω,hown⟩:=hR.own
 split at ha
 case h_3=>cases ha
 case h_2=>
  rename_i u0 hob
  split at ha
  case isFalse=>cases ha
  rename_i huu
  subst huu
  cases ha
  obtain⟨b',kb',k1,k2,k3,⟨since,seen,stepped,hbs⟩,k5⟩:=hown.ob lb _ hob
  rw[hγ]at k1
  cases k1
  have hg:(getObj b).run P w=.ok (.mapIter none since seen stepped) w:=by simp[getObj,Sem.run,hbs]
  refine⟨_,ae.2 rfl,jc hR hd (x:=.tuple #[.bool false]) ?_ hover rfl⟩
  simp only[execOp,ho,hx',Instr.next,aB,hg,ah,aE]
 rename_i u0 l' u' ver left last hob
 split at ha
 case isFalse=>cases ha
 rename_i hcond
 obtain⟨hro,huu,hsome,hver⟩:=hcond
 subst huu
 obtain⟨b',kb',k1,k2,k3,⟨mb,mk,since,seen,stepped,hbs,hγm,hall⟩,k5⟩:=hown.ob lb _ hob
 rw[hγ]at k1
 cases k1
 obtain⟨es',hes'⟩:=ft.1 hsome
 have hob':=X9 hes'
 rw[hver]at hob'
 obtain⟨_,himp⟩:=hall _ _ hob'
 obtain⟨m,hm,hborn,hle,hents,hlast⟩:=himp rfl
 obtain⟨M,clock,g1,g2,g3,hnd,hltc⟩:=jm5 hR hob' hγm
 rw[hm]at g1
 simp only[ab,Obj.map.injEq]at g1
 obtain⟨rfl,rfl⟩:=g1
 have hg:(getObj b).run P w=.ok (.mapIter (some mb) since seen stepped) w:=by simp[getObj,Sem.run,hbs]
 have hgm:(getObj mb).run P w=.ok (.map m stepped) w:=JP hm
 have hlt:=hown.lt _ _ k2
 have hset:∀ (W:World) (y:Obj),W.heap=w.heap->(setObj b y).run P W=.ok () { W with heap:=W.heap.setIfInBounds b y }:=by
  intro W y hW
  have:W.heap[b]? = some (.mapIter (some mb) since seen stepped):=by rw[hW];exact hbs
  simp[setObj,Sem.run,this]
 -- what may come next
 have hcnd:(!seen.isEmpty && !m.isEmpty && m.all (λe=>decide (e.born ≥ stepped)))=false:=by
  cases hme:m.isEmpty with
  | true=>simp
  | false=>
   have hne:0<m.size:=by
    rcases cM m.size with h|h
    ·rw[gy.2 h]at hme;cases hme
    ·exact h
   have:m.all (λe=>decide (e.born ≥ stepped))=false:=by
    rw[gj]
    intro hall
    rw[gm]at hall
    have h1:=hall m[0] (Array.getElem_mem hne)
    have h2:=hborn m[0] (Array.getElem_mem hne)
    simp only[decide_eq_true_eq]at h1
    omega
   rw[this];simp
 generalize hL:(m.filter λe=>!seen.contains e.born)=L
 have hLl:(m.toList.filter λe=>!seen.contains e.born)=L.toList:=by rw[<- hL,Array.toList_filter]
 rw[hLl]at hents
 have hold:(L.filter λe=>decide (e.born<since))=L:=by
  refine Array.filter_eq_self.2 λe he=>?_
  rw[<- hL]at he
  simpa using hborn e (Array.mem_filter.1 he).1
 have hnew:(L.filter λe=>decide (e.born ≥ since)) = #[]:=by
  refine Array.filter_eq_empty_iff.2 λe he=>?_
  rw[<- hL]at he
  have:=hborn e (Array.mem_filter.1 he).1
  simp only[decide_eq_true_eq]
  omega
 have hrun0:∀r,((do match ((if L.isEmpty then #[none] else #[])++(L++#[]).map some:Array (Option MapEntry))[<- choose (.mapNext ((if L.isEmpty then #[none] else #[])++(L++#[]).map some:Array (Option MapEntry)).size)]? with
  | some (some e)=>
   setObj b (.mapIter (some mb) since (seen.push e.born) stepped)
   pure (.tuple #[.bool true,e.key,e.val])
  | some none=>pure (.tuple #[.bool false])
  | none=>stuck "Next: no such candidate"):Sem Value).run P w=r->(Instr.next (.pointer (some ⟨b,0,none⟩)) false o.type).run P w=r:=by
  intro r h
  rw[<- h]
  simp only[Instr.next,aB,hg,hgm,ah,hcnd,aj,if_false,hL,hold,hnew]
  rfl
 split at ha
 ·cases ha
  have hl0:L.toList=[]:=dL (by rw[hents.1];rfl)
  have hL0:L = #[]:=by rw[<- Array.toArray_toList (xs:=L),hl0]
  refine⟨_,ae.2 rfl,jc hR hd (x:=.tuple #[.bool false]) ?_ hover rfl⟩
  have:=hrun0 (.ok (.tuple #[.bool false]) w) (by
   subst hL0
   simp only[List.isEmpty_toArray,List.isEmpty_nil,if_true,fg,de,cm,cW,bo,cC,bM,aB,je0,dr,ah,bK,aD,aE])
  simp only[execOp,ho,hx',aB,this,ah,aE]
 ·rename_i es hne
  cases ha
  have hpos:0<left.length:=dy.2 hne
  have hsz:L.size=left.length:=by rw[<- hents.1,aL]
  have hie:L.isEmpty=false:=by
   rw[gj]
   intro h
   have:=gy.1 h
   omega
  have hch:∃j W,(choose (.mapNext L.size)).run P w=.ok j W/\j<L.size/\(W=w\/W=w.drew):=by
   rw[je0]
   split
   ·exact⟨0,w,rfl,zO,.inl rfl⟩
   ·exact⟨_,_,rfl,Nat.mod_lt _ zO,.inr rfl⟩
  obtain⟨j,W,hc,hj,hW⟩:=hch
  have hWh:W.heap=w.heap:=by rcases hW with rfl|rfl <;> rfl
  have hWo:W.os=w.os/\W.tape=w.tape/\W.output=w.output:=by rcases hW with rfl|rfl <;> exact⟨rfl,rfl,rfl⟩
  have hej:L.toList[j]? = some L[j]:=by rw[bn,aA hj]
  have hlj:left[j]? = some (left[j]' zO):=aa _
  generalize hkv:left[j]' zO=kv at hlj
  obtain⟨k,v⟩:=kv
  generalize hE:L[j]=en at hej
  have hkr:=hents.2 j en k v hej hlj
  have hrun:=hrun0 (.ok (.tuple #[.bool true,en.key,en.val]) { W with heap:=W.heap.setIfInBounds b (.mapIter (some mb) since (seen.push en.born) stepped) }) (by
   have hsz2:(Array.map some L).size=L.size:=Array.size_map
   have hget:(Array.map some L)[j]? = some (some en):=by rw[Array.getElem?_map,aA hj,hE];rfl
   simp only[hie,aj,if_false,fg,fe,hsz2,aB,hc,ah,hget,hset W _ hWh,aE])
  refine⟨_,jk4 lb u0 l' u' ver left [] j k v hlj,WA hR hd hob hro (body':=.miter l' u' ver ([]++left.eraseIdx j) (some (k,v))) (x:=.tuple #[.bool true,en.key,en.val]) (w':={ W with heap:=W.heap.setIfInBounds b (.mapIter (some mb) since (seen.push en.born) stepped) }) (.inl ?_) ?_ (λv es h=>by cases h) ?_ rfl⟩
  ·simp only[execOp,ho,hx',aB,hrun,ah,aE]
  ·refine .tup _ _ rfl (λi y q hy hq=>?_)
   match i with
   | 0=>simp at hy hq;subst hy;subst hq;exact .pure _ _ (.bool _)
   | 1=>simp at hy hq;subst hy;subst hq;exact .pure _ _ hkr.1
   | 2=>simp at hy hq;subst hy;subst hq;exact hkr.2
   | i+3=>simp at hq
  ·intro b2 k2' hb2 hlt2
   rw[hγ]at hb2
   cases hb2
   refine⟨hWo.1,hWo.2.1,hWo.2.2,by simp[hWh],λq hq=>by show(W.heap.setIfInBounds b _)[q]? = _;rw[hWh];exact Jp w b q _ hq,?_⟩
   have hblk:({ W with heap:=W.heap.setIfInBounds b (.mapIter (some mb) since (seen.push en.born) stepped) }:World).heap[b]? = some (.mapIter (some mb) since (seen.push en.born) stepped):=by
    show(W.heap.setIfInBounds b _)[b]? = _
    rw[hWh]
    exact JB w b _ hlt
   rw[hblk]
   refine⟨mb,mk,since,_,stepped,rfl,hγm,λver' es2 he2=>?_⟩
   rw[hob']at he2
   simp only[ab,Obj'.mk.injEq,OBody.mp.injEq,true_and]at he2
   obtain⟨rfl,rfl⟩:=he2
   refine⟨zK,λ_=>⟨m,hm,hborn,hle,?_,λk2 v2 hlast2=>?_⟩⟩
   ·rw[dl,jnp m.toList hnd seen j en (by rw[hLl];exact hej),hLl]
    exact hents.erase j
   ·simp only[ab,bW]at hlast2
    obtain⟨rfl,rfl⟩:=hlast2
    have hmem:en∈m.toList:=by
     have:=aI hej
     rw[<- hLl]at this
     exact(bV.1 this).1
    refine⟨en.born,en,zS,?_,hkr.1,hkr.2⟩
    cases hfd:m.find? (λe=>e.born == en.born) with
    | none=>
     have:=Array.find?_eq_none.1 hfd en (by simpa using hmem)
     simp at this
    | some e2=>
     have h1:=Array.mem_of_find?_eq_some hfd
     have h2:=Array.find?_some hfd
     have he2:e2=en:=jy8 hnd (by simpa using h1) hmem (by simpa using h2)
     rw[he2]
theorem jy3 (T:R E w0 I0 nt γ I st a w) (hd:∀d,o.dst=some d->d<nt) {x:Operand}{x':A}(ho:o.op=.entry x) (hx:opd x=some x')
 (p:(match eval E st.tm x' with
  | .iter l u=>match st.ob l with
   | some ⟨u',.miter U u2 B _ (some (k,v))⟩=>if u'=u/\(jn st.ob U u2).isSome=true/\jq st.ob U=B then one (.tup [k,v]) else none
   | _=>none
  | _=>none)=some δ):XH P E w0 I0 nt γ I st a w o ub δ:=by
 have hr:=jC T hx;split at p;case h_2=>cases p
 rename_i lb u he;rw[he]at hr;obtain⟨b,kb,L,J⟩:=jd6 hr;obtain⟨Ω,r⟩:=T.own;split at p;case h_2=>cases p
 rename_i u0 U u' B left k v N;split at p;case isFalse=>cases p
 rename_i h;obtain⟨O,g,G⟩:=h;subst O;obtain⟨b',b5,Z,k2,k3,⟨mb,mk,n,t,c,K,a0,F⟩,k5⟩:=r.ob lb _ N;rw[L]at Z;cases Z;obtain⟨b0,s⟩:=ft.1 g;have f:=X9 s;rw[G]at f;obtain⟨_,D⟩:=F _ _ f;obtain⟨m,hm,Q,b6,M,j⟩:=D rfl;obtain⟨S,e,h1,h2,h3,h4⟩:=j k v rfl;have hg:(getObj b).run P w=.ok (.mapIter (some mb) n t c) w:=by simp[getObj,Sem.run,K]
 have X:(getObj mb).run P w=.ok (.map m c) w:=JP hm;refine jc T hd (x:=.tuple #[e.key,e.val]) ?_ ?_ p;have hb:(c != c)=false:=zS;simp only[execOp,ho,J,Instr.entry,aB,hg,X,ah,h1,hb,aj,if_false,h2,aE];refine .tup _ _ rfl (λi y q H z=>?_);match i with
 | 0=>simp at H z;subst H;subst z;exact .pure _ _ h3
 | 1=>simp at H z;subst H;subst z;exact h4
 | i+2=>simp at z
end
section
variable {P:Program}{E:Env}{w0 w:World}{I0:IMap}{nt:Nat}{γ:Nat->Option Place}{I:IMap}{st:St}{a:Act}{o:Oper}{ub:Nat}{δ:Delta}
theorem jub (hR:R E w0 I0 nt γ I st a w) (hd:∀d,o.dst=some d->d<nt) {t kt e:TypeId}{m k:Operand}{m' k':A}{q:LK}{i:TypeInfo}{z:Value}{zv:V}(ho:o.op=.mapEntry t m k) (hm:opd m=some m') (p:opd k=some k')
 (L:P.underlying t=some (.map kt e)) (hq:jl9 P kt=some q) (hi:P.info? e=some i) (hz:i.zero=some z) (c4:W0 z=some zv)
 (B:(if jbs q (eval E st.tm k') then match eval E st.tm m' with
  | .map l u=>if Nat.ble st.ro u && Nat.blt (jq st.ob l) jw8 then (jn st.ob l u).bind λG=>(findKey q (eval E st.tm k') G).bind λr=>match r with
   | some (i,v)=>some { v:=.tup [v,.int .i64 i],obs:=[(l,⟨u,.mp (jq st.ob l+1) (G.set i (eval E st.tm k',v))⟩)] }
   | none=>some { v:=.tup [zv,.int .i64 G.length],obs:=[(l,⟨u,.mp (jq st.ob l+1) (G++[(eval E st.tm k',zv)])⟩)] }
   else none
  | _=>none else none)=some δ):XH P E w0 I0 nt γ I st a w o ub δ:=by
 obtain⟨d,J,Q⟩:=jd3 hq;have b7:=jC hR hm;have T:=jC hR p;have b6:Rep γ I z zv:=.pure _ _ (jag c4);have O:∀ (x:Value) (v:V) (n:Nat),Rep γ I x v->Rep γ I (.tuple #[x,goInt n]) (.tup [v,.int .i64 n]):=by
  intro x v n h;refine .tup _ _ rfl (λj y u hy L=>?_);match j with
  | 0=>simp at hy L;subst hy;subst L;exact h
  | 1=>simp at hy L;subst hy;subst L;exact .pure _ _ (.int _ _)
  | j+2=>simp at L
 split at B
 ·rename_i b5;have b8:=ju8 T b5;split at B
  ·rename_i l u f;rw[f]at b7;obtain⟨b,kb,Z,b9⟩:=Wl b7;split at B;case isFalse=>cases B
   rename_i D;rw[ai]at D;obtain⟨D,S⟩:=D;have S:jq st.ob l<jw8:=by simpa using S
   obtain⟨G,c6,B⟩:=bind_some B;obtain⟨r,hr,B⟩:=bind_some B;have a0:=X9 c6;obtain⟨M,c,h1,h2,h3,c2,X,c5⟩:=jbg hR a0 Z;have hD:=c5 S;have d4:b<w.heap.size:=(aM.1 h1).1;have c7:=Yj Q T M.toList G 0 r (by simpa using h2) (λj e k v f p=>h3 j e k v (by simpa using f) p) hr;rcases c7 with⟨rfl,hf⟩|⟨j,v0,K,rfl,d0,⟨b0,N,c3⟩,hf⟩
   ·refine WA hR hd a0 D (body':=.mp _ _) (x:=.tuple #[z,goInt c]) (v:=.tup [zv,.int .i64 G.length]) (w':={ w with heap:=w.heap.setIfInBounds b (.map (M.push { key:=a.eval k,val:=z,born:=c }) (c+1)) }) (.inl ?_) ?_ (λv G h=>by cases h;exact⟨_,_,rfl,cR _⟩) ?_ B;simp only[execOp,ho,b9,Instr.mapEntry,aB,run_underlying L,ah,aE,JP h1,JE J Q,Jn J hf,J9 hi hz,Xh h1];have:c=G.length:=hD.1.trans h2;rw[this];exact O _ _ _ b6
    ·intro b' k0 H F;rw[Z]at H;cases H;refine⟨rfl,rfl,rfl,zS,λk p=>Jp w b k _ p,?_⟩;rw[JB w b _ F];refine⟨_,_,rfl,jan (by simp[h2]) (λj K kk vv f p=>?_),?_,λe f=>?_,λ_=>jh3 hD⟩;case refine_2=>
      rw[Array.toList_push,bF,bt,cm]
      refine di.2 ⟨c2,zS,λx hx y hy=>?_⟩
      simp only[ae]at hy
      subst hy
      obtain⟨e,f,rfl⟩:=aJ.1 hx
      exact eR (X e (by simpa using f))
     case refine_3=>rcases Array.mem_push.1 f with f|rfl;exact Nat.lt_succ_of_lt (X e f);exact cR _
     rw[fV]at f;split at f;rename_i hj;cases f;subst hj;rw[bp zO,h2]at p;simp at p;obtain⟨rfl,rfl⟩:=p;exact⟨b8,b6⟩;rename_i hj;have d3:j<G.length:=by have:=(aM.1 f).1;omega
     rw[aV d3]at p;exact h3 j K kk vv f p
   ·have g:M[j]? = some K:=by simpa using d0
    have d5:j<M.size:=(aM.1 g).1;have c1:=(h3 j K b0 v0 g N).2;have U:K.born=j:=hD.2 j K g;refine WA hR hd a0 D (body':=.mp _ _) (x:=.tuple #[K.val,goInt j]) (v:=.tup [v0,.int .i64 j]) (w':={ w with heap:=w.heap.setIfInBounds b (.map (M.modify j λe=>{ e with key:=a.eval k }) c) }) (.inl ?_) (O _ _ _ c1) (λv G h=>by cases h;exact⟨_,_,rfl,cR _⟩) ?_ (by simpa using B);have c9:(Instr.keyThatStays K.key (a.eval k)).run P w=.ok (a.eval k) w:=jo7 (γ:=γ) (I:=I) T (.pure _ _ (h3 j K b0 v0 g N).1) c3;simp only[bM]at hf;simp only[execOp,ho,b9,Instr.mapEntry,aB,run_underlying L,ah,aE,JP h1,JE J Q,Jn J hf,g,aU,cw,c9,Xh h1,U]
    ·intro b' k0 H F;rw[Z]at H;cases H;refine⟨rfl,rfl,rfl,zS,λk p=>Jp w b k _ p,?_⟩;rw[JB w b _ F];have c0:(M.modify j λe=>{ e with key:=a.eval k }).toList.map (·.born)=M.toList.map (·.born):=by apply dj;intro i;simp only[aX,bn,cY];by_cases s:j=i;subst s;simp[g];simp[s]
     refine⟨_,_,rfl,jan (by simp[h2]) (λi c8 kk vv f p=>?_),by rw[c0];exact c2,λe f=>?_,λ_=>QQ (λ_=>rfl) hD⟩;case refine_2=>
      have:e.born∈(M.modify j λe=>{ e with key:=a.eval k }).toList.map (·.born):=aJ.2 ⟨e,dg.2 f,rfl⟩
      rw[c0]at this
      obtain⟨e2,d1,d2⟩:=aJ.1 this
      rw[<- d2]
      exact X e2 (by simpa using d1)
     rw[cY]at f;by_cases s:j=i;subst s;simp only[if_true,g,aU,ab]at f;subst f;rw[dz zO]at p;cases p;exact⟨b8,c1⟩;rw[if_neg s]at f;rw[cN s]at p;exact h3 i c8 kk vv f p
  cases B
 cases B
theorem jy4 (Q:R E w0 I0 nt γ I st a w) (hd:∀d,o.dst=some d->d<nt) {t:TypeId}{m s x:Operand}{m' s' x':A}(ho:o.op=.entryStore t m s x) (hm:opd m=some m') (hs:opd s=some s') (hx:opd x=some x')
 (r:(match eval E st.tm m',eval E st.tm s' with
  | .map l u,.int .i64 (.ofNat n)=>if Nat.ble st.ro u && Nat.blt (jq st.ob l) jw8 then (jn st.ob l u).bind λT=>match T[n]? with
   | some (k,_)=>some { v:=ju,obs:=[(l,⟨u,.mp (jq st.ob l+1) (T.set n (k,(eval E st.tm x').strip))⟩)] }
   | none=>none
   else none
  | _,_=>none)=some δ):XH P E w0 I0 nt γ I st a w o ub δ:=by
 have S:=jC Q hm;have J:=jC Q hs;have b7:=(jC Q hx).strip;split at r
 ·rename_i l u n q B;rw[q]at S;rw[B]at J;obtain⟨b,kb,F,X⟩:=Wl S;have Z:=J5 J;split at r;case isFalse=>cases r
  rename_i g;rw[ai]at g;obtain⟨g,y⟩:=g;have y:jq st.ob l<jw8:=by simpa using y
  obtain⟨T,B,r⟩:=bind_some r;have L:=X9 B;obtain⟨M,z,h1,h2,h3,b0,U,b5⟩:=jbg Q L F;have hD:=b5 y;split at r;case h_2=>cases r
  rename_i k0 v0 K;have f:n<M.size:=by rw[h2];exact(ak.1 K).1
  have p:M[n]? = some M[n]:=aA f;have b9:M.findIdx? (λe=>(e.born:Int) == (n:Int))=some n:=by rw[Array.findIdx?_eq_some_iff_getElem];refine⟨f,by rw[hD.2 n _ p];simp,λj hj=>?_⟩;have:=hD.2 j _ (aA (Nat.lt_trans hj f));simp only[this,Bool.not_eq_true,beq_eq_false_iff_ne,ne_eq];omega
  have N:M.findIdx? (λe=>(e.born:Int) == (Int.ofNat n))=some n:=b9;refine WA Q hd L g (body':=.mp _ _) (x:=undef) (v:=ju) (w':={ w with heap:=w.heap.setIfInBounds b (.map (M.modify n λe=>{ e with val:=a.eval x }) z) }) (.inr ⟨?_,rfl⟩) (.tup _ _ rfl zS) (λv T h=>by cases h;exact⟨_,_,rfl,cR _⟩) ?_ r;simp only[execOp,ho,X,Z,Instr.entryStore,asInt,asIntOf,aB,ah,aE,JP h1,N,Xh h1]
  ·intro b' k1 O H;rw[F]at O;cases O;refine⟨rfl,rfl,rfl,zS,λk D=>Jp w b k _ D,?_⟩;rw[JB w b _ H];have G:(M.modify n λe=>{ e with val:=a.eval x }).toList.map (·.born)=M.toList.map (·.born):=by apply dj;intro i;simp only[aX,bn,cY];by_cases c:n=i;subst c;simp[p];simp[c]
   refine⟨_,_,rfl,jan (by simp[h2]) (λi b8 kk vv q D=>?_),by rw[G];exact b0,λe q=>?_,λ_=>QQ (λ_=>rfl) hD⟩;case refine_2=>
    have:e.born∈(M.modify n λe=>{ e with val:=a.eval x }).toList.map (·.born):=aJ.2 ⟨e,dg.2 q,rfl⟩
    rw[G]at this
    obtain⟨e2,a0,b6⟩:=aJ.1 this
    rw[<- b6]
    exact U e2 (by simpa using a0)
   rw[cY]at q;by_cases c:n=i;subst c;simp only[if_true,p,aU,ab]at q;subst q;rw[dz zO]at D;cases D;exact⟨(h3 n _ _ _ p K).1,b7⟩;rw[if_neg c]at q;rw[cN c]at D;exact h3 i b8 kk vv q D
 cases r
end
section
variable {P:Program}{E:Env}{w0 w:World}{I0:IMap}{nt:Nat}{γ:Nat->Option Place}{I:IMap}{st:St}{a:Act}{o:Oper}{ub:Nat}{δ:Delta}
theorem jd0 {xs:Array Operand}{y:A}(h:opds xs=some [y]):∃x,xs = #[x]/\opd x=some y:=by
 obtain⟨c,b⟩:=jy h;obtain⟨l⟩:=xs;match l,c,b with
 | [x],_,b=>exact⟨x,rfl,b 0 x y rfl rfl⟩
theorem jiv {xs:Array Operand}{y z:A}(h:opds xs=some [y,z]):∃x b,xs = #[x,b]/\opd x=some y/\opd b=some z:=by
 obtain⟨d,c⟩:=jy h;obtain⟨l⟩:=xs;match l,d,c with
 | [x,b],_,c=>exact⟨x,b,rfl,c 0 x y rfl rfl,c 1 b z rfl rfl⟩
theorem jkw (H:R E w0 I0 nt γ I st a w) (q:∀d,o.dst=some d->d<nt) (y:γ ub=none) {t e:TypeId}{s x:Operand}{s' M:A}{i:TypeInfo}{z:Value}{d:Nat}{m:Bool}(B:o.op=.call { callee:=.builtin .append,args:=#[s,x],argTypes:=#[t,t] })
 (F:opd s=some s') (G:opd x=some M) (D:P.underlying t=some (.slice e)) (hi:P.info? e=some i) (r:i.zero=some z) (j:0<i.size) (p:z.cells.size=i.size) {Q:FuncId->List V->Option V}
 (h:aop Q (eval E st.tm) st.ob st.tk st.ro d ub (.append m i.size i.bytes s' M)=some δ):XH P E w0 I0 nt γ I st a w o ub δ:=by
 simp only[aop]at h;split at h;rename_i O S n cs c;obtain⟨N,f,g⟩:=bind_some h;clear h;by_cases b:N=[];rw[if_pos b]at g;exact jkx H q y B F G D hi r j p (by rw[c];simp only[f,am];rw[if_pos b];exact g);rw[if_neg b]at g;by_cases k:(m && S)=true;rw[if_pos k]at g;simp only[ai]at k;obtain⟨rfl,rfl⟩:=k;simp only[aC]at g;obtain⟨L,g⟩:=g;exact jhi H q y B F G D hi r j p f (.inl ⟨O,n,cs,c,b,L.2.1,L.2.2.1,L.2.2.2,g⟩);rw[if_neg k]at g;exact jkx H q y B F G D hi r j p (by rw[c];simp only[f,am];rw[if_neg b];exact g);rename_i l u off n J c;obtain⟨N,f,h⟩:=bind_some h;obtain⟨cs,K,h⟩:=bind_some h;exact jhi H q y B F G D hi r j p f (.inr ⟨l,u,off,n,J,cs,c,K,h⟩);cases h
theorem op_ok {m:Bool}{ao:AOp}{cd:FuncId->List V->Option V}{d:Nat}(u:R E w0 I0 nt γ I st a w) (r:∀d,o.dst=some d->d<nt) (U:γ ub=none) (h:Jk P m o=some ao) (hn:ao.isCall=false)
 (p:aop cd (eval E st.tm) st.ob st.tk st.ro d ub ao=some δ):XH P E w0 I0 nt γ I st a w o ub δ:=by
 unfold Jk at h;split at h;rename_i c T;obtain⟨c5,c2,b9⟩:=c;unfold Qg at h;split at h;obtain⟨l,B,rfl⟩:=map_some h;split at hn;rename_i k M;exact ok_ext u r T (by assumption) B M (by simp only[M]at p;exact p);cases hn;obtain⟨_,_,h⟩:=bind_some h;obtain⟨_,_,rfl⟩:=map_some h;cases hn;cases h;rename_i b a0;simp only at a0;subst a0;have h:=(cE.1 h).1;simp only at h;unfold jf7 at h;split at h;obtain⟨l,B,h⟩:=bind_some h;split at h;rename_i F;cases h;obtain⟨x,rfl,j⟩:=jd0 B;obtain⟨t,O,L⟩:=bind_some F;exact jue u r T j O L p;rename_i F;cases h;obtain⟨x,rfl,j⟩:=jd0 B;obtain⟨t,O,L⟩:=bind_some F;exact jyz u r T j O L p;rename_i F;cases h;obtain⟨x,rfl,j⟩:=jd0 B;obtain⟨t,O,L⟩:=bind_some F;exact juf u r T j O L p;cases h;obtain⟨l,B,h⟩:=bind_some h;split at h;rename_i b0;split at h;rename_i b8;subst b8;split at h;rename_i L;obtain⟨i,N,h⟩:=bind_some h;obtain⟨z,J,h⟩:=bind_some h;split at h;rename_i S;cases h;obtain⟨x,y,rfl,j,H⟩:=jiv B;obtain⟨l2⟩:=b9;simp only at b0;subst b0;exact jkw u r U T j H L N J S.1 S.2 p;cases h;cases h;cases h;cases h;obtain⟨l,B,rfl⟩:=map_some h;exact jkt (isMax:=false) u r T B p;obtain⟨l,B,rfl⟩:=map_some h;exact jkt (isMax:=true) u r T B p;obtain⟨l,B,h⟩:=bind_some h;split at h;rename_i F;obtain⟨sz,S,rfl⟩:=map_some h;obtain⟨x,y,rfl,j,H⟩:=jiv B;obtain⟨t,O,L⟩:=bind_some F;exact j4f u r T O j H L S p;cases h;obtain⟨l,B,h⟩:=bind_some h;split at h;rename_i F;obtain⟨sz,S,h⟩:=bind_some h;obtain⟨z,J,rfl⟩:=map_some h;obtain⟨x,rfl,j⟩:=jd0 B;obtain⟨t,O,L⟩:=bind_some F;exact jy5 u r T O j L J p;cases h;obtain⟨l,B,h⟩:=bind_some h;split at h;rename_i F;obtain⟨q,X,rfl⟩:=map_some h;obtain⟨x,y,rfl,j,H⟩:=jiv B;obtain⟨t,O,L⟩:=bind_some F;exact juc u r T O j H L X p;cases h;cases h;obtain⟨G,j,rfl⟩:=map_some h;cases p;have h:=(cE.1 h).1;unfold jnt at h;split at h;obtain⟨y,H,rfl⟩:=map_some h;exact jua u r (.inl (by assumption)) H p;obtain⟨y,H,rfl⟩:=map_some h;exact jua u r (.inr (by assumption)) H p;obtain⟨c',h1,h⟩:=bind_some h;obtain⟨G,h2,h⟩:=bind_some h;obtain⟨y',h3,rfl⟩:=map_some h;exact j4b u r (by assumption) h1 h2 h3 p;obtain⟨z,J,rfl⟩:=map_some h;exact jy6 u r U (by assumption) J p;obtain⟨n,h1,h⟩:=bind_some h;obtain⟨G,h2,rfl⟩:=map_some h;exact ok_box u r U (by assumption) h2 p;obtain⟨z,J,h⟩:=bind_some h;split at h;obtain⟨b7,hp,h⟩:=bind_some h;obtain⟨l,B,rfl⟩:=map_some h;exact jo0 u r (by assumption) J (.inl ⟨_,_,by assumption,hp,rfl⟩) B p;obtain⟨s,K,h⟩:=bind_some h;obtain⟨l,B,rfl⟩:=map_some h;exact jo0 u r (by assumption) J (.inr ⟨_,_,_,by assumption,K,rfl⟩) B p;cases h;split at h;obtain⟨s,K,h⟩:=bind_some h;obtain⟨z,J,h⟩:=bind_some h;split at h;rename_i D;obtain⟨l,B,rfl⟩:=map_some h;cases m with
 | false=>exact jq8 u r U (by assumption) (by assumption) K J D.1 D.2.1 D.2.2 B p
 | true=>exact jm4 u r U (by assumption) (by assumption) K J D.1 D.2.1 D.2.2 B p
 cases h;cases h;obtain⟨g,hg,h⟩:=bind_some h;obtain⟨G,j,rfl⟩:=map_some h;exact j4e u r (by assumption) j hg p;obtain⟨s,K,h⟩:=bind_some h;obtain⟨G,j,h⟩:=bind_some h;obtain⟨y',H,rfl⟩:=map_some h;exact jyu u r (by assumption) j H K p;obtain⟨G,j,rfl⟩:=map_some h;exact jm3 u r (by assumption) j p;obtain⟨G,j,h⟩:=bind_some h;obtain⟨y',H,h⟩:=bind_some h;split at h;split at h;cases h;exact juk u r (by assumption) j H p;obtain⟨k,M,rfl⟩:=map_some h;simp only[aop]at p;split at p;exact joz u r (neg:=false) (by assumption) j H M (by assumption) (by assumption) p;exact ok_eq u r (neg:=false) (by assumption) j H M p;split at h;cases h;exact juk u r (by assumption) j H p;obtain⟨k,M,rfl⟩:=map_some h;simp only[aop]at p;split at p;exact joz u r (neg:=true) (by assumption) j H M (by assumption) (by assumption) p;exact ok_eq u r (neg:=true) (by assumption) j H M p;cases h;exact juk u r (by assumption) j H p;obtain⟨G,j,rfl⟩:=map_some h;exact ok_un u r (by assumption) j p;split at h;obtain⟨G,j,rfl⟩:=map_some h;exact j4g u r (by assumption) j (by assumption) (by assumption) p;obtain⟨G,j,rfl⟩:=map_some h;exact juj u r (by assumption) j (by assumption) (by assumption) p;split at h;obtain⟨G,j,rfl⟩:=map_some h;exact jyx u r U (by assumption) j (by assumption) (by assumption) (by assumption) p;cases h;cases h;split at h;cases h;rename_i L b6;obtain⟨G,j,rfl⟩:=map_some h;exact jy0 u r (by assumption) j (by assumption) (λms e=>by subst e;simp_all) p;cases h;obtain⟨xs,j,h⟩:=bind_some h;obtain⟨ys,H,rfl⟩:=map_some h;exact j4d u r (by assumption) j H p;cases h;exact jyy u r U (by assumption) p;split at h;obtain⟨i,N,h⟩:=bind_some h;obtain⟨z,J,h⟩:=bind_some h;obtain⟨l',B,h⟩:=bind_some h;obtain⟨c',c0,rfl⟩:=map_some h;exact j4c u r U (by assumption) B c0 (by assumption) N J p;cases h;split at h;cases h;rename_i b6 L;obtain⟨i,N,h⟩:=bind_some h;obtain⟨z,J,h⟩:=bind_some h;obtain⟨zv,Q,h⟩:=bind_some h;obtain⟨G,j,rfl⟩:=map_some h;exact jul u r (by assumption) j L (λms e=>b6 ms e) N J Q p;cases h;obtain⟨G,j,h⟩:=bind_some h;obtain⟨c4,B,h⟩:=bind_some h;obtain⟨c3,hh,h⟩:=bind_some h;split at h;cases h;exact jyv u r (by assumption) j B hh (by assumption) p;obtain⟨s,K,rfl⟩:=map_some h;exact j4a u r (by assumption) j B hh (by assumption) K p;split at h;obtain⟨s,K,rfl⟩:=map_some h;exact jyw u r (by assumption) j B hh (by assumption) (by assumption) K p;cases h;cases h;obtain⟨f,b5,h⟩:=bind_some h;obtain⟨n,c1,h⟩:=bind_some h;split at h;cases h;obtain⟨G,j,rfl⟩:=map_some h;exact jkv u r (by assumption) j b5 c1 (by assumption) p;obtain⟨f,b5,h⟩:=bind_some h;obtain⟨g,hg,h⟩:=bind_some h;obtain⟨G,j,rfl⟩:=map_some h;exact jy2 u r (by assumption) j b5 hg p;obtain⟨G,j,h⟩:=bind_some h;obtain⟨i',N,h⟩:=bind_some h;split at h;obtain⟨s,K,h⟩:=bind_some h;split at h;cases h;cases h;exact jy1 u r (by assumption) j N (by assumption) K (by assumption) p;obtain⟨s,K,rfl⟩:=map_some h;exact jui u r (by assumption) j N (by assumption) K p;cases h;obtain⟨G,j,h⟩:=bind_some h;obtain⟨i',N,h⟩:=bind_some h;split at h;cases h;exact juh u r (by assumption) j N (by assumption) p;obtain⟨s,K,h⟩:=bind_some h;obtain⟨g,hg,rfl⟩:=map_some h;exact jug u r (by assumption) j N (by assumption) K hg p;cases h;split at h;obtain⟨q,X,h⟩:=bind_some h;obtain⟨i,N,h⟩:=bind_some h;obtain⟨z,J,h⟩:=bind_some h;obtain⟨zv,Q,h⟩:=bind_some h;obtain⟨m',Z,h⟩:=bind_some h;obtain⟨k',M,rfl⟩:=map_some h;exact jud u r (by assumption) Z M (by assumption) X N J Q p;cases h;split at h;obtain⟨q,X,h⟩:=bind_some h;obtain⟨m',Z,h⟩:=bind_some h;obtain⟨k',M,h⟩:=bind_some h;obtain⟨v',hv,rfl⟩:=map_some h;exact jku u r (.inl (by assumption)) Z M hv (by assumption) X p;cases h;split at h;obtain⟨q,X,h⟩:=bind_some h;obtain⟨m',Z,h⟩:=bind_some h;obtain⟨k',M,h⟩:=bind_some h;obtain⟨v',hv,rfl⟩:=map_some h;exact jku u r (.inr (by assumption)) Z M hv (by assumption) X p;cases h;split at h;obtain⟨q,X,h⟩:=bind_some h;obtain⟨i,N,h⟩:=bind_some h;obtain⟨z,J,h⟩:=bind_some h;obtain⟨zv,Q,h⟩:=bind_some h;obtain⟨m',Z,h⟩:=bind_some h;obtain⟨k',M,rfl⟩:=map_some h;exact jub u r (by assumption) Z M (by assumption) X N J Q p;cases h;obtain⟨m',Z,h⟩:=bind_some h;obtain⟨s',K,h⟩:=bind_some h;obtain⟨G,j,rfl⟩:=map_some h;exact jy4 u r (by assumption) Z K j p;split at h;obtain⟨G,j,rfl⟩:=map_some h;exact jm1 u r U (by assumption) j (by assumption) p;obtain⟨G,j,rfl⟩:=map_some h;exact jm2 u r U (by assumption) j (by assumption) p;cases h;obtain⟨G,j,rfl⟩:=map_some h;exact jq5 u r (by assumption) j p;obtain⟨G,j,rfl⟩:=map_some h;exact jy3 u r (by assumption) j p;obtain⟨G,j,rfl⟩:=map_some h;exact jq7 u r (by assumption) j p;cases h
end
def C.dstOk (n:Nat):C->Bool
 | .region ops|.draw ops _=>ops.all λo=>match o.dst with|some d=>Nat.blt d n|none=>true
 | .pin o fs=>(o::fs).all λo=>match o.dst with|some d=>Nat.blt d n|none=>true
 | .seq a b|.cond _ a b=>a.dstOk n && b.dstOk n
 | .block _ a|.loop a=>a.dstOk n
 | .rangeFunc _ ps a b=>(ps.all λp=>Nat.blt p n) && a.dstOk n && b.dstOk n
 | _=>true
def jK (P:Program) (r:Bool) (f:FuncId) (af:AF):Prop:=∃m fn c,P.funcs[f]? = some fn/\fn.body=some c/\comp P m r c=some af.body/\fn.results.toList.mapM (Yl P)=some af.res /\
 (fn.name == "runtime.NumGoroutine")=false/\af.body.dstOk fn.ntmps=true
def jie (m:Option FuncId) (x:Value):Array Value:=match m with
 | none=>#[x]
 | some g=>#[x,.func (.func g) #[] #[]]
def jjk (P:Program) (f:FuncId) (m:Option FuncId):Prop :=
 (∃ fn c,P.funcs[f]? = some fn/\fn.body=some c/\(fn.name == "runtime.NumGoroutine")=false) /\
 (∀ (p:Option Addr) (cap:Nat) (w:World),Calls P f (jie m (.slice p 0 cap)) w λe w'=>e=.returned (.tuple #[])/\w'=w) /\
 ∀ (blk off cap n:Nat) (zs:List Int) (w:World),zs.length=n*jgl m->jof m zs=true->Go.Sort.Holds (Value.int .i64) w blk off zs.toArray->blk<w.heap.size->n<4611686018427387904 ->
  Calls P f (jie m (.slice (some ⟨blk,off,none⟩) n cap)) w λe w'=>e=.returned (.tuple #[])/\∃n os,w'=Go.Sort.grow (Go.Sort.putRow (Value.int .i64) (Go.Sort.ahead w n) blk off (Wx m zs).toArray) os
def j62 (P:Program) (f:FuncId) (cs:List V):Prop :=
 (∃ fn c,P.funcs[f]? = some fn/\fn.body=some c/\(fn.name == "runtime.NumGoroutine")=false) /\
 ∀ (p:Option Addr) (cap:Nat) (w:World),Calls P f #[.slice p 0 cap] w λe w'=>e=.returned (.pointer (some ⟨w.heap.size,0,none⟩))/\∃xs t,w'=w.alloc (.cells xs t)/\xs.size=cs.length/\∀ (j:Nat) (x:Value) (v:V),xs[j]? = some x->cs[j]? = some v->v.leaf=true/\∀I,RepP I x v
structure EnvOk (P:Program) (E:Env):Prop where
 fc:∀f af,E.fc f=some af->jK P false f af
 fs:∀f af,E.fs f=some af->jK P true f af
 srt:∀f m,E.srt f=some m->jjk P f m
 nw:∀f cs,E.nw f=some cs->j62 P f cs
def jl7 (I:IMap) (w:World):Prop:=∀b o x,I b o=some x->w.cell? ⟨b,o,none⟩=some x
def GlOk (E:Env) (I:IMap):Prop:=∀g cs,E.gl g=some cs->RepP I (.pointer (some ⟨g,0,none⟩)) (.eptr cs 0)
def jl3 (B:Nat) (τ:Nat->Option Place) (I:IMap) (w:World) (r:V):Prop :=
 ∀i∈toksRes r,∃b n cap sz,τ i=some (.tok b n cap sz)/\B<=b/\b<w.heap.size/\j6x w.heap[b]? n cap sz/\(∀j,n*sz<=j->I b j=none)/\∀i'∈toksRes r,∀n' c' s',τ i'=some (.tok b n' c' s')->i'=i
def jw4 (τ:Nat->Option Place) (I:IMap) (x:Value) (v:V):Prop :=
 match v with
 | .sl (some _) _ _ _=>Rep τ I x v
 | v=>RepP I x v
def jr6 (τ:Nat->Option Place) (I:IMap) (x:Value) (v:V):Prop :=
 match v with
 | .agg cs=>∃xs:Array Value,x=.agg xs/\xs.size=cs.length/\(∀ (j:Nat) (u:V),cs[j]? = some u->u.leaf=true)/\∀ (j:Nat) (y:Value) (u:V),xs[j]? = some y->cs[j]? = some u->jw4 τ I y u
 | v=>jw4 τ I x v
def jw2 (τ:Nat->Option Place) (I:IMap) (x:Value) (r:V):Prop :=
 match r with
 | .tup vs=>∃xs:Array Value,x=.tuple xs/\xs.size=vs.length/\∀ (j:Nat) (y:Value) (u:V),xs[j]? = some y->vs[j]? = some u->jr6 τ I y u
 | v=>jr6 τ I x v
def jl5 (P:Program) (E:Env) (f:FuncId) (args:List V) (r:V):Prop :=
 ∀ (w:World) (I:IMap) (xs:Array Value),jl7 I w->GlOk E I->xs.size=args.length->(∀ (j:Nat) (x:Value) (v:V),xs[j]? = some x->args[j]? = some v->RepP I x v) ->
  Calls P f xs w λe w'=>∃x τ I',e=.returned x/\w.grownBy w' none/\(∀b o x,I b o=some x->I' b o=some x)/\jl7 I' w'/\(∀b o,b<w.heap.size->I' b o=I b o)/\jw2 τ I' x r/\jl3 w.heap.size τ I' w' r
def SubG (γ γ':Nat->Option Place):Prop:=∀u p,γ u=some p->γ' u=some p
def SubI (I I':IMap):Prop:=∀b o x,I b o=some x->I' b o=some x
theorem SubG.refl (γ:Nat->Option Place):SubG γ γ:=λ_ _ h=>h
theorem SubI.refl (I:IMap):SubI I I:=λ_ _ _ h=>h
theorem SubG.trans {a b c:Nat->Option Place}(h:SubG a b) (k:SubG b c):SubG a c:=λu p x=>k u p (h u p x)
theorem SubI.trans {a b c:IMap}(h:SubI a b) (k:SubI b c):SubI a c:=λu o p x=>k u o p (h u o p x)
def ObsOk (P:Program) (E:Env) (f:FuncId) (args:List V) (ob:ZO) (ub:Nat) (r:V):Prop :=
 ∀ (w0 w:World) (I0 I:IMap) (γ:Nat->Option Place) (xs:Array Value) (st:St),(∀l x,ob l=some x->st.ob l=some x)->Sh E w0 I0 γ I st w->(∀u,ub<=u->γ u=none)->xs.size=args.length ->
  (∀ (j:Nat) (x:Value) (v:V),xs[j]? = some x->args[j]? = some v->Rep γ I x v) ->
  Calls P f xs w λe w'=>∃x τ I',e=.returned x/\w.grownBy w' none/\(∀b o x,I b o=some x->I' b o=some x)/\jl7 I' w'/\(∀b o,b<w.heap.size->I' b o=I b o)/\jw2 τ I' x r/\jl3 w.heap.size τ I' w' r
def WQ (E:Env) (w0:World) (I0:IMap) (γ:Nat->Option Place) (I:IMap) (ro:Nat) (r:V) (ob':ZO) (tk':Nat->Bool) (ub':Nat) (e:Ending) (w':World):Prop :=
 ∃x γ' I',e=.returned x/\(∀st':St,st'.ob=ob'->st'.tk=tk'->st'.ro=ro->Sh E w0 I0 γ' I' st' w')/\Rep γ' I' x r/\SubG γ γ'/\SubI I I'/\(∀u,ub'<=u->γ' u=none)
def jjl (P:Program) (E:Env) (γ0:Nat->Option Place) (Iy:IMap) (f:FuncId) (args:List V) (ob:ZO) (tk:Nat->Bool) (ro ub:Nat) (l:List (V × (ZO) × (Nat->Bool) × Nat)):Prop :=
 ∀ (w0 w:World) (I0 I:IMap) (γ:Nat->Option Place) (xs:Array Value) (st:St),SubG γ0 γ->SubI Iy I->st.ob=ob->st.tk=tk->st.ro=ro->Sh E w0 I0 γ I st w->(∀u,ub<=u->γ u=none)->xs.size=args.length ->
  (∀ (j:Nat) (x:Value) (v:V),xs[j]? = some x->args[j]? = some v->Rep γ I x v) ->
  Calls P f xs w λe w'=>∃r∈l,WQ E w0 I0 γ I ro r.1 r.2.1 r.2.2.1 r.2.2.2 e w'
def FW (r:Option Nat):Fence:={ Fence.wide with round:=r }
theorem jwt {P:Program}{f:FuncId}{args:Array Value}{w:World}{R:Ending->World->Prop}{r:Option Nat}{n:Nat}(h:Calls P f args w R):CallsIn (FW r) n P f args w R:=callsIn_wide.2 h
theorem jf9 {P:Program}{f:FuncId}{args:Array Value}{w:World}{R:Ending->World->Prop}{n:Nat}(h:CallsIn (FW none) n P f args w R):Calls P f args w R:=callsIn_wide.1 h
def j6v (P:Program) (E:Env) (γ0:Nat->Option Place) (Iy:IMap) (u:Nat) (args:List V) (ob:ZO) (tk:Nat->Bool) (ro ub:Nat) (r:V) (ob':ZO) (tk':Nat->Bool) (ub':Nat):Prop :=
 ∀ (w0 w:World) (I0 I:IMap) (γ:Nat->Option Place) (xs:Array Value) (st:St) (b:Nat) (k:Kd),SubG γ0 γ->SubI Iy I->st.ob=ob->st.tk=tk->st.ro=ro->Sh E w0 I0 γ I st w->(∀u,ub<=u->γ u=none)->xs.size=args.length ->
  (∀ (j:Nat) (x:Value) (v:V),xs[j]? = some x->args[j]? = some v->Rep γ I x v)->γ u=some (.obj b k) ->
  ∃fn tmps asg bd,(Instr.yield b xs).run P w=.ok (.round b fn tmps asg bd) w/\RoundIn (FW none) 0 P b fn tmps asg bd w (WQ E w0 I0 γ I ro r ob' tk' ub')
def YOk (P:Program) (E:Env) (γ0:Nat->Option Place) (Iy:IMap) (y:Y):Prop :=
 ∀l u args ob tk ro ub r ob' tk' ub',y l u args ob tk ro ub=some (r,ob',tk',ub')->j6v P E γ0 Iy u args ob tk ro ub r ob' tk' ub'
def FnOk (P:Program) (f:FuncId):Prop:=∃ fn c,P.funcs[f]? = some fn/\fn.body=some c/\(fn.name == "runtime.NumGoroutine")=false
structure COk (P:Program) (E:Env) (γ0:Nat->Option Place) (Iy:IMap) (call:Callers):Prop where
 d:∀f args r,call.d f args=some r->FnOk P f/\jl5 P E f args r
 o:∀f args ob tk base ub r,call.o f args ob tk base ub=some r->FnOk P f/\ObsOk P E f args ob ub r
 s:∀f args ob tk ro base ub l,call.s f args ob tk ro base ub=some l->FnOk P f/\jjl P E γ0 Iy f args ob tk ro ub l
 y:YOk P E γ0 Iy call.y
 k:∀f cs,E.nw f=some cs->j62 P f cs
def jl8 (P:Program) (E:Env) (call:Y->Callers):Prop:=∀γ0 Iy y,YOk P E γ0 Iy y->COk P E γ0 Iy (call y)
theorem YOk.mono {P:Program}{E:Env}{γ γ':Nat->Option Place}{I g:IMap}{y:Y}(h:YOk P E γ I y) (m:SubG γ γ') (q:SubI I g):YOk P E γ' g y :=
 λl u c ob n j ub r f d e s w0 w I0 J δ t st b k p i=>h l u c ob n j ub r f d e s w0 w I0 J δ t st b k (m.trans p) (q.trans i)
theorem jk0 {P:Program}{E:Env}{γ:Nat->Option Place}{I:IMap}:YOk P E γ I noY:=λ_ _ _ _ _ _ _ _ _ _ _ h=>by cases h
section
variable {P:Program}{E:Env}{w0 w:World}{I0:IMap}{nt:Nat}{γ:Nat->Option Place}{I:IMap}{st:St}{a:Act}{o:Oper}{ub:Nat}{δ:Delta}
theorem jc9 {f:FuncId} {fn:Func} {c:Code} (hf:P.funcs[f]? = some fn) (hb:fn.body=some c) (hn:(fn.name == "runtime.NumGoroutine")=false) (args:Array Value):(callFunc f args).run P w = .ok (.enter f args) w:=by unfold callFunc;simp only[aB,run_program,ah,hf,hn,aj,if_false,hb,Option.isNone_some];rfl
theorem jgx {x:Value}{v:V}(h:Rep γ I x v) (hp:v.strip.pureTop=true):RepP I x v.strip:=by
 have d:∀ (g:Array Value) (cs:List V),g.size=cs.length->(∀ (j:Nat) (v:V),cs[j]? = some v->v.leaf=true)->(∀ (j:Nat) (y:Value) (v:V),g[j]? = some y->cs[j]? = some v->Rep γ I y v)->(cs.map V.strip1).all V.pureLeaf=true ->
  RepP I (.agg g) (.agg (cs.map V.strip1)):=by
  intro g cs m i k q
  refine .agg _ _ (by simpa using m) (λj v b=>?_) (λj x v p b=>?_)
  ·simp only[aX,bg]at b;obtain⟨u,e,rfl⟩:=b;rw[jep];exact i j u e
  ·simp only[aX,bg]at b;obtain⟨u,e,rfl⟩:=b;exact Yz (k j x u p e) (aw.1 q _ (aJ.2 ⟨u,aI e,rfl⟩))
 cases v with
 | sl t r n cs=>exact Yz h (by simp[V.strip1,V.pureLeaf])
 | agg cs=>obtain⟨g,rfl,m,i,k⟩:=YG h;exact d g cs m i k hp
 | fn f s B=>
  obtain⟨g,D,rfl,m,i,k,q⟩:=jdf h;simp only[V.strip,V.pureTop,aw,aO]at hp;have one:∀ (x:Value) (v:V),Rep γ I x v->(match (match v with|.agg cs=>V.agg (cs.map V.strip1)|c=>c.strip1) with|.agg cs=>cs.all V.pureLeaf|c=>c.pureLeaf)=true->RepP I x (match v with|.agg cs=>V.agg (cs.map V.strip1)|c=>c.strip1):=by
   intro x v h hp;cases v with
   | agg cs=>obtain⟨g,rfl,m,i,k⟩:=YG h;exact d g cs m i k hp
   | sl t r n cs=>exact Yz h (by simp[V.strip1,V.pureLeaf])
   | _=>exact Yz h hp
  refine .fn _ _ _ _ _ (by simpa using m) (by simpa using i) (λj x v p b=>?_) (λj x v p b=>?_);simp only[aX,bg]at b;obtain⟨u,e,rfl⟩:=b;exact one x u (k j x u p e) (hp _ (.inl (aJ.2 ⟨u,aI e,rfl⟩)));simp only[aX,bg]at b;obtain⟨u,e,rfl⟩:=b;exact one x u (q j x u p e) (hp _ (.inr (aJ.2 ⟨u,aI e,rfl⟩)))
 | undef=>simp[V.strip,V.pureTop,V.pureLeaf]at hp
 | tup F=>simp[V.strip,V.pureTop,V.pureLeaf]at hp
 | ptr l u off=>simp[V.strip,V.pureTop,V.pureLeaf]at hp
 | osl l u off n z=>simp[V.strip,V.pureTop,V.pureLeaf]at hp
 | map l u=>simp[V.strip,V.pureTop,V.pureLeaf]at hp
 | iter l u=>simp[V.strip,V.pureTop,V.pureLeaf]at hp
 | yld l u=>simp[V.strip,V.pureTop,V.pureLeaf]at hp
 | _=>exact Yz h hp
theorem j1g {xs:Array Value}{vs:List V}(d:xs.size=vs.length) (h:∀ (j:Nat) (x:Value) (v:V),xs[j]? = some x->vs[j]? = some v->Rep γ I x v) (hp:(vs.map V.strip).all V.pureTop=true) :
 xs.size=(vs.map V.strip).length/\∀ (j:Nat) (x:Value) (v:V),xs[j]? = some x->(vs.map V.strip)[j]? = some v->RepP I x v:=by
 refine⟨by simpa using d,λj x v e b=>?_⟩;simp only[aX,bg]at b;obtain⟨u,c,rfl⟩:=b;exact jgx (h j x u e c) (aw.1 hp _ (aJ.2 ⟨u,aI c,rfl⟩))
theorem Qi {xs ys:Array Value}{us vs:List V}(d:xs.size=us.length) (f:ys.size=vs.length) (h:∀ (j:Nat) (x:Value) (v:V),xs[j]? = some x->us[j]? = some v->Rep γ I x v)
 (g:∀ (j:Nat) (x:Value) (v:V),ys[j]? = some x->vs[j]? = some v->Rep γ I x v) :
 (xs++ys).size=(us++vs).length/\∀ (j:Nat) (x:Value) (v:V),(xs++ys)[j]? = some x->(us++vs)[j]? = some v->Rep γ I x v:=by
 refine⟨by simp[d,f],λj x v c b=>?_⟩;by_cases e:j<xs.size;rw[cl e]at c;rw[aV zO]at b;exact h j x v c b;rw[dR zO]at c;rw[bp zO,<- d]at b;exact g _ x v c b
theorem jhv {m:Bool}{ao:AOp}(b:Jk P m o=some ao) (d:ao.isCall=true):∃c,o.op=.call c/\Qg P m c=some ao:=by unfold Jk at b;split at b;exact⟨_,by assumption,b⟩;obtain⟨_,_,rfl⟩:=map_some b;cases d;have:=(cE.1 b).2;rw[d]at this;cases this
theorem Yt {m:Bool}{ao:AOp}(b:Jk P m o=some ao):∀c,o.op≠.defer c:=by intro c h;unfold Jk at b;rw[h]at b;simp[jnt]at b
theorem jdk {m:Bool}{d:Call}{ao:AOp}(c:Qg P m d=some ao) (h:ao.isCall=true) :
 (∃f b,d.callee=.value (.func f)/\opds d.args=some b/\ao=.call f b)\/∃x q b,d.callee=.value x/\(∀f,x≠.func f)/\opd x=some q/\opds d.args=some b/\ao=.callV q b:=by
 unfold Qg at c;split at c;obtain⟨b,g,rfl⟩:=map_some c;split at h;cases h;rename_i l;exact .inl ⟨_,b,by assumption,g,by simp only⟩;rename_i x i j;obtain⟨q,k,c⟩:=bind_some c;obtain⟨b,g,rfl⟩:=map_some c;exact .inr ⟨_,q,b,by assumption,λf e=>by subst e;exact i f rfl,k,g,rfl⟩;cases c;have:=(cE.1 c).2;rw[h]at this;cases this
theorem jrq {m:Bool}{d:A}(b:Jk P m o=some (.nextMap d)):∃x,o.op=.next x false/\opd x=some d:=by unfold Jk at b;split at b;unfold Qg at b;split at b;obtain⟨_,_,c⟩:=map_some b;split at c <;> cases c;obtain⟨_,_,b⟩:=bind_some b;obtain⟨_,_,c⟩:=map_some b;cases c;cases b;have:=(cE.1 b).2;cases this;obtain⟨_,e,c⟩:=map_some b;cases c;exact⟨_,by assumption,e⟩;have:=(cE.1 b).2;cases this
theorem jb1 (D:R E w0 I0 nt γ I st a w) {m:Bool}{ao:AOp}(hc:Jk P m o=some ao) {f:FuncId}{vs:List V}
 (t:(∃h,ao=.call f h/\vs=h.map (eval E st.tm))\/∃q h first b,ao=.callV q h/\eval E st.tm q=.fn (.func f) first b/\vs=first++h.map (eval E st.tm)++b)
 (B:FnOk P f) :
 ∃d:Array Value,(execOp a.eval o).run P w=.ok (.enter f d) w/\d.size=vs.length/\∀ (j:Nat) (x:Value) (v:V),d[j]? = some x->vs[j]? = some v->Rep γ I x v:=by
 obtain⟨fn,c,T,L,h3⟩:=B;have G:ao.isCall=true:=by rcases t with⟨_,rfl,_⟩|⟨_,_,_,_,rfl,_⟩ <;> rfl
 obtain⟨H,F,r⟩:=jhv hc G;have l:=jc9 (P:=P) (w:=w) T L h3;rcases jdk r G with⟨g,h,e,y,rfl⟩|⟨x,q,h,e,N,S,y,rfl⟩;rcases t with⟨ys,i,rfl⟩|⟨_,_,_,_,i,_⟩;cases i;obtain⟨n,z⟩:=Wh D y;refine⟨H.args.map a.eval,?_,n,z⟩;simp only[execOp,F,resolve,e,Act.eval,Deferred.ofValue,aB,aE,ah,invoke,fe,fg];exact l _;cases i;rcases t with⟨_,i,_⟩|⟨q',ys,first,b,i,p,rfl⟩;cases i;cases i;obtain⟨n,z⟩:=Wh D y;have k:=jC D S;rw[p]at k;obtain⟨s,M,u,Z,O,s3,K⟩:=jdf k;obtain⟨X,J⟩:=Qi Z n s3 z;obtain⟨U,Q⟩:=Qi X O J K;refine⟨s++H.args.map a.eval++M,?_,U,Q⟩;simp only[execOp,F,resolve,e,u,Deferred.ofValue,aB,aE,ah,invoke];exact l _
theorem jsd (s:R E w0 I0 nt γ I st a w) {m:Bool}{ao:AOp}(H:Jk P m o=some ao) {l u:Nat}{vs:List V}(d:jk (eval E st.tm) ao=some (l,u,vs)) :
 ∃ (b:Nat) (k:Kd) (args:Array Value),γ u=some (.obj b k)/\(execOp a.eval o).run P w=(Instr.yield b args).run P w/\args.size=vs.length/\∀ (j:Nat) (x:Value) (v:V),args[j]? = some x->vs[j]? = some v->Rep γ I x v:=by
 unfold jk at d;split at d;case h_2=>cases d
 rename_i q J;split at d;case h_2=>cases d
 rename_i L K i;cases d;obtain⟨F,t,n⟩:=jhv H rfl;rcases jdk n rfl with⟨g,h,c,r,p⟩|⟨x,M,h,c,B,G,r,p⟩;cases p;cases p;obtain⟨y,D⟩:=Wh s r;have e:=jC s G;rw[i]at e;obtain⟨b,k,z,f⟩:=jv0 e;refine⟨b,k,F.args.map a.eval,z,?_,y,D⟩;simp only[execOp,t,resolve,c,f,Deferred.ofValue,aB,aE,ah,invoke,fe]
end
section
variable {P:Program}{E:Env}{w0 w:World}{I0:IMap}{nt:Nat}{γ:Nat->Option Place}{I:IMap}{st:St}{a:Act}{o:Oper}{ub:Nat}{δ:Delta}
theorem jnl (v:V):(YL ub v).leaf=v.leaf:=by unfold YL;split <;> rfl
theorem ju2 {τ γ':Nat->Option Place}{x:Value}{v:V}(h:jw4 τ I x v) (k:∀i∈v.tok,γ' (ub+i)=τ i):Rep γ' I x (YL ub v):=by
 cases v with
 | sl t s n cs=>
  cases t with
  | none=>exact .pure _ _ h
  | some p=>
   obtain⟨i,z⟩:=p;cases h with
   | tsl u b n d r cs g j c q m l e f=>exact .tsl _ b _ d _ _ g (by rw[k i (by simp[V.tok])];exact j) c q m l e f
   | pure _ _ h=>cases h
 | _=>exact .pure _ _ h
theorem jss {τ:Nat->Option Place}{x:Value}{v:V}(b:∀cs,v≠.agg cs) (h:jr6 τ I x v):jw4 τ I x v/\jcq ub v=YL ub v/\v.toks=v.tok:=by cases v <;> first|exact absurd rfl (b _)|exact⟨h,rfl,rfl⟩
theorem jye {τ:Nat->Option Place}{x:Value}{v:V}(b:∀cs,v≠.tup cs) (h:jw2 τ I x v):jr6 τ I x v/\jcr ub v=jcq ub v/\toksRes v=v.toks:=by cases v <;> first|exact absurd rfl (b _)|exact⟨h,rfl,rfl⟩
theorem jst {τ γ':Nat->Option Place}{x:Value}{v:V}(h:jr6 τ I x v) (g:∀i∈v.toks,γ' (ub+i)=τ i):Rep γ' I x (jcq ub v):=by by_cases l:∃cs,v=.agg cs;obtain⟨cs,rfl⟩:=l;obtain⟨p,rfl,k,d,f⟩:=h;refine .agg _ _ (by simpa using k) (λj u b=>?_) (λj y u m b=>?_);simp only[aX,bg]at b;obtain⟨q,c,rfl⟩:=b;rw[jnl];exact d j q c;simp only[aX,bg]at b;obtain⟨q,c,rfl⟩:=b;exact ju2 (f j y q m c) (λi n=>g i (cg.2 ⟨q,aI c,n⟩));obtain⟨k,d,f⟩:=jss (ub:=ub) (λcs e=>l ⟨cs,e⟩) h;rw[d];rw[f]at g;exact ju2 k g
theorem j3z {τ γ':Nat->Option Place}{x:Value}{v:V}(h:jw2 τ I x v) (c:∀i∈toksRes v,γ' (ub+i)=τ i):Rep γ' I x (jcr ub v):=by by_cases k:∃cs,v=.tup cs;obtain⟨r,rfl⟩:=k;obtain⟨p,rfl,d,b⟩:=h;refine .tup _ _ (by simpa using d) (λj y u m f=>?_);simp only[aX,bg]at f;obtain⟨q,g,rfl⟩:=f;exact jst (b j y q m g) (λi n=>c i (cg.2 ⟨q,aI g,n⟩));obtain⟨d,l,b⟩:=jye (ub:=ub) (λcs e=>k ⟨cs,e⟩) h;rw[l];rw[b]at c;exact jst d c
theorem jkk (G:R E w0 I0 nt γ I st a w) {dst:Option Tmp}(hd:∀d,dst=some d->d<nt) (hf:∀u,ub<=u->u<ub+64->γ u=none) {x:Value}{τ:Nat->Option Place}{I':IMap}{w':World}{r:V}
 (hg:w.grownBy w' none) (hI:∀b o x,I b o=some x->I' b o=some x) (b9:jl7 I' w') (F:∀b o,b<w.heap.size->I' b o=I b o) (hx:jw2 τ I' x r) (ht:jl3 w.heap.size τ I' w' r) (c3:(toksRes r).all (λi=>Nat.blt i 64)=true) :
 ∃f,R E w0 I0 nt f I' (st.app dst { v:=jcr ub r,add:=(toksRes r).map (ub + ·) }) (a.put dst x) w'/\(∀u,¬(ub<=u/\u<ub+64)->f u=γ u)/\(∀u p,γ u=some p->f u=some p):=by
 have a0:∀i∈toksRes r,i<64:=λi y=>by have:=aw.1 c3 i y;simpa[dp] using this
 let f:Nat->Option Place:=λu=>if ub<=u/\u<ub+64 then τ (u - ub) else γ u
 have D:∀u p,γ u=some p->f u=some p:=by
  intro u p J;have:¬ (ub<=u/\u<ub+64):=λh=>by rw[hf u h.1 h.2]at J;cases J
  simp only[f,this,if_false,J]
 have N:∀i∈toksRes r,f (ub+i)=τ i:=by intro i y;have:=a0 i y;have h2:ub<=ub+i/\ub+i<ub+64:=⟨zO,zO⟩;simp only[f,h2,and_self,if_true,fy]
 obtain⟨Ω,ho⟩:=G.own;have q:∀b,b<w.heap.size->w'.heap[b]? = w.heap[b]?:=λb L=>hg.block b L zS;classical
 let Q:Nat->Nat->Prop:=λb i=>i∈toksRes r/\∃n c s,τ i=some (.tok b n c s);let B:Nat->Option Owner:=λb=>if h:∃i,Q b i then some (.tk (ub+h.choose)) else Ω b
 have K:∀b i,Q b i->w.heap.size<=b/\b<w'.heap.size:=by intro b i U;obtain⟨y,n,c,s,S⟩:=U;obtain⟨b',n',c',s',M,h2,h3,_⟩:=ht i y;rw[S]at M;cases M;exact⟨h2,h3⟩
 have z:∀b,b<w.heap.size->B b=Ω b:=by
  intro b L;have:¬ ∃i,Q b i:=λ⟨i,y⟩=>by have:=(K b i y).1;omega
  simp only[B,this,dif_neg,not_false_eq_true]
 have H:∀b i,Q b i->B b=some (.tk (ub+i)):=by
  intro b i U;have Z:∃i,Q b i:=⟨i,U⟩;have c1:=Z.choose_spec;have:Z.choose=i:=by obtain⟨y,n,c,s,S⟩:=U;obtain⟨b',n',c',s',M,_,_,_,_,O⟩:=ht i y;rw[S]at M;cases M;obtain⟨c0,n2,c2,s2,b5⟩:=c1;exact O _ c0 _ _ _ b5
  simp only[B,Z,dif_pos,this]
 refine⟨f,⟨(Ys _ _ _).trans G.sz,jdj G D _ _,?_,⟨b9,λg cs h=>(G.gl g cs h).mono hI,⟨B,⟨?_,?_,?_⟩⟩,?_,?_⟩⟩,?_,D⟩;exact Q9 (by rw[G.sz];exact hd) (λt=>(G.tm t).mono D hI) (j3z hx N);intro l ob hl;have b0:(st.app dst { v:=jcr ub r,add:=(toksRes r).map (ub + ·) }).ob=st.ob:=by simp[St.app,JS]
 rw[b0]at hl ⊢;obtain⟨b,k,k1,k2,k3,k4,k5⟩:=ho.ob l ob hl;have e:=ho.lt _ _ k2;have X:Xw γ st.ob st.ob w.heap w'.heap:=λl2 u2 c4 c5 mb mk _ b8=>.inl ⟨b8,λm c b6=>by
  rw[q mb (aM.1 b6).1];exact b6⟩
 exact⟨b,k,D _ _ k1,by rw[z b e];exact k2,k3,by rw[q b e];exact(k4.keep X).mono D hI,λj=>by rw[F b j e];exact k5 j⟩;intro u J;simp only[St.app,jac,Option.toList_none,dc,if_false]at J;split at J;rename_i b7;obtain⟨i,y,rfl⟩:=aJ.1 b7;obtain⟨b,n,c,s,M,h2,h3,h4,h5,_⟩:=ht i y;exact⟨b,n,c,s,by rw[N i y];exact M,H b i ⟨y,n,c,s,M⟩,bG G.fr.size h2,h4,h5⟩;obtain⟨b,n,c,s,k1,k2,k3,k4,k5⟩:=ho.tk u J;have e:=ho.lt _ _ k2;exact⟨b,n,c,s,D _ _ k1,by rw[z b e];exact k2,k3,by rw[q b e];exact k4,λj hj=>by rw[F b j e];exact k5 j hj⟩;intro b ow L;by_cases e:b<w.heap.size;exact aR e hg.size;by_cases U:∃i,Q b i;obtain⟨i,y⟩:=U;exact(K b i y).2;simp only[B,U,dif_neg,not_false_eq_true]at L;exact absurd (ho.lt _ _ L) e;exact Grow.frame G.fr (T:=λ_=>False) ⟨hg.os,hg.tape,hg.output,hg.size,λk hk _=>q k hk,λk hk=>hk.elim⟩;intro b j L;rw[F b j (aR L G.fr.size)];exact G.old b j L;intro u J;simp only[f,J,if_false]
end
section
variable {P:Program}{E:Env}{w0 w:World}{I0:IMap}{nt:Nat}{γ τ:Nat->Option Place}{I I' I1:IMap}{st:St}{a:Act}{B:Nat}{Ω:Nat->Option Owner}
def jdo (γ:Nat->Option Place) (B:Nat) (st:St) (w:World) (I I':IMap):Prop :=
 (∀b o x,I b o=some x->I' b o=some x)/\(∀b k o x l u cs,B<=b->st.ob l=some ⟨u,.cells cs⟩->γ u=some (.obj b k)->o<cs.length->w.cell? ⟨b,o,none⟩=some x->I' b o=some x)
theorem jhd {v:V}(h:v.pureLeaf=true):v.strip1=v:=Xt h
theorem jyp {x:Value}{v:V}(h:Rep γ I x v) (hp:v.pureLeaf=true):RepP I x v:=by have:=Yz h (by rw[jhd hp];exact hp);rwa [jhd hp]at this
theorem ja1 (S:Own γ I B st w Ω) (F:jdo γ B st w I I'):∀ (k:Nat) (x:Value) (v m:V),Rep γ I x v->JH st k v=some m->RepP I' x m/\m.pureLeaf=true
 | 0,_,_,_,_,h=>by cases h
 | k+1,x,v,m,hx,c=>by
  have d:(if v.pureLeaf then some v else none)=some m->RepP I' x m/\m.pureLeaf=true:=by intro h;simp only[aC,ab]at h;obtain⟨Q,rfl⟩:=h;exact⟨(jyp hx Q).mono F.1,Q⟩
  cases v with
  | sl t nl n cs=>
   cases t with
   | none=>exact d c
   | some q=>simp only[JH,ab]at c;subst c;exact⟨(Yz hx (by simp[V.strip1,V.pureLeaf])).mono F.1,rfl⟩
  | osl l u off n f=>
   simp only[JH]at c;obtain⟨cs,p,c⟩:=bind_some c;simp only[aC]at c;obtain⟨⟨H,b5⟩,c⟩:=c;obtain⟨y,D,rfl⟩:=map_some c;refine⟨?_,rfl⟩;obtain⟨b,kb,ad,J,T,rfl,U,hc,hm⟩:=Xm hx;have s:=jf p;obtain⟨b',b0,L,k2,k3,⟨arr,e,m1,m2,m4,X⟩,k5⟩:=S.ob l _ s;rw[T]at L;cases L;have hB:B<=b:=k3 (by simpa[ce] using H);obtain⟨K,o⟩:=jy D;have O:((cs.drop off).take (n*f)).length=n*f:=by simp only[ap,ba];omega
   have i:∀j,j<cs.length->arr[j]? = some (arr.getD j undef):=by intro j G;have:j<arr.size:=zO;simp[this]
   have r:0<n*f->0<n:=λh=>Nat.pos_of_ne_zero λZ=>by subst Z;simp at h
   have g:∀ (j:Nat) (q:V),y[j]? = some q->j<n*f/\RepP I' (arr.getD (off+j) undef) q/\q.pureLeaf=true:=by
    intro j q M;have G:j<n*f:=by have:=(ak.1 M).1;omega
    have c:((cs.drop off).take (n*f))[j]? = some (((cs.drop off).take (n*f))[j]' zO):=aa _;have z:=o j _ _ c M;rw[bi G,bw]at c;obtain⟨q1,q2⟩:=X _ _ _ (i (off+j) (ak.1 c).1) c;exact⟨G,ja1 S F k _ _ _ q2 z⟩
   refine .sl ad n J _ (λj=>arr.getD (off+j) undef) (λp=>?_) hc hm (λj G=>?_) (λj v c=>(g j v c).2.2) (λj v c=>(g j v c).2.1);have N:0<y.length:=dy.2 p;rw[(U (by have:=r zO;omega)).1];have a0:j<n*f:=zO;rw[(U (by have:=r zO;omega)).1];refine F.2 b kb (off+j) _ l u cs hB s T zO ?_;simp only[World.cell?,m1,cJ,aj,if_false];exact i (off+j) zO
  | _=>exact d c
theorem ja5 {x:Value}{v:V}(h:RepP I x v) (b:v.scal=true):RepP I' x v:=by cases h <;> first|(simp[V.scal]at b;done)|constructor
theorem j5r {γ:Nat->Option Place}{w:World}{Ω:Nat->Option Owner}{ob:ZO}(l:Own γ I 0 (Jy [] ob (λ_=>false) 0 0 0) w Ω) (p:jdo γ 0 (Jy [] ob (λ_=>false) 0 0 0) w I I')
 {x:Value}{v m:V}(n:Rep γ I x v) (e:WL ob v=some m):RepP I' x m:=by
 cases v with
 | agg cs=>
  obtain⟨h,rfl,F,z,q⟩:=YG n;simp only[WL]at e;obtain⟨d,i,rfl⟩:=map_some e;obtain⟨t,r⟩:=jy i;have c:∀ (j:Nat) (y:Value) (u:V),h[j]? = some y->d[j]? = some u->RepP I' y u/\u.pureLeaf=true:=by
   intro j y u g b;have k:j<cs.length:=by have:=(ak.1 b).1;omega
   have o:cs[j]? = some (cs[j]):=aa k;exact ja1 l p 6 _ _ _ (q j y _ g o) (r j _ _ o b)
  refine .agg h d zO (λj u b=>?_) (λj y u g b=>(c j y u g b).1);have k:j<h.size:=by have:=(ak.1 b).1;omega
  exact jba (c j _ u (aA k) b).2
 | fn f s D=>cases e
 | _=>exact(ja1 l p 6 _ _ _ n e).1
theorem jpj {γ:Nat->Option Place}{st:St}{w w0:World}{I0:IMap}{ob:ZO}{args d:List V}{xs:Array Value}(f:∀l x,ob l=some x->st.ob l=some x) (e:Sh E w0 I0 γ I st w) (O:args.mapM (WL ob)=some d)
 (i:∀ (j:Nat) (x:Value) (v:V),xs[j]? = some x->args[j]? = some v->Rep γ I x v):d.length=args.length/\∀ (j:Nat) (x:Value) (v:V),xs[j]? = some x->d[j]? = some v->RepP (λb o=>w.cell? ⟨b,o,none⟩) x v:=by
 obtain⟨Ω,t⟩:=e.own;have r:Own γ I 0 (Jy [] ob (λ_=>false) 0 0 0) w Ω:=by refine⟨λl o K=>?_,λu h=>(by cases h),t.lt⟩;obtain⟨b,k,F,z,T,D,G⟩:=t.ob l o (f l o K);exact⟨b,k,F,z,λ_=>cL _,D.keep (λU S s H Q mk _ q=>.inl ⟨f _ _ q,λm c M=>M⟩),G⟩
 have J:jdo γ 0 (Jy [] ob (λ_=>false) 0 0 0) w I (λb o=>w.cell? ⟨b,o,none⟩):=⟨e.imm,λb k o x l u cs _ _ _ _ p=>p⟩;obtain⟨g,n⟩:=jy O;refine⟨g,λj x v L y=>?_⟩;have N:j<args.length:=by have:=(ak.1 y).1;omega
 have p:args[j]? = some (args[j]):=aa N;exact j5r r J (i j x _ L p) (n j _ _ p y)
theorem jn8 {f:FuncId}{args M:List V}{ob0:ZO}{d ub:Nat}{v:V}{δ:Delta}(c1:∀l x,ob0 l=some x->st.ob l=some x) (hp:jl5 P E f M v) (ha:args.mapM (WL ob0)=some M) (H:Qj d ub v=some δ)
 {xs:Array Value}(D:Sh E w0 I0 γ I st w) (c6:γ ub=none) (c7:xs.size=args.length) (c4:∀ (j:Nat) (x:Value) (v:V),xs[j]? = some x->args[j]? = some v->Rep γ I x v) :
 Calls P f xs w λe w'=>∃x G,e=.returned x/\(∀r:St,r.ob=JS st.ob δ.obs->r.tk=st.tk->r.ro=st.ro->Sh E w0 I0 G I r w')/\Rep G I x δ.v/\SubG γ G/\(∀u,u≠ub->G u=γ u):=by
 obtain⟨c0,c3⟩:=jpj c1 D ha c4;refine(hp w (λb o=>w.cell? ⟨b,o,none⟩) xs (λ_ _ _ h=>h) (λg cs X=>(D.gl g cs X).mono D.imm) (c7.trans c0.symm) c3).mono λe w' he=>?_;obtain⟨x,τ,I1,rfl,X,hI,b9,d6,hx,ht⟩:=he;have p:∀b,b<w.heap.size->w'.heap[b]? = w.heap[b]?:=λb hb=>X.block b hb zS;have b0:∀b o y,I b o=some y->w'.cell? ⟨b,o,none⟩=some y:=λb o y hy=>b9 b o y (hI b o y (D.imm b o y hy));have b5:w0.grownBy w' none:=Grow.frame D.fr (T:=λ_=>False) ⟨X.os,X.tape,X.output,X.size,λk hk _=>p k hk,λk hk=>hk.elim⟩;obtain⟨Ω,Q⟩:=D.own;have plain:v.scal=true->Qj d ub v=some { v:=v }->∃x' G,Ending.returned x=.returned x'/\(∀r:St,r.ob=JS st.ob δ.obs->r.tk=st.tk->r.ro=st.ro->Sh E w0 I0 G I r w')/\Rep G I x' δ.v/\SubG γ G/\(∀u,u≠ub->G u=γ u):=by
  intro hs he;rw[he]at H;cases H;refine⟨x,γ,rfl,λr Z h2 h3=>?_,.pure _ _ ?_,λ_ _ h=>h,λ_ _=>rfl⟩;replace Z:r.ob=st.ob:=Z;refine⟨b0,D.gl,⟨Ω,⟨λl o S=>?_,λu U=>?_,λb o hb=>aR (Q.lt b o hb) X.size⟩⟩,b5,D.old⟩;rw[Z]at S;obtain⟨b,k,k1,k2,k3,k4,k5⟩:=Q.ob l o S;have N:=Q.lt _ _ k2;have K:Xw γ st.ob r.ob w.heap w'.heap:=λl2 u2 b8 d1 mb mk _ L=>.inl ⟨by rw[<- Z];exact L,λm c O=>by
   rw[p mb (aM.1 O).1];exact O⟩
  exact⟨b,k,k1,k2,by rw[h3];exact k3,by rw[p b N];exact k4.keep K,k5⟩;rw[h2]at U;obtain⟨b,n,c,s,k1,k2,k3,k4,k5⟩:=Q.tk u U;exact⟨b,n,c,s,k1,k2,k3,by rw[p b (Q.lt _ _ k2)];exact k4,k5⟩;have:RepP I1 x v:=by
   cases v with
   | tup|agg=>cases hs
   | sl t nl n cs=>cases t with
    | none=>exact hx
    | some q=>cases hs
   | _=>exact hx
  exact ja5 this hs
 cases v with
 | sl t nl n cs=>
  cases t with
  | none=>
   cases hs:(V.sl none nl n cs).scal with
   | true=>exact plain hs (by cases nl <;> simp[Qj,hs])
   | false=>cases nl <;> simp[Qj,hs]at H
  | some q=>
   obtain⟨i,z⟩:=q;cases nl with
   | true=>simp[Qj,V.scal]at H
   | false=>
    simp only[Qj,aC,ab]at H;obtain⟨c9,rfl⟩:=H;have c5:Rep τ I1 x (.sl (some (i,z)) false n cs):=hx;cases c5 with
    | pure _ _ h=>cases h
    | tsl _ b _ d0 _ _ d7 U b7 hc hm hi S d2=>
     obtain⟨b',n',d5,d9,k1,k2,k3,k4,k5,k6⟩:=ht i (by simp[toksRes,V.toks,V.tok]);rw[U]at k1;cases k1;obtain⟨arr,e,m1,m2,m3,m4⟩:=k4;have F:=WX (f:=γ) (k:=ub) (v:=Place.obj b (.n arr.size)) c6;have d3:∀j,I b j=none:=by
      intro j;cases hj:I b j with
      | none=>rfl
      | some y=>exact absurd (bP _ _ (D.imm _ _ _ hj)) (by simpa using k2)
     have d4:cs.length<=arr.size:=by rw[b7];exact bG (bc _ hc) m2
     refine⟨_,upd γ ub (some (.obj b (.n arr.size))),rfl,λr Z h2 h3=>?_,?_,F,λu U=>JG _ _ U⟩;replace Z:r.ob=upd st.ob d (some ⟨ub,.cells cs⟩):=Z;refine⟨b0,D.gl,⟨upd Ω b (some (.ob d)),⟨λl o S=>?_,λu U=>?_,λc o b6=>?_⟩⟩,b5,D.old⟩;have K:Xw γ st.ob r.ob w.heap w'.heap:=by intro l2 u2 b8 d1 mb mk d8 L;rw[Z,j5]at L;split at L;simp at L;exact .inl ⟨L,λm c O=>by rw[p mb (aM.1 O).1];exact O⟩
     rw[Z,j5]at S;split at S;rename_i c8;subst c8;cases S;refine⟨b,.n arr.size,zS,zS,λ_=>bG D.fr.size k2,⟨arr,e,m1,rfl,d4,λj y u hy a0=>?_⟩,d3⟩;have hj:=(ak.1 a0).1;have J:=b9 b j _ (hi j hj);simp only[World.cell?,m1,cJ,aj,if_false]at J;rw[hy]at J;cases J;exact⟨jba (S j u a0),.pure _ _ (ja5 (d2 j u a0) (aw.1 c9 u (aI a0)))⟩;obtain⟨b2,k,q1,q2,q3,q4,q5⟩:=Q.ob l o S;have N:=Q.lt _ _ q2;exact⟨b2,k,F _ _ q1,by rw[JG _ _ zO];exact q2,by rw[h3];exact q3,by rw[p b2 N];exact(q4.keep K).mono F (λ_ _ _ h=>h),q5⟩;rw[h2]at U;obtain⟨b2,n2,c2,s2,q1,q2,q3,q4,q5⟩:=Q.tk u U;have N:=Q.lt _ _ q2;exact⟨b2,n2,c2,s2,F _ _ q1,by rw[JG _ _ zO];exact q2,q3,by rw[p b2 N];exact q4,q5⟩;rw[j5]at b6;split at b6;rename_i e';omega;exact aR (Q.lt c o b6) X.size;refine Rep.osl _ ub 0 n z d0 b (.n arr.size) ⟨b,0,none⟩ zS (λ_=>⟨rfl,?_⟩) hc hm;simpa[Kd.size] using m2
 | agg|tup|undef|eptr|ptr|osl|map|iter|fn|iface|yld=>simp[Qj,V.scal]at H
 | _=>exact plain rfl rfl
theorem j3h {ob ob':ZO}{tk b:Nat->Bool}{ub c:Nat}{v r:V}(h:jxt ob tk ub v=some (r,ob',b,c)):∃d,Qj (2*ub+1) ub v=some d/\r=d.v/\ob'=JS ob d.obs/\b=tk/\c=ub+64:=by unfold jxt at h;unfold Qj;split at h;rename_i n cs z;simp only[aC,ab,bW]at h;obtain⟨e,rfl,rfl,rfl,rfl⟩:=h;exact⟨_,if_pos e,rfl,rfl,rfl,rfl⟩;rename_i f;simp only[aC,ab,bW]at h;obtain⟨e,rfl,rfl,rfl,rfl⟩:=h;exact⟨{ v:=v },if_pos e,rfl,rfl,rfl,rfl⟩
theorem jn9 {d ub:Nat}{v:V}{δ:Delta}(h:Qj d ub v=some δ):δ.wt=[]/\δ.kill=[]:=by unfold Qj at h;split at h;simp only[aC,ab]at h;obtain⟨_,rfl⟩:=h;exact⟨rfl,rfl⟩;simp only[aC,ab]at h;obtain⟨_,rfl⟩:=h;exact⟨rfl,rfl⟩
theorem j3g {γ0:Nat->Option Place}{Iy:IMap}{f:FuncId}{args b:List V}{ob ob':ZO}{tk d:Nat->Bool}{ro ub g:Nat}{v r:V}(hp:jl5 P E f b v) (H:args.mapM (WL ob)=some b) (D:jxt ob tk ub v=some (r,ob',d,g)) :
 jjl P E γ0 Iy f args ob tk ro ub [(r,ob',d,g)]:=by
 intro w0 w I0 I γ L st G z m j k l c o i;subst m j k;obtain⟨M,n,rfl,rfl,rfl,rfl⟩:=j3h D;refine(jn8 (λ_ _ h=>h) hp H n l (c ub zK) o i).mono λe K J=>?_;obtain⟨x,p,rfl,y,s,F,t⟩:=J;exact⟨_,ae.2 rfl,x,p,I,rfl,y,s,F,λ_ _ _ h=>h,λu q=>by have q:ub+64<=u:=q;rw[t u zO];exact c u zO⟩
end
section
variable {P:Program}{E:Env}{w0 w:World}{I0:IMap}{nt:Nat}{γ:Nat->Option Place}{I:IMap}{st:St}{a:Act}{o:Oper}{ub:Nat}{δ:Delta}
def Nice (E:Env) (w0:World) (I0:IMap) (nt:Nat) (γ:Nat->Option Place) (I:IMap) (st:St) (ub:Nat) (K:Act->World->Prop):Prop :=
 ∀γ' I' a' w',R E w0 I0 nt γ' I' st a' w'->(∀u,ub<=u->γ' u=none)->(∀u p,γ u=some p->γ' u=some p)->(∀b o x,I b o=some x->I' b o=some x)->K a' w'
theorem jkf {γ:Nat->Option Place}{I:IMap}:Rep γ I undef ju:=.tup _ _ rfl zS
theorem jtr (c:R E w0 I0 nt γ I st a w) {dst:Option Tmp}(b:∀d,dst=some d->d<nt):R E w0 I0 nt γ I { st with tm:=put st.tm dst ju } (a.put dst undef) w:=c.put b jkf
theorem XO {m:Bool}{ops:Array Oper}{ao:AOpr}(b:Jf P m ops o=some ao):ao.dst=o.dst/\(Jk P m o=some ao.op\/ao.op=.stuck):=by
 have c:Jk P m o=some ((Jk P m o).getD .stuck)\/(Jk P m o).getD .stuck=.stuck:=by
  cases Jk P m o with
  | none=>exact .inr rfl
  | some x=>exact .inl rfl
 unfold Jf at b;split at b;cases b;exact⟨rfl,c⟩;obtain⟨t,d,rfl⟩:=map_some b;exact⟨rfl,c⟩
theorem Xx (u:R E w0 I0 nt γ I st a w) {m:Bool}{ops:Array Oper}{ao:AOpr}{b:Bool}(l:Jf P m ops o=some ao) (d:wanted ao st.tm=some b):Region.wanted o (yielded ops a.tmps)=b:=by
 unfold Jf at l;unfold Region.wanted;cases q:o.guard with
 | none=>simp only[q,ab]at l;subst l;simp only[wanted,ab]at d;exact d
 | some g=>
  obtain⟨j,i⟩:=g;simp only[q]at l;obtain⟨t,s,rfl⟩:=map_some l;simp only[wanted]at d;have c:=u.tm t;have r:yielded ops a.tmps j=match a.tmps[t]? with|some (.bool b)=>some b|_=>none:=by unfold yielded;rw[s];rfl
  simp only[r];split at d;rename_i p k;cases d;rw[k]at c;have n:a.tmps.getD t undef=.bool p:=by
   generalize a.tmps.getD t undef=x at c;cases c with
   | pure _ _ h=>cases h;rfl
  have f:t<a.tmps.size:=by rcases cu t a.tmps.size with h|h;exact h;simp[ii h,undef]at n
  have:a.tmps[t]? = some (.bool p):=by rw[aA f];simpa[f] using n
  simp only[this];cases p <;> cases i <;> rfl;rename_i k;cases d;rw[k]at c;have n:∀b,a.tmps.getD t undef≠.bool b:=by
   intro b e;rw[e]at c;cases c with
   | pure _ _ h=>cases h
  have:∀b,a.tmps[t]?≠some (.bool b):=by intro b e;exact n b (by simp[e])
  split;rename_i b k;exact absurd k (this b);rfl;cases d
theorem Wz {r:Option Nat}{K:Act->World->Prop}{Q:Exit->Act->World->Prop}(b:∀c,o.op≠.defer c) (h:o.uponIn (FW r) 0 P a K Q ((execOp a.eval o).run P w)):o.wpIn (FW r) 0 P a w K Q :=
 ⟨λ_ _=>trivial,by rw[Oper.semAt_eq _ _ _ b];exact h⟩
theorem W9 {r:Option Nat}{K:Act->World->Prop}{Q:Exit->Act->World->Prop}{f:FuncId}{args:Array Value}{R':Ending->World->Prop}(h:Calls P f args w R') (g:∀e b,R' e b->∃v,e=.returned v/\K (a.put o.dst v) b) :
 o.uponIn (FW r) 0 P a K Q (.ok (.enter f args) w):=by
 rw[Oper.uponIn_enter];refine⟨(λh=>by cases h),jwt (Calls.mono h λe b d=>?_)⟩;obtain⟨v,rfl,c⟩:=g e b d;exact c
theorem jqg {r:Option Nat}{K:Act->World->Prop}{Q:Exit->Act->World->Prop}{l:Nat}{f:FuncId}{tmps:Array Value}{asg bd:Code}{R':Ending->World->Prop}(h:RoundIn (FW none) 0 P l f tmps asg bd w R') (g:∀e b,R' e b->∃v,e=.returned v/\K (a.put o.dst v) b) :
 o.uponIn (FW r) 0 P a K Q (.ok (.round l f tmps asg bd) w):=by
 rw[Oper.uponIn_round];refine⟨(λh=>by cases h),?_⟩;have:=RoundIn.mono h (R':=fun
  | .returned v,w''=>K (a.put o.dst v) w''
  | .panicked chain,w''=>Q (.panic chain) a w''
  | .outgrown,_=>LetsOut Q) (λe b d=>by
  obtain⟨v,rfl,c⟩:=g e b d
  exact c)
 exact this
variable {γ0:Nat->Option Place}{Iy:IMap}
theorem jji {m:Bool}{cd:Callers}{r:Option Nat}{ao:AOp}{K:Act->World->Prop}{Q:Exit->Act->World->Prop}(Z:COk P E γ0 Iy cd)
 (N:R E w0 I0 nt γ I st a w) (hf:∀u,ub<=u->u<ub+64->γ u=none) (l:Jk P m o=some ao) (hd:∀d,o.dst=some d->d<nt) {d:Nat}
 (k:aop cd.d (eval E st.tm) st.ob st.tk st.ro d ub ao=some δ)
 (hK:∀j y a' O,R E w0 I0 nt j y (st.app o.dst δ) a' O->(∀u,¬(ub<=u/\u<ub+64)->j u=γ u)->(∀u p,γ u=some p->j u=some p)->(∀b o x,I b o=some x->y b o=some x)->K a' O) :
 o.wpIn (FW r) 0 P a w K Q:=by
 by_cases hn:ao.isCall=false;obtain⟨x,O,j,y,h,n,D,i,L⟩:=op_ok N hd (hf ub zK zO) l hn k;refine Wz (Yt l) ?_;rcases h with h|⟨h,rfl⟩;rw[h];exact hK j y _ _ n D i L;rw[h];exact hK j y _ _ n D i L
 ·have c:∃f S,((∃s,ao=.call f s/\S=s.map (eval E st.tm))\/∃q s first g,ao=.callV q s/\eval E st.tm q=.fn (.func f) first g/\S=first++s.map (eval E st.tm)++g) /\
   jcz cd.d ub f (S.map V.strip)=some δ:=by
   cases ao <;> simp only[AOp.isCall,not_true_eq_false,ep,not_false_eq_true]at hn
   case call f s=>exact⟨f,_,.inl ⟨s,rfl,rfl⟩,by rw[cU];exact k⟩
   case callV q s=>
    simp only[aop]at k;split at k;rename_i f first g U
    exact⟨f,_,.inr ⟨q,s,first,g,rfl,U,rfl⟩,k⟩;cases k
  obtain⟨f,S,H,c⟩:=c;unfold jcz at c;split at c;case isFalse=>cases c
  rename_i B;obtain⟨r,hr,c⟩:=bind_some c;unfold Xf at c;split at c;case isFalse=>cases c
  rename_i b5;cases c;obtain⟨b0,M⟩:=Z.d _ _ _ hr;obtain⟨F,h,a0,z⟩:=jb1 N l H b0;obtain⟨G,t⟩:=j1g a0 z B;have:=M w I F N.imm N.gl G t;refine Wz (Yt l) ?_;rw[h];refine W9 this λe O he=>?_;obtain⟨x,τ,y,rfl,hg,L,X,J,hx,ht⟩:=he;obtain⟨j,n,T,i⟩:=jkk N hd hf hg L X J hx ht b5;exact⟨x,rfl,hK j y _ _ n T i L⟩
theorem Ju {ao:AOp}{nm:Bool}{d:A->V}{f:FuncId}{vs:List V}(h:jB E nm d ao=some (f,vs)):(∃c,ao=.call f c/\vs=c.map d)\/∃q c first b,ao=.callV q c/\d q=.fn (.func f) first b/\vs=first++c.map d++b:=by
 unfold jB at h;split at h;rename_i g c;split at h;cases h;cases h;exact .inl ⟨c,rfl,rfl⟩;rename_i q c;split at h;rename_i g first b e
 split at h;cases h;cases h;exact .inr ⟨q,c,first,b,rfl,e,rfl⟩;cases h;cases h
theorem j14 {m nm:Bool}{X:Callers}{r:Option Nat}{ao:AOp}{K:Act->World->Prop}{Q:Exit->Act->World->Prop}(D:COk P E γ0 Iy X)
 (O:R E w0 I0 nt γ I st a w) (hf:∀u,ub<=u->u<ub+64->γ u=none) (n:Jk P m o=some ao) (Z:∀d,o.dst=some d->d<nt) {f:FuncId}{vs:List V}{ob:ZO}{tk:Nat->Bool}{base uo:Nat}
 (M:jB E nm (eval E st.tm) ao=some (f,vs)) (F:∀l x,ob l=some x->st.ob l=some x) (G:∀u,uo<=u->γ u=none) (H:(X.o f vs ob tk base uo).bind (Xf ub)=some δ)
 (hK:∀g t T z,R E w0 I0 nt g t (st.app o.dst δ) T z->(∀u,¬(ub<=u/\u<ub+64)->g u=γ u)->(∀u p,γ u=some p->g u=some p)->(∀b o x,I b o=some x->t b o=some x)->K T z) :
 o.wpIn (FW r) 0 P a w K Q:=by
 obtain⟨rv,hr,c⟩:=bind_some H;unfold Xf at c;split at c;case isFalse=>cases c
 rename_i S;cases c;obtain⟨N,k⟩:=D.o _ _ _ _ _ _ _ hr;obtain⟨j,s,L,h⟩:=jb1 O n (Ju M) N;have:=k w0 w I0 I γ j st F O.sh G L h;refine Wz (Yt n) ?_;rw[s];refine W9 this λe z he=>?_;obtain⟨x,τ,t,rfl,hg,U,B,q,hx,ht⟩:=he;obtain⟨g,J,y,i⟩:=jkk O Z hf hg U B q hx ht S;exact⟨x,rfl,hK g t _ _ J y i U⟩
theorem j8k {m nm:Bool}{cd:Callers}{r:Option Nat}{ao:AOp}{K:Act->World->Prop}{Q:Exit->Act->World->Prop}(M:COk P E γ0 Iy cd)
 (k:R E w0 I0 nt γ I st a w) (hf:∀u,ub<=u->u<ub+64->γ u=none) (n:Jk P m o=some ao) (hd:∀d,o.dst=some d->d<nt) {f:FuncId}{vs D:List V}{v:V}{ob:ZO}{dn:Nat}
 (S:jB E nm (eval E st.tm) ao=some (f,vs)) (N:∀l x,ob l=some x->st.ob l=some x) (ha:vs.mapM (WL ob)=some D) (hv:cd.d f D=some v) (s:Qj dn ub v=some δ)
 (hK:∀c Z X J,R E w0 I0 nt c Z (st.app o.dst δ) X J->(∀u,¬(ub<=u/\u<ub+64)->c u=γ u)->(∀u p,γ u=some p->c u=some p)->(∀b o x,I b o=some x->Z b o=some x)->K X J) :
 o.wpIn (FW r) 0 P a w K Q:=by
 obtain⟨T,j⟩:=M.d _ _ _ hv;obtain⟨U,B,O,g⟩:=jb1 k n (Ju S) T;refine Wz (Yt n) ?_;rw[B];refine W9 (jn8 N j ha s k.sh (hf ub zK zO) O g) λe J he=>?_;obtain⟨x,c,rfl,y,F,L,G⟩:=he;obtain⟨i,H⟩:=jn9 s;unfold Delta.wt at i;have q:δ.del.toList=[]:=(fI.1 i).1;have z:δ.add=[]:=(fI.1 i).2;refine⟨x,rfl,hK c I _ _ ⟨(Ys _ _ _).trans k.sz,jdj k L _ _,?_,y _ (by simp[St.app,H]) (by simp[St.app,q,z,XZ]) rfl⟩ (λu hu=>G u (λe=>hu ⟨zO,zO⟩)) L (λ_ _ _ h=>h)⟩;exact Q9 (by rw[k.sz];exact hd) (λt=>(k.tm t).mono L (λ_ _ _ h=>h)) F
theorem mk_ok {m nm:Bool}{cd:Callers}{r:Option Nat}{ao:AOp}{K:Act->World->Prop}{Q:Exit->Act->World->Prop}(J:COk P E γ0 Iy cd)
 (U:R E w0 I0 nt γ I st a w) (hf:∀u,ub<=u->u<ub+64->γ u=none) (z:Jk P m o=some ao) (Z:∀d,o.dst=some d->d<nt) {f:FuncId}{vs:List V}{dn:Nat}
 (L:jB E nm (eval E st.tm) ao=some (f,vs)) (g:mkD E f vs dn ub=some δ)
 (hK:∀c G N H,R E w0 I0 nt c G (st.app o.dst δ) N H->(∀u,¬(ub<=u/\u<ub+64)->c u=γ u)->(∀u p,γ u=some p->c u=some p)->(∀b o x,I b o=some x->G b o=some x)->K N H) :
 o.wpIn (FW r) 0 P a w K Q:=by
 unfold mkD at g;split at g;case h_2=>cases g
 rename_i cs hn;obtain⟨M,y⟩:=J.k _ _ hn;obtain⟨l,D,B,s⟩:=jb1 U z (Ju L) M;obtain⟨x,rfl⟩:∃x,l = #[x]:=⟨l[0]'(by simp at B;omega),by
  apply gz;simpa using B;intro i O F;have:i=0:=by simp at F;omega
  subst this;rfl⟩
 obtain⟨p,q,rfl⟩:∃p q,x=.slice p 0 q:=by
  cases s 0 x _ rfl rfl with
  | pure _ _ h=>cases h <;> exact⟨_,_,rfl⟩
 refine Wz (Yt z) ?_;rw[D];refine W9 (y p q w) λe H he=>?_;obtain⟨rfl,S,t,rfl,O,F⟩:=he;obtain⟨c,G,h3,h4,h5,h6⟩:=jw1 (body:=.cells cs) (v:=.ptr dn ub 0) (d:=dn) (k:=.n S.size) U Z (hf ub zK zO) rfl (x:=.pointer (some ⟨w.heap.size,0,none⟩)) (λc h=>.ptr _ _ _ _ _ h)
  ⟨S,t,rfl,rfl,eS O.symm,λj x v T X=>⟨(F j x v T X).1,.pure _ _ ((F j x v T X).2 _)⟩⟩ g
 exact⟨_,rfl,hK c G _ _ h3 h4 h5 h6⟩
theorem jid {m:Bool}{ops:Array Oper}{X:Callers}{rn:Option Nat}{ao:AOpr}{l:List (St × Nat)}{K:Act->World->Prop}{Q:Exit->Act->World->Prop}(J:COk P E γ0 Iy X) (Z:SubG γ0 γ) (b5:SubI Iy I)
 (B:R E w0 I0 nt γ I st a w) (O:∀u,ub<=u->γ u=none) (hc:Jf P m ops o=some ao) (hd:∀d,o.dst=some d->d<nt)
 (n:step E X ao st ub=some l) (hK:∀x∈l,Nice E w0 I0 nt γ I x.1 x.2 K) :
 if Region.wanted o (yielded ops a.tmps) then o.wpIn (FW rn) 0 P a w K Q else (∀f,o.about P w a.eval=some f->(FW rn).fn f)/\K (a.put o.dst undef) w:=by
 obtain⟨j,i⟩:=XO hc
 unfold step at n
 cases hw:wanted ao st.tm with
 | none=>simp[hw]at n
 | some b=>
  rw[Xx B hc hw]
  cases b with
  | false=>
   simp only[hw,ab]at n
   subst n
   simp only[aj,if_false]
   refine⟨λ_ _=>trivial,?_⟩
   have:=hK _ (ae.2 rfl)
   rw[j]at this
   exact this γ I _ _ (jtr B hd) O (λ_ _ h=>h) (λ_ _ _ h=>h)
  | true=>
   simp only[hw]at n
   simp only[if_true]
   have i:Jk P m o=some ao.op:=i.resolve_right λh=>by simp[h,jB,jk,aop,AOp.next?]at n
   -- behind what shares
   have b8:∀ {r:V}{ob:ZO}{tk:Nat->Bool}{L:Nat},({ st with tm:=put st.tm ao.dst r,ob:=ob,tk:=tk },L)∈l->∀e N,WQ E w0 I0 γ I st.ro r ob tk L e N->∃v,e=.returned v/\K (a.put o.dst v) N:=by
    intro r ob tk L hl e N he
    obtain⟨x,z,I',rfl,b6,b9,hg,hI,c3⟩:=he
    refine⟨x,rfl,?_⟩
    have:=hK _ hl
    refine this z I' _ _ ⟨(Ys _ _ _).trans B.sz,jdj B hg _ _,?_,b6 _ rfl rfl rfl⟩ c3 hg hI
    rw[j]
    exact Q9 (by rw[B.sz];exact hd) (λt=>(B.tm t).mono hg hI) b9
   cases b0:jk (eval E st.tm) ao.op with
   | some c6=>
    obtain⟨lb,u,vs⟩:=c6
    simp only[b0]at n
    obtain⟨⟨r,ob,tk,L⟩,p,he⟩:=map_some n
    obtain⟨b,k,H,hu,c,a0,q⟩:=jsd B i b0
    obtain⟨fn,tmps,c7,bd,hy,M⟩:=J.y _ _ _ _ _ _ _ _ _ _ _ p w0 w I0 I γ H st b k Z b5 rfl rfl rfl B.sh O a0 q hu
    refine Wz (Yt i) ?_
    rw[c,hy]
    exact jqg M (b8 (he▸ae.2 rfl))
   | none=>
   simp only[b0]at n
   cases T:jB E ao.nm (eval E st.tm) ao.op with
   | some fx=>
    obtain⟨f,vs⟩:=fx
    simp only[T]at n
    split at n
    ·obtain⟨ls,p,he⟩:=map_some n
     obtain⟨c1,b7⟩:=J.s _ _ _ _ _ _ _ _ p
     obtain⟨H,c,a0,q⟩:=jb1 B i (Ju T) c1
     have:=b7 w0 w I0 I γ H st Z b5 rfl rfl rfl B.sh O a0 q
     refine Wz (Yt i) ?_
     rw[c]
     exact W9 this λe N ⟨r,hr,h⟩=>b8 (he▸List.mem_map_of_mem (f:=λx=>({ st with tm:=put st.tm ao.dst x.1,ob:=x.2.1,tk:=x.2.2.1 },x.2.2.2)) hr) e N h
    ·obtain⟨δ,D,rfl⟩:=map_some n
     refine j14 J B (λu h _=>O u h) i hd T (λ_ _ h=>h) O D (λz I' a' N F G g hI=>?_)
     have:=hK _ (ae.2 rfl)
     rw[j]at this
     refine this z I' _ _ F (λu hu=>?_) g hI
     simp only at hu
     rw[G u zO]
     exact O u zO
   | none=>
    simp only[T]at n
    split at n
    ·rename_i x S
     obtain⟨ls,c2,rfl⟩:=map_some n
     have c4:ao.op=.nextMap x:=by
      unfold AOp.next? at S
      split at S
      ·cases S;assumption
      ·cases S
     rw[c4]at i
     obtain⟨xo,ho,c5⟩:=jrq i
     obtain⟨δ,D,c0⟩:=jq6 (P:=P) (ub:=ub) B hd ho c5 c2
     obtain⟨x,N,z,I',c,F,G,g,hI⟩:=c0
     have U:K (a.put o.dst x) N:=by
      have:=hK _ (aJ.2 ⟨δ,D,rfl⟩)
      rw[j]at this
      refine this z I' _ _ F (λu hu=>?_) g hI
      simp only at hu
      rw[G u zO]
      exact O u zO
     refine Wz (Yt i) ?_
     rcases c with c|⟨c,rfl⟩
     ·rw[c];exact U
     ·rw[c];exact U
    ·obtain⟨δ,D,rfl⟩:=map_some n
     refine jji J B (λu h _=>O u h) i hd D (λz I' a' N F G g hI=>?_)
     have:=hK _ (ae.2 rfl)
     rw[j]at this
     refine this z I' _ _ F (λu hu=>?_) g hI
     simp only at hu
     rw[G u zO]
     exact O u zO
theorem jgd {g e:Type}{f:g->Option (List e)}:∀ {l:List g}{r:List e},Qy f l=some r->∀x∈l,∃d,f x=some d/\∀y∈d,y∈r
 | [],r,_,x,hx=>by cases hx
 | [x'],r,h,x,hx=>by simp only[ae]at hx;subst hx;exact⟨r,h,λy c=>c⟩
 | x'::y'::l,r,h,x,hx=>by simp only[Qy]at h;obtain⟨a,i,h⟩:=bind_some h;obtain⟨b,m,rfl⟩:=map_some h;rcases br.1 hx with rfl|hx;exact⟨a,i,λy c=>cD _ c⟩;obtain⟨d,k,j⟩:=jgd m x hx;exact⟨d,k,λy c=>bY _ (j y c)⟩
theorem Jh {c b:Type}{m:Option (List c)}{f:c->Option (List b)}{r:List b}(h:bindL m f=some r):∃l,m=some l/\∀x∈l,∃d,f x=some d/\∀y∈d,y∈r:=by obtain⟨l,e,h⟩:=bind_some h;exact⟨l,e,jgd h⟩
theorem R.congr {st st':St}(h:R E w0 I0 nt γ I st a w) (b:st'.tm=st.tm) (e:st'.ob=st.ob) (d:st'.tk=st.tk) (f:st'.ro=st.ro) (c:st'.df=st.df):R E w0 I0 nt γ I st' a w :=
 ⟨h.sz,by rw[c];exact h.df,by rw[b];exact h.tm,⟨h.imm,h.gl,(let ⟨Ω,ho⟩:=h.own;⟨Ω,⟨by rw[e,f];exact ho.ob,by rw[d];exact ho.tk,ho.lt⟩⟩),h.fr,h.old⟩⟩
theorem Nice.weaken {γ γ':Nat->Option Place}{I f:IMap}{st:St}{ub:Nat}{K:Act->World->Prop}(h:Nice E w0 I0 nt γ I st ub K) (j:∀u p,γ u=some p->γ' u=some p)
 (i:∀b o x,I b o=some x->f b o=some x):Nice E w0 I0 nt γ' f st ub K :=
 λc m a2 l k g e d=>h c m a2 l k g (λu p h=>e u p (j u p h)) (λb o x h=>d b o x (i b o x h))
theorem jt5 {m:Bool}{ops:Array Oper}{f:Callers}{rn:Option Nat}{Q:Exit->Act->World->Prop}(i:COk P E γ0 Iy f) :
 ∀ (l:List Oper) (b:List AOpr),l.mapM (Jf P m ops)=some b->(∀p∈b,∀d,p.dst=some d->d<nt)->∀ (γ:Nat->Option Place) (I:IMap) (st:St) (a:Act) (w:World) (ub:Nat) (e:List St),
  SubG γ0 γ->SubI Iy I->R E w0 I0 nt γ I st a w->(∀u,ub<=u->γ u=none)->jiu E f b st ub=some e->(∀c∈e,Nice E w0 I0 nt γ I c c.nx (λa w=>Q .normal a w))->wpListIn (FW rn) 0 P ops Q l a w
 | [],b,hm,hd,γ,I,st,a,w,ub,e,hγ0,hIy,hR,hf,hs,hK=>by simp at hm;subst hm;simp only[jiu,ab]at hs;subst hs;exact hK _ (ae.2 rfl) γ I a w (hR.congr rfl rfl rfl rfl rfl) hf (λ_ _ h=>h) (λ_ _ _ h=>h)
 | o::l,b,hm,hd,γ,I,st,a,w,ub,e,hγ0,hIy,hR,hf,hs,hK=>by
  simp only[bL]at hm;cases j:Jf P m ops o with
  | none=>simp[j]at hm
  | some p=>
   cases t:l.mapM (Jf P m ops) with
   | none=>simp[j,t]at hm
   | some g=>
    simp[j,t]at hm;subst hm;simp only[jiu]at hs;obtain⟨ls,J,F⟩:=Jh hs;have q:∀d,o.dst=some d->d<nt:=by have k:p.dst=o.dst:=(XO j).1;rw[<- k];exact hd p (aP ..)
    have:=jid (rn:=rn) (K:=wpListIn (FW rn) 0 P ops Q l) (Q:=Q) i hγ0 hIy hR hf j q J (λx k y L H D s r z B=>by
     obtain⟨N,M,G⟩:=F x k;exact jt5 i l g t (λx k=>hd x (bf _ k)) y L x.1 H D x.2 N (hγ0.trans z) (hIy.trans B) s r M
      (λc n=>(hK c (G c n)).weaken z B))
    unfold wpListIn;exact this
end
theorem jru {E:Env}{tm a:Nat->V}{x:A}(h:∀t∈x.tmps,tm t=a t):eval E tm x=eval E a x:=by
 cases x with
 | t n=>exact h n (by simp[A.tmps])
 | c v=>rfl
 | g n=>rfl
theorem Qs {ob ob':ZO}{l u:Nat}(h:ob l=ob' l):objCells ob l u=objCells ob' l u:=by unfold objCells;rw[h]
theorem jkz {ob ob':ZO}{l u:Nat}(h:ob l=ob' l):jn ob l u=jn ob' l u:=by unfold jn;rw[h]
theorem jky {ob ob':ZO}{l:Nat}(h:ob l=ob' l):jq ob l=jq ob' l:=by unfold jq;rw[h]
theorem Wb {ob ob':ZO}{sz:Nat}{v:V}(h:∀l∈lOf v,ob l=ob' l):slCells ob sz v=slCells ob' sz v:=by
 cases v <;> try rfl
 simp only[slCells];rw[Qs (h _ (by simp[lOf]))]
theorem XA {a b:Type}{f g:a->b}{l:List a}(h:∀x∈l,f x=g x):l.map f=l.map g:=dx h
theorem QL {ρ a:A->V}{ps:List (Nat × Nat × A)}(h:∀x∈ps.map (·.2.2),ρ x=a x):jz ρ ps=jz a ps:=by unfold jz;refine dx λp b=>?_;obtain⟨o,s,x⟩:=p;simp only[h x (aJ.2 ⟨_,b,rfl⟩)]
theorem XT {ρ a:A->V}{x:Option A}(h:∀y∈x.toList,ρ y=a y):x.map ρ=x.map a:=by
 cases x with
 | none=>rfl
 | some y=>simp[h y zS]
theorem jgg {cd:FuncId->List V->Option V}{ρ B:A->V}{ob ob':ZO}{tk D:Nat->Bool}{ro d ub:Nat}(o:AOp) (r:o.far=false)
 (c:∀x∈o.opds,ρ x=B x) (w:∀l∈rdOb ρ o,ob l=ob' l) (K:∀u∈rdTk ρ o,tk u=D u):aop cd ρ ob tk ro d ub o=aop cd B ob' D ro d ub o:=by
 have j:∀l u,l∈rdOb ρ o->objCells ob l u=objCells ob' l u:=λl u h=>Qs (w l h);have ov:∀l,l∈rdOb ρ o->jq ob l=jq ob' l:=λl h=>jky (w l h);have om:∀l u,l∈rdOb ρ o->jn ob l u=jn ob' l u:=λl u h=>jkz (w l h);cases o <;> simp only[AOp.opds,br,dc,or_false,forall_eq_or_imp,forall_eq]at c;case alloc=>rfl
 case mkMap=>rfl
 case stuck=>rfl
 case build z ps=>simp only[aop,QL c]
 case buildSl o s z ps n=>simp only[aop,QL c]
 case entry x=>cases r
 case nextMap x=>cases r
 case slStr x l h=>simp only[aop];rw[c.1,XT (λy i=>c.2 y (cD _ i)),XT (λy i=>c.2 y (bY _ i))]
 case slSl s x l h=>simp only[aop];rw[c.1,XT (λy i=>c.2 y (cD _ i)),XT (λy i=>c.2 y (bY _ i))]
 case slArr n s x l h=>simp only[aop];rw[<- c.1,XT (λy i=>c.2 y (cD _ i)),XT (λy i=>c.2 y (bY _ i))];split;rename_i a u off e;rw[j a u (by simp[rdOb,e,lOf])];rfl
 case ext k xs=>simp only[aop,XA c]
 case eq neg k x y=>simp only[aop];rw[<- c.1,<- c.2];split;rename_i l u off L J H e i;rw[j l u (by simp[rdOb,e,lOf]),j L J (by simp[rdOb,i,lOf])];rfl
 case copy sz x y=>simp only[aop];rw[<- c.1,<- c.2,Wb (λl F=>w l (by simp only[rdOb];exact bY _ F))];congr 1;funext ys;split;rename_i l u off n G e;rw[j l u (by simp[rdOb,e,lOf])];rfl;rfl
 case clear sz z x=>simp only[aop];rw[<- c];split;rename_i l u off n G e;rw[j l u (by simp[rdOb,e,lOf])];rfl;rfl
 case mkFn f a b=>simp only[aop];rw[XA (λy i=>c y (cD _ i)),XA (λy i=>c y (bY _ i))]
 case minmax b xs=>simp only[aop,XA c]
 case call f xs=>simp only[aop];rw[XA (f:=λx=>(ρ x).strip) (g:=λx=>(B x).strip) (λy i=>by rw[c y i])]
 case callV f xs=>simp only[aop];rw[c.1,XA (λy i=>c.2 y i)]
 case load g x=>simp only[aop];rw[<- c];split;rfl;rename_i l u off e;rw[j l u (by simp[rdOb,e,lOf])];rfl
 case store s x y=>simp only[aop];rw[<- c.1,<- c.2];split;rename_i l u off e;rw[j l u (by simp[rdOb,e,lOf])];rfl
 case lenMap x=>simp only[aop];rw[<- c];split;rfl;rename_i l u e;rw[om l u (by simp[rdOb,e,lOf])];rfl
 case lookup q z ok m k=>simp only[aop];rw[<- c.1,<- c.2];split;split;rfl;rename_i l u e;rw[om l u (by simp[rdOb,e,lOf])];rfl;rfl
 case mapSet q m k v=>simp only[aop];rw[<- c.1,<- c.2.1,<- c.2.2];split;split;rename_i l u e;rw[om l u (by simp[rdOb,e,lOf]),ov l (by simp[rdOb,e,lOf])];rfl;rfl
 case mapDel q m k=>simp only[aop];rw[<- c.1,<- c.2];split;split;rfl;rename_i l u e;rw[om l u (by simp[rdOb,e,lOf]),ov l (by simp[rdOb,e,lOf])];rfl;rfl
 case mapEnt q z m k=>simp only[aop];rw[<- c.1,<- c.2];split;split;rename_i l u e;rw[om l u (by simp[rdOb,e,lOf]),ov l (by simp[rdOb,e,lOf])];rfl;rfl
 case entSt m s x=>simp only[aop];rw[<- c.1,<- c.2.1,<- c.2.2];split;rename_i l u n e _;rw[om l u (by simp[rdOb,e,lOf]),ov l (by simp[rdOb,e,lOf])];rfl
 case nextStr x=>simp only[aop];rw[<- c];split;rename_i l u e;rw[w l (by simp[rdOb,e,lOf])];rfl
 case append o s b x y=>
  simp only[aop];rw[<- c.1,<- c.2];split;rename_i t M n cs e;rw[Wb (λl F=>w l (by simp only[rdOb];exact bY _ F))];cases t with
  | none=>rfl
  | some p=>obtain⟨u,z⟩:=p;have I:=K u (by simp[rdTk,e,uOf]);simp only[I]
  rename_i l u off n G e;rw[Wb (λl F=>w l (by simp only[rdOb];exact bY _ F)),j l u (by simp[rdOb,e,lOf])];rfl
 case range b x=>cases b;simp only[aop];rw[<- c];split;rfl;rename_i l u e;rw[om l u (by simp[rdOb,e,lOf]),ov l (by simp[rdOb,e,lOf])];rfl;simp only[aop,c]
 all_goals simp only[aop,c]
theorem rd_eq {ρ a:A->V}(o:AOp) (b:∀x∈o.opds,ρ x=a x):rdOb ρ o=rdOb a o/\rdTk ρ o=rdTk a o:=by cases o <;> simp only[AOp.opds,br,dc,or_false,forall_eq_or_imp,forall_eq]at b <;> simp only[rdOb,rdTk,b,and_self]
theorem Yr {E:Env}{nm:Bool}{ρ a:A->V}(o:AOp) (b:∀x∈o.opds,ρ x=a x):jB E nm ρ o=jB E nm a o:=by
 cases o <;> try rfl
 case call f xs=>
  have:xs.map ρ=xs.map a:=XA (λy c=>b y c);have e:(xs.all λx=>(ρ x).strip.pureTop)=xs.all λx=>(a x).strip.pureTop:=by
   have:∀r:A->V,(xs.all λx=>(r x).strip.pureTop)=(xs.map r).all λv=>v.strip.pureTop:=λr=>by rw[dF];rfl
   rw[this,this];congr 1
  simp only[jB,this,e]
 case callV f xs=>simp only[AOp.opds,br,forall_eq_or_imp]at b;simp only[jB];rw[b.1,XA (λy c=>b.2 y c)]
section
variable {cd:FuncId->List V->Option V}{ρ:A->V}{ob:ZO}{tk:Nat->Bool}{ro d ub:Nat}{δ:Delta}
theorem j8i {o:AOp}(h:o.rO=false):rdOb ρ o=[]:=by cases o <;> first|rfl|cases h
theorem j8h {o:AOp}(h:o.rT=false):rdTk ρ o=[]:=by cases o <;> first|rfl|cases h
def PlO (r:Option Delta):Prop:=∀δ,r=some δ->δ.wo=[]
def PlT (r:Option Delta):Prop:=∀δ,r=some δ->δ.wt=[]
theorem jbb:PlO none:=λ_ h=>by cases h
theorem plT_none:PlT none:=λ_ h=>by cases h
theorem jmw (v:V):PlO (one v):=λ_ h=>by cases h;rfl
theorem jmv (v:V):PlT (one v):=λ_ h=>by cases h;rfl
theorem jou {δ:Delta}(h:δ.wo=[]):PlO (some δ):=λ_ a=>by cases a;exact h
theorem jyq {δ:Delta}(h:δ.wt=[]):PlT (some δ):=λ_ a=>by cases a;exact h
theorem plT_mk {d ub:Nat}{b:OBody}{v:V}:PlT (Jj d ub b v):=λ_ h=>by cases h;rfl
theorem plO_bind {c:Type}{x:Option c}{f:c->Option Delta}(h:∀a,PlO (f a)):PlO (x.bind f):=λδ b=>by obtain⟨a,_,b⟩:=bind_some b;exact h a δ b
theorem plT_bind {c:Type}{x:Option c}{f:c->Option Delta}(h:∀a,PlT (f a)):PlT (x.bind f):=λδ b=>by obtain⟨a,_,b⟩:=bind_some b;exact h a δ b
theorem jty {ub:Nat}{r:V}:PlO (Xf ub r):=by unfold Xf;split;exact jou rfl;exact jbb
theorem jpy {f:FuncId}{xs:List V}:PlO (jcz cd ub f xs):=by unfold jcz;split;exact plO_bind λr=>jty;exact jbb
theorem j37 (k:ExtK) (vs:List V):PlO (j5z k vs):=by unfold j5z;split;exact jmw _;exact jmw _;exact jbb
theorem j36 (k:ExtK) (vs:List V):PlT (j5z k vs):=by unfold j5z;split;exact jmv _;exact jmv _;exact plT_none
theorem j1n (o:AOp) (h:o.wO=false):PlO (aop cd ρ ob tk ro d ub o):=by
 cases o <;> simp only[AOp.wO,ep]at h <;> simp only[aop];case call f xs=>exact jpy
 case callV f xs=>split;exact jpy;exact jbb
 case ext k xs=>exact j37 _ _
 all_goals repeat' first
  | with_reducible exact jmw _
  | with_reducible exact jbb
  | with_reducible exact jou rfl
  | (with_reducible refine plO_bind λ_=>?_)
  | split
theorem j1m (o:AOp) (h:o.wT=false):PlT (aop cd ρ ob tk ro d ub o):=by
 cases o <;> simp only[AOp.wT,ep]at h;case range b x=>cases b <;> simp only[aop] <;> repeat' first|exact plT_none|exact plT_mk|(with_reducible refine plT_bind λ_=>?_)|split
 case ext k xs=>simp only[aop];exact j36 _ _
 all_goals simp only[aop]
 all_goals repeat' first
  | with_reducible exact jmv _
  | with_reducible exact plT_none
  | with_reducible exact plT_mk
  | with_reducible exact jyq rfl
  | (with_reducible refine plT_bind λ_=>?_)
  | split
end
abbrev Eff:=Option Nat × Delta
def jO:(Nat->Bool)->List Eff->St->St
 | _,[],st=>st
 | D,e::es,st=>jO (λi=>D (i+1)) es (if D 0 then st.app e.1 e.2 else st)
theorem J6:∀ (es:List Eff) (D:Nat->Bool) (st:St),(jO D es st).nx=st.nx/\(jO D es st).fb=st.fb/\(jO D es st).ro=st.ro/\(jO D es st).df=st.df
 | [],_,_=>⟨rfl,rfl,rfl,rfl⟩
 | e::es,D,st=>by simp only[jO];obtain⟨a,c,b,d⟩:=J6 es (λi=>D (i+1)) (if D 0 then st.app e.1 e.2 else st);rw[a,c,b,d];split <;> exact⟨rfl,rfl,rfl,rfl⟩
section
variable {β:Type}{π:St->β}{wr:Eff->Bool}{g:Eff->β}(hπ:∀ (s:St) (e:Eff),π (s.app e.1 e.2)=if wr e then g e else π s)
include hπ
theorem XF:∀ (es:List Eff) (D c:Nat->Bool) (s s':St),(∀i e,es[i]? = some e->wr e=true->D i=c i)->π s=π s'->π (jO D es s)=π (jO c es s')
 | [],_,_,_,_,_,h=>h
 | e::es,D,c,s,s',h,hs=>by
  simp only[jO];refine XF es _ _ _ _ (λi f d a=>h (i+1) f (by simpa using d) a) ?_;cases a:wr e with
  | true=>rw[h 0 e rfl a];split;rw[hπ,hπ,a];rfl;exact hs
  | false=>
   have:∀ (b:Bool) (s:St),π (if b then s.app e.1 e.2 else s)=π s:=λb s=>by cases b;rfl;simp only[if_true];rw[hπ,a];rfl
   rw[this,this,hs]
theorem jlj:∀ (es:List Eff) (D:Nat->Bool) (s:St),(∀i e,es[i]? = some e->D i=true->wr e=false)->π (jO D es s)=π s
 | [],_,_,_=>rfl
 | e::es,D,s,h=>by simp only[jO];rw[jlj es _ _ (λi d b a=>h (i+1) d (by simpa using b) a)];split;rename_i c;rw[hπ,h 0 e rfl c];rfl;rfl
theorem jd8:∀ (es:List Eff) (D a:Nat->Bool) (s:St) (j:Nat) (e:Eff),es[j]? = some e->D j=false->a j=true->(∀i,i≠j->a i=D i) ->
 (∀i c,j<i->es[i]? = some c->D i=true->wr e=true->wr c=false)->π (jO a es s)=if wr e then g e else π (jO D es s)
 | [],_,_,_,_,_,h,_,_,_,_=>by simp at h
 | e0::es,D,a,s,0,e,b,h0,h1,hsame,hno=>by
  simp only[aD,ab]at b;subst b;have m:(λi=>a (i+1))=λi=>D (i+1):=funext λi=>hsame (i+1) zO;simp only[jO,h0,h1,if_true,m,aj,if_false];cases d:wr e0 with
  | true=>rw[jlj hπ es _ _ (λi c b f=>hno (i+1) c zO (by simpa using b) f d),hπ,d];rfl
  | false=>simp only[aj,if_false];refine XF hπ es _ _ _ _ (λ_ _ _ _=>rfl) ?_;rw[hπ,d];rfl
 | e0::es,D,a,s,j+1,e,b,h0,h1,hsame,hno=>by simp only[jO];rw[hsame 0 zO];exact jd8 es _ _ _ j e (by simpa using b) h0 h1 (λi l=>hsame (i+1) zO) (λi c l k f d=>hno (i+1) c zO (by simpa using k) f d)
end
def wrT (t:Nat) (e:Eff):Bool:=decide (e.1=some t)
def wrO (l:Nat) (e:Eff):Bool:=e.2.wo.contains l
def wrK (u:Nat) (e:Eff):Bool:=e.2.wt.contains u
theorem jaw (t:Nat) (s:St) (e:Eff):(s.app e.1 e.2).tm t=if wrT t e then e.2.v else s.tm t:=by
 obtain⟨d,a⟩:=e;cases d with
 | none=>simp[wrT,St.app,put]
 | some d=>simp only[wrT,St.app,put,j5,ab,decide_eq_true_eq];by_cases h:t=d;subst h;simp;rw[if_neg h,if_neg (λe=>h e.symm)]
theorem Q6 (ob:ZO):∀ (l:List (Nat × Obj')) (k:Nat),JS ob l k=if (l.map (·.1)).contains k then JS (λ_=>none) l k else ob k
 | [],k=>by simp[JS]
 | (l,o)::r,k=>by
  simp only[JS,j5,bt,em];by_cases h:k=l;subst h;simp;rw[if_neg h,if_neg h,Q6 ob r k];have:(k == l)=false:=by simpa using h
  simp only[this,cp]
theorem jdc (l:Nat) (s:St) (e:Eff):(s.app e.1 e.2).ob l=if wrO l e then JS (λ_=>none) e.2.obs l else s.ob l:=by
 have a:∀ (q:List Nat),q.any (Nat.beq l)=q.contains l:=λq=>by rw[bB,any_beq];simp
 simp only[St.app,wrO,Delta.wo,List.contains_append];rw[Q6];cases h:(e.2.obs.map (·.1)).contains l with
 | true=>simp
 | false=>
  simp only[bq,aj,if_false,a];cases b:e.2.kill.contains l with
  | true=>simp only[if_true];rw[Q6,h];rfl
  | false=>simp
theorem ja4 (tk:Nat->Bool) (b:Bool):∀ (l:List Nat) (k:Nat),XZ tk b l k=if l.contains k then b else tk k
 | [],k=>by simp[XZ]
 | u::r,k=>by
  simp only[XZ,j5,em];by_cases h:k=u;subst h;simp;rw[if_neg h,ja4 tk b r k];have:(k == u)=false:=by simpa using h
  simp only[this,cp]
theorem jgv (u:Nat) (s:St) (e:Eff):(s.app e.1 e.2).tk u=if wrK u e then e.2.add.contains u else s.tk u:=by simp only[St.app,wrK,Delta.wt,ja4,List.contains_append];cases e.2.add.contains u <;> cases e.2.del.toList.contains u <;> rfl
theorem jia (b:List Nat) (i:Nat):∀ (es:List Edge) (m:Nat),(es.foldl (λm e=>if Region.binds .any e then m ||| (1 <<< e.on ||| b.getD e.on 0) else m) m).testBit i=true ->
 m.testBit i=true\/∃e∈es,Region.binds .any e=true/\(i=e.on\/(b.getD e.on 0).testBit i=true)
 | [],m,h=>.inl h
 | e::es,m,h=>by
  simp only[dO]at h;rcases jia b i es _ h with h|⟨f,c,j⟩;split at h;rename_i a;rw[ew,ew]at h;simp only[bA]at h;rcases h with h|h|h;exact .inl h;refine .inr ⟨e,aP ..,a,.inl ?_⟩;rw[Nat.testBit_shiftLeft]at h;simp only[ge_iff_le,ai,decide_eq_true_eq]at h;have:i - e.on=0:=by rcases cM (i - e.on) with h0|h0;exact h0;have d:=h.2;have:Nat.testBit 1 (i - e.on)=false:=ey (Nat.one_lt_two_pow zO);rw[this]at d;cases d
  omega;exact .inr ⟨e,aP ..,a,.inr h⟩;exact .inl h;exact .inr ⟨f,bf _ c,j⟩
theorem jgi:∀ (l:List Oper) (a:List Nat),a <+: JF l a/\∀k o,l[k]? = some o->∃b,b <+: JF l a/\(JF l a).getD (a.length+k) 0=ahead o b
 | [],a=>⟨List.prefix_refl _,λk o h=>by simp at h⟩
 | o::r,a=>by
  simp only[JF];obtain⟨d,i⟩:=jgi r (a++[ahead o a]);refine⟨(List.prefix_append ..).trans d,λk n c=>?_⟩;cases k with
  | zero=>simp only[aD,ab]at c;subst c;refine⟨a,(List.prefix_append ..).trans d,?_⟩;obtain⟨t,m⟩:=d;rw[<- m];simp
  | succ k=>obtain⟨b,f,j⟩:=i k n (by simpa using c);refine⟨b,f,?_⟩;rw[<- j];simp[aG,fH 1 k]
theorem jnm {a b:List Nat}(h:a <+: b) {k i:Nat}(c:(a.getD k 0).testBit i=true):(b.getD k 0).testBit i=true:=by obtain⟨t,rfl⟩:=h;rcases cu k a.length with hk|hk;simpa[List.getD,aV hk] using c;simp[List.getD,cX hk]at c
theorem jna {ops:Array Oper}{j i:Nat}{o:Oper}(f:ops[j]? = some o) (c:((JF ops.toList []).getD j 0).testBit i=true) :
 ∃e∈o.after,Region.binds .any e=true/\(i=e.on\/((JF ops.toList []).getD e.on 0).testBit i=true):=by
 obtain⟨_,h⟩:=jgi ops.toList [];obtain⟨a,d,b⟩:=h j o (by rw[bn];exact f);simp only[cC,bM]at b;rw[b,ahead]at c;rcases jia a i o.after.toList 0 c with m|⟨e,l,k,n⟩;simp at m;exact⟨e,by simpa using l,k,n.imp id (jnm d)⟩
structure TrAt (E:Env) (call:Callers) (fb ub ue:Nat) (s:St) (ao:AOpr) (δ:Delta) (fp:FP):Prop where
 wo:fp.wo=δ.wo
 wt:fp.wt=δ.wt
 run:(wanted ao s.tm=some true/\jB E ao.nm (eval E s.tm) ao.op=none/\ao.op.far=false/\aop call.d (eval E s.tm) s.ob s.tk s.ro (ao.name fb ub) ub ao.op=some δ /\
  fp.ro=rdOb (eval E s.tm) ao.op/\fp.rt=rdTk (eval E s.tm) ao.op/\fp.all=false)\/(wanted ao s.tm=some false/\δ = { v:=ju }/\fp = {}) \/
  (wanted ao s.tm=some true/\∃f xs base,jB E ao.nm (eval E s.tm) ao.op=some (f,xs)/\(call.o f xs s.ob s.tk base ue).bind (Xf ub)=some δ/\fp = { wt:=δ.wt,all:=true,seen:=λl=>(s.ob l).isSome }) \/
  (wanted ao s.tm=some true/\∃f xs a' rv,jB E ao.nm (eval E s.tm) ao.op=some (f,xs)/\xs.mapM (WL s.ob)=some a'/\call.d f a'=some rv/\Qj (ao.name fb ub) ub rv=some δ/\fp = { wo:=δ.wo,all:=true,seen:=λl=>(s.ob l).isSome,nw:=true }) \/
  (wanted ao s.tm=some true/\∃f xs,jB E ao.nm (eval E s.tm) ao.op=some (f,xs)/\mkD E f xs (ao.name fb ub) ub=some δ/\fp = { wo:=δ.wo,nw:=true })
theorem mkD_wt {E:Env}{f:FuncId}{xs:List V}{d ub:Nat}{δ:Delta}(h:mkD E f xs d ub=some δ):δ.wt=[]:=by unfold mkD at h;split at h;cases h;rfl;cases h
structure Trace (E:Env) (call:Callers) (st:St) (ub:Nat) (als:List AOpr) (effs:List Eff) (fps:List FP):Prop where
 len:effs.length=als.length
 at':∀i ao,als[i]? = some ao->∃δ fp,effs[i]? = some (ao.dst,δ)/\fps[i]? = some fp/\TrAt E call st.fb (ub+64*i) (ub+64*als.length) (jO (λk=>decide (k<i)) effs st) ao δ fp
theorem jnn (i:Nat) (e:Eff) (es:List Eff) (st:St):jO (λk=>decide (k<i+1)) (e::es) st=jO (λk=>decide (k<i)) es (st.app e.1 e.2):=by simp only[jO,Nat.zero_lt_succ,decide_true,if_true,Nat.add_lt_add_iff_right]
theorem XM {E:Env}{c:Callers}:∀ (q:List AOpr) (st:St) (ub:Nat) (n:List FP) (st':St),YI E c q st ub=some (n,st') ->
 ∃a,Trace E c st ub q a n/\st' = { jO (λ_=>true) a st with nx:=ub+64*q.length }
 | [],st,ub,n,st',h=>by simp only[YI,ab,bW]at h;obtain⟨rfl,rfl⟩:=h;exact⟨[],⟨rfl,λi K h=>by simp at h⟩,rfl⟩
 | o::r,st,ub,n,st',h=>by
  have j:∀ (d:Delta) (z:FP) (fs:List FP),YI E c r (st.app o.dst d) (ub+64)=some (fs,st')->TrAt E c st.fb ub (ub+64*(o::r).length) st o d z ->
   ∃a,Trace E c st ub (o::r) a (z::fs)/\st' = { jO (λ_=>true) a st with nx:=ub+64*(o::r).length }:=by
   intro d z fs m M
   obtain⟨a,B,D⟩:=XM r _ _ _ _ m
   refine⟨(o.dst,d)::a,⟨by simp[B.len],λi K H=>?_⟩,?_⟩
   ·cases i with
    | zero=>
     simp only[aD,ab]at H;subst H;refine⟨d,z,rfl,rfl,?_⟩;have:jO (λk=>decide (k<0)) ((o.dst,d)::a) st=st:=by
      simp only[Nat.not_lt_zero,decide_false];have:∀ (l:List Eff) (s:St),jO (λ_=>false) l s=s:=by
       intro l;induction l with
       | nil=>intro s;rfl
       | cons e l S=>intro s;simp only[jO,aj,if_false];exact S s
      exact this _ _
     rw[this];exact M
    | succ i=>
     obtain⟨F,I,P,O,Q⟩:=B.at' i K (by simpa using H);refine⟨F,I,by simpa using P,by simpa using O,?_⟩;rw[jnn];have B:ub+64*(i+1)=ub+64+64*i:=zO;have D:ub+64*(o::r).length=ub+64+64*r.length:=by simp only[bo];omega
     rw[B,D];exact Q
   ·rw[D];simp only[jO,if_true,bo];congr 1;omega
  unfold YI at h;split at h;rename_i t;split at h;rename_i f G y;split at h;split at h;obtain⟨d,b,h⟩:=bind_some h;obtain⟨⟨fs,s⟩,m,g⟩:=map_some h;simp only[bW]at g;obtain⟨rfl,rfl⟩:=g;obtain⟨L,p,w⟩:=bind_some b;obtain⟨N,J,p⟩:=bind_some p;exact j d _ fs m ⟨rfl,(jn9 w).1.symm,.inr (.inr (.inr (.inl ⟨t,f,G,N,L,y,J,p,w,rfl⟩)))⟩;obtain⟨d,b,h⟩:=bind_some h;obtain⟨⟨fs,s⟩,m,g⟩:=map_some h;simp only[bW]at g;obtain⟨rfl,rfl⟩:=g;exact j d _ fs m ⟨rfl,(mkD_wt b).symm,.inr (.inr (.inr (.inr ⟨t,f,G,y,b,rfl⟩)))⟩;obtain⟨d,b,h⟩:=bind_some h;obtain⟨⟨fs,s⟩,m,g⟩:=map_some h;simp only[bW]at g;obtain⟨rfl,rfl⟩:=g;obtain⟨L,_,u⟩:=bind_some b;exact j d _ fs m ⟨(jty d u).symm,rfl,.inr (.inr (.inl ⟨t,f,G,_,y,b,rfl⟩))⟩;rename_i y;split at h;cases h;rename_i x;obtain⟨d,b,h⟩:=bind_some h;obtain⟨⟨fs,s⟩,m,g⟩:=map_some h;simp only[bW]at g;obtain⟨rfl,rfl⟩:=g;exact j d _ fs m ⟨rfl,rfl,.inl ⟨t,y,by simpa using x,b,rfl,rfl,rfl⟩⟩;rename_i t;obtain⟨⟨fs,s⟩,m,g⟩:=map_some h;simp only[bW]at g;obtain⟨rfl,rfl⟩:=g;exact j _ _ fs m ⟨rfl,rfl,.inr (.inl ⟨t,rfl,rfl⟩)⟩;cases h
structure Ind (f g:FP):Prop where
 oa:∀a∈f.wo,a ∉ g.ro
 ob:∀a∈f.wo,a ∉ g.wo
 oc:∀a∈f.ro,a ∉ g.wo
 ta:∀a∈f.wt,a ∉ g.rt
 tb:∀a∈f.wt,a ∉ g.wt
 tc:∀a∈f.rt,a ∉ g.wt
 al:f.all=true->∀l∈g.wo,f.seen l=false
 ar:g.all=true->f.wo=[]
theorem Y8 {x y:List Nat}(h:jap x y=true):∀a∈x,a ∉ y:=by intro a c d;have:(x.any λa=>y.any λb=>Nat.beq a b)=true:=bx.2 ⟨a,c,bx.2 ⟨a,d,cI a⟩⟩;simp only[jap,this,cZ,aj]at h
theorem jrr {f g:FP}(h:Qn f g=true):Ind f g:=by simp only[Qn,ai]at h;obtain⟨⟨⟨⟨⟨⟨⟨i,d⟩,l⟩,e⟩,k⟩,b⟩,j⟩,c⟩:=h;refine⟨Y8 i,Y8 d,Y8 l,Y8 e,Y8 k,Y8 b,λa=>?_,λa=>?_⟩;simpa[a] using j;simpa[a] using c
structure Cls (x:AOp) (f:FP):Prop where
 wo:x.wO=false->f.wo=[]\/f.nw=true
 ro:x.rO=false->f.ro=[]
 wt:x.wT=false->f.wt=[]
 rt:x.rT=false->f.rt=[]
 all:x.rA=false->f.all=false
theorem TrAt.cls {E:Env}{i:Callers}{fb ub ue:Nat}{s:St}{ao:AOpr}{δ:Delta}{m:FP}(h:TrAt E i fb ub ue s ao δ m):Cls ao.op m:=by
 rcases h.run with⟨_,_,_,d,j,n,p⟩|⟨_,_,rfl⟩|⟨_,f,l,o,d,j,rfl⟩|⟨_,f,l,r,t,d,j,n,p,rfl⟩|⟨_,f,l,d,j,rfl⟩;exact⟨λe=>.inl (by rw[h.wo];exact j1n _ e δ d),λc=>by rw[j];exact j8i c,λe=>by rw[h.wt];exact j1m _ e δ d,λc=>by rw[n];exact j8h c,λ_=>p⟩;exact⟨λ_=>.inl rfl,λ_=>rfl,λ_=>rfl,λ_=>rfl,λ_=>rfl⟩;have k:(∃g a,ao.op=.call g a)\/∃q a,ao.op=.callV q a:=by rcases Ju d with⟨a,b,_⟩|⟨q,a,_,_,b,_⟩;exact .inl ⟨f,a,b⟩;exact .inr ⟨q,a,b⟩
 refine⟨λ_=>.inl rfl,λ_=>rfl,λe=>?_,λ_=>rfl,λc=>?_⟩;rcases k with⟨g,a,b⟩|⟨q,a,b⟩ <;> rw[b]at e <;> cases e;rcases k with⟨g,a,b⟩|⟨q,a,b⟩ <;> rw[b]at c <;> cases c;have k:(∃g a,ao.op=.call g a)\/∃q a,ao.op=.callV q a:=by rcases Ju d with⟨a,b,_⟩|⟨q,a,_,_,b,_⟩;exact .inl ⟨f,a,b⟩;exact .inr ⟨q,a,b⟩
 refine⟨λ_=>.inr rfl,λ_=>rfl,λ_=>rfl,λ_=>rfl,λc=>?_⟩;rcases k with⟨g,a,b⟩|⟨q,a,b⟩ <;> rw[b]at c <;> cases c;exact⟨λ_=>.inr rfl,λ_=>rfl,λ_=>rfl,λ_=>rfl,λ_=>rfl⟩
def j61 (f g:FP):Prop:=(∀a∈f.wo,a ∉ g.ro)/\(∀a∈f.wo,a ∉ g.wo)/\g.all=false
theorem jhm {fs:List FP}(h:jah fs=true) {i j:Nat}{f g:FP}(hi:fs[i]? = some f) (k:fs[j]? = some g) (d:i≠j) (m:f.nw=true):j61 f g:=by
 unfold jah at h;rw[bA]at h;rcases h with h|h;have:=aw.1 h f (aI hi);rw[m]at this;cases this;have e:=(ak.1 hi).1;have c:=(ak.1 k).1;have l:=aw.1 h i (aH.2 e);simp only[List.getD,hi,cw,m,cZ,cp]at l;have a:=aw.1 l j (aH.2 c);have b:Nat.beq i j=false:=by
  cases n:Nat.beq i j with
  | false=>rfl
  | true=>exact absurd (bm n) d
 simp only[k,cw,b,cp,QF,ai,bJ]at a;exact⟨Y8 a.1.1,Y8 a.1.2,a.2⟩
theorem jtt {x y:AOp}{f g:FP}(i:x.quiet y=true) (t:Cls x f) (z:Cls y g) (k:f.nw=true->j61 f g) (m:g.nw=true->j61 g f):Ind f g:=by unfold AOp.quiet at i;simp only[ai,bJ,Bool.and_eq_false_iff,Bool.or_eq_false_iff]at i;obtain⟨⟨⟨⟨⟨q,u⟩,o⟩,H⟩,J⟩,D⟩:=i;obtain⟨j,B,p,G,w⟩:=t;obtain⟨e,F,r,s,I⟩:=z;refine⟨λa b c=>?_,λa b c=>?_,λa b c=>?_,λa b c=>?_,λa b c=>?_,λa b c=>?_,λb=>?_,λb=>?_⟩;rcases q with h|⟨h,_⟩;rcases j h with d|d;rw[d]at b;cases b;exact(k d).1 a b c;rw[F h]at c;cases c;rcases q with h|⟨_,h⟩;rcases j h with d|d;rw[d]at b;cases b;exact(k d).2.1 a b c;rcases e h with d|d;rw[d]at c;cases c;exact(m d).2.1 a c b;rcases u with h|h;rcases e h with d|d;rw[d]at c;cases c;exact(m d).1 a c b;rw[B h]at b;cases b;rcases o with h|⟨h,_⟩;rw[p h]at b;cases b;rw[s h]at c;cases c;rcases o with h|⟨_,h⟩;rw[p h]at b;cases b;rw[r h]at c;cases c;rcases H with h|h;rw[r h]at c;cases c;rw[G h]at b;cases b;rcases J with h|⟨h,d⟩;rw[w h]at b;cases b;intro l n;rcases e h with h''|h'';rw[h'']at n;cases n;rw[(m h'').2.2]at b;cases b;rcases D with h|⟨h,d⟩;rw[I h]at b;cases b;rcases j h with h''|h'';exact h'';rw[(k h'').2.2]at b;cases b
structure Apart (x y:AOpr):Prop where
 a:∀d,x.dst=some d->d ∉ y.looks
 b:∀d,x.dst=some d->y.dst≠some d
 c:∀d,y.dst=some d->d ∉ x.looks
theorem jnx {l:List Nat}{d:Nat}(h:(l.any λt=>Nat.beq t d)=false):d ∉ l:=by intro a;have:(l.any λt=>Nat.beq t d)=true:=bx.2 ⟨d,a,cI d⟩;rw[h]at this;cases this
theorem jr5 {x y:AOpr}(h:x.apart y=true):Apart x y:=by unfold AOpr.apart at h;simp only[ai]at h;obtain⟨b,c⟩:=h;refine⟨λd a=>?_,λd a e=>?_,λd a=>?_⟩;simp only[a,ai,bJ]at b;exact jnx b.1;simp only[a,e,ai,bJ]at b;rw[cI]at b;cases b.2;simp only[a,bJ]at c;exact jnx c
theorem Xv {ops:Array Oper}{a:List AOpr}{free:List (Nat × Nat)}(h:Y7 ops a=some free) (c:a.length=ops.size) :
 (∀j o,ops[j]? = some o->∀e∈o.after,Region.binds .any e=true->e.on<j) /\
 (∀i j x y,i<j->a[i]? = some x->a[j]? = some y->((JF ops.toList []).getD j 0).testBit i=false->Apart x y/\(x.op.quiet y.op=true\/(i,j)∈free)):=by
 unfold Y7 at h;simp only[aC,ai,ab]at h;obtain⟨⟨t,n⟩,rfl⟩:=h;refine⟨λj o k e s q=>?_,λi j x y f l d p=>?_⟩;have g:j<a.length:=by rw[c];exact(aM.1 k).1
 have:=aw.1 t j (aH.2 g);simp only[k,gm]at this;have:=this e s;simp only[q,cZ,cp]at this;simpa[dp] using this;have g:j<a.length:=(ak.1 d).1;have b:(i,j)∈(List.range a.length).flatMap λj=>((List.range j).filter λi=>!((JF ops.toList []).getD j 0).testBit i).map λi=>(i,j) :=
  cg.2 ⟨j,aH.2 g,aJ.2 ⟨i,bV.2 ⟨aH.2 f,by rw[p];rfl⟩,rfl⟩⟩
 have m:=aw.1 n _ b;simp only[l,d]at m;refine⟨jr5 m,?_⟩;cases r:x.op.quiet y.op with
 | true=>exact .inl rfl
 | false=>exact .inr (bV.2 ⟨b,by simp only[l,d,r,cG]⟩)
section
variable {P:Program}{E:Env}{w0 w:World}{I0:IMap}{nt:Nat}{γ:Nat->Option Place}{I:IMap}{st:St}{a:Act}{ub:Nat}{call:Callers}{ops:Array Oper}{als:List AOpr}
 {effs:List Eff}{fps:List FP}{free:List (Nat × Nat)}
theorem R.drawn (h:R E w0 I0 nt γ I st a w) (n:Nat):R E w0 I0 nt γ I st a { w with drawn:=n } :=
 ⟨h.sz,h.df,h.tm,⟨h.imm,h.gl,(let ⟨Ω,ho⟩:=h.own;⟨Ω,⟨ho.ob,ho.tk,ho.lt⟩⟩),⟨h.fr.os,h.fr.tape,h.fr.output,h.fr.size,h.fr.block⟩,h.old⟩⟩
def jdp (ops:Array Oper) (D:Nat->Bool):Prop:=∀j o,ops[j]? = some o->D j=true->∀e∈o.after,Region.binds .any e=true->D e.on=true
theorem jh5 {D:Nat->Bool}(b:∀j o,ops[j]? = some o->∀e∈o.after,Region.binds .any e=true->e.on<j) (s:jdp ops D) :
 ∀ (n j i:Nat),j<=n->j<ops.size->((JF ops.toList []).getD j 0).testBit i=true->D j=true->D i=true:=by
 intro n;induction n with
 | zero=>intro j i q d l m;have f:=aA d;obtain⟨e,k,c,_⟩:=jna f l;have:=b j _ f e k c;omega
 | succ n r=>intro j i q d l m;have f:=aA d;obtain⟨e,k,c,h⟩:=jna f l;have p:=b j _ f e k c;have g:=s j _ f m e k c;rcases h with rfl|h;exact g;exact r e.on i zO zO h g
theorem Yc {D:Nat->Bool}(b:∀j o,ops[j]? = some o->∀e∈o.after,Region.binds .any e=true->e.on<j) (n:jdp ops D) {j i:Nat}{o:Oper}(d:ops[j]? = some o)
 (g:∀e∈o.after,Region.binds .any e=true->D e.on=true) (m:((JF ops.toList []).getD j 0).testBit i=true):D i=true:=by
 obtain⟨e,f,c,h⟩:=jna d m;have l:=(aM.1 d).1;have k:=b j _ d e f c;rcases h with rfl|h;exact g e f c;exact jh5 b n e.on e.on i zK zO h (g e f c)
theorem Xk {s s':St}{ao:AOpr}(h:∀t∈ao.looks,s.tm t=s'.tm t):∀x∈ao.op.opds,eval E s.tm x=eval E s'.tm x :=
 λx c=>jru λt b=>h t (cD _ (cg.2 ⟨x,c,b⟩))
theorem X0 {s s':St}{ao:AOpr}(h:∀t∈ao.looks,s.tm t=s'.tm t):wanted ao s.tm=wanted ao s'.tm:=by
 unfold wanted;cases c:ao.guard with
 | none=>rfl
 | some g=>obtain⟨t,b⟩:=g;simp only[];rw[h t (bY _ (by simp[c]))]
theorem jrb (x:AOpr):Apart jix x:=⟨λ_ h=>(by cases h),λ_ h=>(by cases h),λ_ _ h=>by simp[jix,AOpr.looks,AOp.opds,A.tmps]at h⟩
theorem Ind.nil (f:FP):Ind {} f:=⟨λ_ h=>(by cases h),λ_ h=>(by cases h),λ_ h=>(by cases h),λ_ h=>(by cases h),λ_ h=>(by cases h),λ_ h=>(by cases h),λh=>(by cases h),λ_=>rfl⟩
theorem jgh {al':List AOpr}{sp:Nat->Bool}{bb:Bool}{m:Bool}{rn:Option Nat}{γ0:Nat->Option Place}{Iy:IMap}{Q:Exit->Act->World->Prop}{kk:Nat}(k2:kk<=als.length)
 (h6:al'.length=kk) (i2:∀i D,i<kk->sp i=false->als[i]? = some D->al'[i]? = some D) (g9:∀i,i<kk->sp i=true->effs[i]? = some (none,{ v:=ju }))
 (f3:∀j,kk<=j->j<ops.size->∀i,i<kk->((JF ops.toList []).getD j 0).testBit i=true)
 (d5:COk P E γ0 Iy call) (g2:ops.toList.mapM (Jf P m ops)=some als) (e3:Y7 ops als=some free)
 (e1:Trace E call st ub al' effs fps) (h9:X5 free fps=true) (f5:jah fps=true) (f2:∀D∈als,∀d,D.dst=some d->d<nt)
 (h4:∀i (q:Nat) (n:Array Bool) (B:Nat->Option Place) (I1:IMap) (a:Act) (w:World),sp i=true->i<kk->n.size=ops.size->jdp ops (λi=>n.getD i false)->(∀j,kk<=j->n.getD j false=false)->(∀j,sp j=true->n.getD j false=bb) ->
  n.toList.count false<=q+1->R E w0 I0 nt B I1 (jO (λi=>n.getD i false) effs st) a w->(∀u,ub+64*kk<=u->B u=none) ->
  (∀u p,γ u=some p->B u=some p)->(∀b o x,I b o=some x->I1 b o=some x)->i∈Region.ready .any ops n ->
  wpOpIn (FW rn) 0 P ops Q i (wpAnyIn (FW rn) 0 P .any ops Q q (n.setIfInBounds i true)) a w)
 (hK:∀G I' a' w' (q:Nat) (n:Array Bool),n.size=ops.size->(∀i,n.getD i false=decide (i<kk))->(∀j,sp j=true->n.getD j false=bb)->n.toList.count false<=q ->
  R E w0 I0 nt G I' (jO (λ_=>true) effs st) a' w'->(∀u,ub+64*kk<=u->G u=none)->(∀u p,γ u=some p->G u=some p) ->
  (∀b o x,I b o=some x->I' b o=some x)->wpAnyIn (FW rn) 0 P .any ops Q q n a' w') :
 ∀ (q:Nat) (n:Array Bool) (B:Nat->Option Place) (I1:IMap) (a:Act) (w:World),n.size=ops.size->jdp ops (λi=>n.getD i false)->(∀j,kk<=j->n.getD j false=false)->(∀j,sp j=true->n.getD j false=bb)->n.toList.count false<=q ->
  R E w0 I0 nt B I1 (jO (λi=>n.getD i false) effs st) a w->(∀u,ub+64*kk<=u->B u=none) ->
  (∀j,n.getD j true=false->∀u,ub+64*j<=u->u<ub+64*j+64->B u=none)->(∀u p,γ u=some p->B u=some p)->(∀b o x,I b o=some x->I1 b o=some x) ->
  wpAnyIn (FW rn) 0 P .any ops Q q n a w:=by
 obtain⟨d2,f8⟩:=jy g2
 have d2:als.length=ops.size:=by rw[d2,aL]
 obtain⟨b9,c0⟩:=Xv e3 d2
 have g3:effs.length=kk:=by rw[e1.len,h6]
 have k0:kk<=ops.size:=zO
 have g7:∀ {i D},i<kk->sp i=false->als[i]? = some D->al'[i]? = some D:=λhi hs h=>i2 _ _ hi hs h
 -- two that no edge orders touch nothing of each other
 have d9:∀i j x y g0 fi f7 fj,i<j->als[i]? = some x->als[j]? = some y->((JF ops.toList []).getD j 0).testBit i=false ->
  fps[i]? = some fi->fps[j]? = some fj->(∃s u v,TrAt E call st.fb u v s x g0 fi)->(∃s u v,TrAt E call st.fb u v s y f7 fj)->Ind fi fj:=by
  intro i j x y g0 fi f7 fj i5 hx hy ht e8 e5 ⟨s1,u1,v1,t1⟩ ⟨s2,u2,v2,t2⟩
  rcases(c0 i j x y i5 hx hy ht).2 with hq|hm
  ·exact jtt hq t1.cls t2.cls (λh=>jhm f5 e8 e5 zO h) (λh=>jhm f5 e5 e8 zO h)
  ·have:=aw.1 h9 _ hm
   simp only[List.getD,e8,e5,cw]at this
   exact jrr this
 have c1:∀ (n:Array Bool) (i:Nat),i<n.size->n.getD i true=n.getD i false:=by
  intro n i hi
  simp[hi]
 have Z:∀n:Array Bool,n.size=ops.size->(∀i,i<kk->i ∉ Region.ready .any ops n)->∀j,j<kk->n.getD j false=true:=by
  intro n U hr j
  induction j using Nat.strongRecOn with
  | _ j ih=>
   intro hj
   cases hd:n.getD j false with
   | true=>rfl
   | false=>
    have:j∈Region.ready .any ops n:=mem_ready.2 ⟨by rw[c1 n j zO];exact hd,ops[j],aA zO,λe he hb=>by
     have:=b9 j _ (aA zO) e he hb
     exact ih e.on this zO⟩
    exact absurd this (hr j hj)
 have done:∀ (q:Nat) (n:Array Bool) (B:Nat->Option Place) (I1:IMap) (a:Act) (w:World),n.size=ops.size->(∀j,kk<=j->n.getD j false=false)->(∀j,sp j=true->n.getD j false=bb)->n.toList.count false<=q->(∀j,j<kk->n.getD j false=true) ->
  R E w0 I0 nt B I1 (jO (λi=>n.getD i false) effs st) a w->(∀u,ub+64*kk<=u->B u=none)->(∀u p,γ u=some p->B u=some p)->(∀b o x,I b o=some x->I1 b o=some x)->wpAnyIn (FW rn) 0 P .any ops Q q n a w:=by
  intro q n B I1 a w U K b0 b5 F hR c3 hg hI
  have d3:∀ {β:Type}{π:St->β}{wr:Eff->Bool}{g:Eff->β},(∀ (s:St) (e:Eff),π (s.app e.1 e.2)=if wr e then g e else π s) ->
   π (jO (λ_=>true) effs st)=π (jO (λi=>n.getD i false) effs st):=λd6=>
   XF d6 effs _ _ _ _ (λi e he _=>(F i (by rw[<- g3];exact(ak.1 he).1)).symm) rfl
  refine hK B I1 a w q n U (λi=>?_) b0 b5 (hR.congr (funext λt=>d3 (π:=λs=>s.tm t) (wr:=wrT t) (g:=λe=>e.2.v) (jaw t)) (funext λl=>d3 (π:=λs=>s.ob l) (wr:=wrO l) (g:=λe=>JS (λ_=>none) e.2.obs l) (jdc l)) (funext λu=>d3 (π:=λs=>s.tk u) (wr:=wrK u) (g:=λe=>e.2.add.contains u) (jgv u)) ((J6 effs _ st).2.2.1.trans (J6 effs _ st).2.2.1.symm) ((J6 effs _ st).2.2.2.trans (J6 effs _ st).2.2.2.symm)) c3 hg hI
  by_cases hi:i<kk
  ·rw[F i hi,decide_eq_true hi]
  ·rw[K i zO,decide_eq_false hi]
 intro q
 induction q with
 | zero=>
  intro n B I1 a w U c9 c2 b0 b5 hR c3 b7 hg hI
  refine done 0 n B I1 a w U c2 b0 b5 (Z n U λi _ hi=>?_) hR c3 hg hI
  obtain⟨h0,o,ho,_⟩:=mem_ready.1 hi
  have c7:i<n.size:=by rw[U];exact(aM.1 ho).1
  have f9:false∈n.toList:=by
   have:n[i]? = some false:=by
    simp only[dh,aA c7,cw]at h0
    rw[aA c7,h0]
   exact dg.2 (eH this)
  have:=ek.2 f9
  omega
 | succ q ih=>
  intro n B I1 a w U c9 c2 b0 b5 hR c3 b7 hg hI
  by_cases F:∀j,j<kk->n.getD j false=true
  ·exact done (q+1) n B I1 a w U c2 b0 b5 F hR c3 hg hI
  refine⟨λhr=>absurd (Z n U λi _ hi=>by rw[hr]at hi;cases hi) F,λi hi=>?_⟩
  obtain⟨h0,o,ho,e7⟩:=mem_ready.1 hi
  have i3:i<ops.size:=(aM.1 ho).1
  have h5:i<kk:=by
   rcases cu i kk with h|h
   ·exact h
   ·exact absurd (λj hj=>Yc b9 c9 ho e7 (f3 i h i3 j hj)) F
  cases e0:sp i with
  | true=>exact h4 i q n B I1 a w e0 h5 U c9 c2 b0 b5 hR c3 hg hI hi
  | false=>
  have c8:i<n.size:=zO
  have b8:n.getD i false=false:=by rw[<- c1 n i c8];exact h0
  have i1:i<als.length:=zO
  have c4:=aa i1
  generalize als[i]=D at c4
  have N:Jf P m ops o=some D:=f8 i o D (by rw[bn];exact ho) c4
  obtain⟨δ,fp,he,g1,ht⟩:=e1.at' i D (g7 h5 e0 c4)
  obtain⟨hd1,S⟩:=XO N
  -- what no edge orders with it
  have H:∀k e,effs[k]? = some e->k≠i->(n.getD k false=decide (k<i))\/(∃y fk,e.1=y.dst/\fk.wo=e.2.wo/\fk.wt=e.2.wt/\((Apart y D/\Ind fk fp)\/(Apart D y/\Ind fp fk))):=by
   intro k e T h7
   have f1:k<kk:=by rw[<- g3];exact(ak.1 T).1
   have h8:k<als.length:=zO
   have hy:=aa h8
   generalize als[k]=y at hy
   cases e9:sp k with
   | true=>
    have:=g9 k f1 e9
    rw[T]at this
    cases this
    exact .inr ⟨jix,{},rfl,rfl,rfl,.inl ⟨jrb _,Ind.nil _⟩⟩
   | false=>
   obtain⟨f6,fk,O,g4,b6⟩:=e1.at' k y (g7 f1 e9 hy)
   rw[T]at O
   cases O
   rcases Nat.lt_or_gt_of_ne h7 with c7|hgt
   ·cases c5:((JF ops.toList []).getD i 0).testBit k with
    | true=>
     refine .inl ?_
     rw[decide_eq_true c7]
     exact Yc b9 c9 ho e7 c5
    | false=>exact .inr ⟨y,fk,rfl,b6.wo,b6.wt,.inl ⟨(c0 k i y D c7 hy c4 c5).1,d9 k i y D f6 fk δ fp c7 hy c4 c5 g4 g1 ⟨_,_,_,b6⟩ ⟨_,_,_,ht⟩⟩⟩
   ·cases c5:((JF ops.toList []).getD k 0).testBit i with
    | true=>
     refine .inl ?_
     rw[decide_eq_false zO]
     cases X:n.getD k false with
     | false=>rfl
     | true=>
      have:=jh5 b9 c9 k k i zK zO c5 X
      rw[b8]at this
      cases this
    | false=>exact .inr ⟨y,fk,rfl,b6.wo,b6.wt,.inr ⟨(c0 i k D y hgt c4 hy c5).1,d9 i k D y δ fp f6 fk hgt c4 hy c5 g1 g4 ⟨_,_,_,ht⟩ ⟨_,_,_,b6⟩⟩⟩
  have r:∀t∈D.looks,(jO (λi=>n.getD i false) effs st).tm t=(jO (λk=>decide (k<i)) effs st).tm t:=by
   intro t g8
   refine XF (π:=λs=>s.tm t) (wr:=wrT t) (g:=λe=>e.2.v) (jaw t) effs _ _ _ _ (λk e T z=>?_) rfl
   by_cases L:k=i
   ·subst L;rw[b8];simp
   ·rcases H k e T L with h|⟨y,fk,h1,_,_,h|h⟩
    ·exact h
    ·simp only[wrT,decide_eq_true_eq]at z
     exact absurd g8 (h.1.a t (h1▸z))
    ·simp only[wrT,decide_eq_true_eq]at z
     exact absurd g8 (h.1.c t (h1▸z))
  have i6:∀l∈fp.ro,(jO (λi=>n.getD i false) effs st).ob l=(jO (λk=>decide (k<i)) effs st).ob l:=by
   intro l hl
   refine XF (π:=λs=>s.ob l) (wr:=wrO l) (g:=λe=>JS (λ_=>none) e.2.obs l) (jdc l) effs _ _ _ _ (λk e T z=>?_) rfl
   by_cases L:k=i
   ·subst L;rw[b8];simp
   ·simp only[wrO,bE]at z
    rcases H k e T L with h|⟨y,fk,_,J,_,h|h⟩
    ·exact h
    ·exact absurd hl (h.2.oa l (J▸z))
    ·exact absurd (J▸z) (h.2.oc l hl)
  have i0:∀u∈fp.rt,(jO (λi=>n.getD i false) effs st).tk u=(jO (λk=>decide (k<i)) effs st).tk u:=by
   intro u hu
   refine XF (π:=λs=>s.tk u) (wr:=wrK u) (g:=λe=>e.2.add.contains u) (jgv u) effs _ _ _ _ (λk e T z=>?_) rfl
   by_cases L:k=i
   ·subst L;rw[b8];simp
   ·simp only[wrK,bE]at z
    rcases H k e T L with h|⟨y,fk,_,_,J,h|h⟩
    ·exact h
    ·exact absurd hu (h.2.ta u (J▸z))
    ·exact absurd (J▸z) (h.2.tc u hu)
  -- what is there when it has come about too
  have c6:∀k,k≠i->(n.setIfInBounds i true).getD k false=n.getD k false:=λk T=>getD_set_ne false (dV T)
  have e6:(n.setIfInBounds i true).getD i false=true:=by simp[c8]
  have K:∀k e,i<k->effs[k]? = some e->n.getD k false=true->∃y fk,e.1=y.dst/\fk.wo=e.2.wo/\fk.wt=e.2.wt/\((Apart y D/\Ind fk fp)\/(Apart D y/\Ind fp fk)):=by
   intro k e T O X
   rcases H k e O zO with h|h
   ·rw[X,decide_eq_false zO]at h;cases h
   ·exact h
  have d4:∀ {β:Type}{π:St->β}{wr:Eff->Bool}{g:Eff->β},(∀ (s:St) (e:Eff),π (s.app e.1 e.2)=if wr e then g e else π s) ->
   (∀k e,i<k->effs[k]? = some e->n.getD k false=true->wr (D.dst,δ)=true->wr e=false) ->
   π (jO (λk=>(n.setIfInBounds i true).getD k false) effs st)=π ((jO (λi=>n.getD i false) effs st).app D.dst δ):=by
   intro β π wr g d6 i4
   rw[jd8 d6 effs (λi=>n.getD i false) _ st i (D.dst,δ) he b8 e6 c6 (λk e' T O X z=>i4 k e' T O X z)]
   exact(d6 _ (D.dst,δ)).symm
  have a0:∀G I' a' w',R E w0 I0 nt G I' ((jO (λi=>n.getD i false) effs st).app D.dst δ) a' w'->(∀u,¬(ub+64*i<=u/\u<ub+64*i+64)->G u=B u) ->
   (∀u p,B u=some p->G u=some p)->(∀b o x,I1 b o=some x->I' b o=some x)->wpAnyIn (FW rn) 0 P .any ops Q q (n.setIfInBounds i true) a' w':=by
   intro G I' a' w' M d8 hm i9
   refine ih (n.setIfInBounds i true) G I' a' w' (by simpa using U) ?_ (λj hj=>by rw[c6 j zO];exact c2 j hj) (λj hj=>by rw[c6 j (λe=>by subst e;rw[e0]at hj;cases hj)];exact b0 j hj) ?_ (M.congr (funext λt=>d4 (π:=λs=>s.tm t) (wr:=wrT t) (g:=λe=>e.2.v) (jaw t) ?_) (funext λl=>d4 (π:=λs=>s.ob l) (wr:=wrO l) (g:=λe=>JS (λ_=>none) e.2.obs l) (jdc l) ?_) (funext λu=>d4 (π:=λs=>s.tk u) (wr:=wrK u) (g:=λe=>e.2.add.contains u) (jgv u) ?_) ((J6 effs _ st).2.2.1.trans (J6 effs _ st).2.2.1.symm) ((J6 effs _ st).2.2.2.trans (J6 effs _ st).2.2.2.symm)) ?_ ?_
    (λu p h=>hm u p (hg u p h)) (λb o x h=>i9 b o x (hI b o x h))
   ·intro j oj e4 g5 e' f4 hb
    by_cases d7:j=i
    ·subst d7
     rw[ho]at e4
     cases e4
     exact getD_set_true (e7 e' f4 hb)
    ·simp only[c6 j d7]at g5
     exact getD_set_true (c9 j oj e4 g5 e' f4 hb)
   ·have hg:n.toList[i]? = some false:=by
     rw[bn,aA c8]
     simp only[dh,aA c8,cw]at b8
     rw[b8]
    have g6:i<n.toList.length:=by simpa using c8
    rw[dU,eW g6]
    rw[aa g6]at hg
    simp only[ab]at hg
    rw[hg]
    simp only[beq_self_eq_true,if_true]
    have:(true == false)=false:=rfl
    rw[this]
    simp only[aj,if_false]
    omega
   ·intro k e T O X z
    obtain⟨y,fk,h1,_,_,h|h⟩:=K k e T O X
    ·simp only[wrT,decide_eq_true_eq]at z
     simp only[wrT,decide_eq_false_iff_not]
     intro e2
     exact h.1.b t (h1▸e2) z
    ·simp only[wrT,decide_eq_true_eq]at z
     simp only[wrT,decide_eq_false_iff_not]
     intro e2
     exact h.1.b t z (h1▸e2)
   ·intro k e T O X z
    obtain⟨y,fk,_,J,_,h⟩:=K k e T O X
    simp only[wrO,bE]at z
    have:l ∉ e.2.wo:=by
     rw[<- J]
     rcases h with h|h
     ·exact λhm=>h.2.ob l hm (by rw[ht.wo];exact z)
     ·exact h.2.ob l (by rw[ht.wo];exact z)
    simp only[wrO]
    simpa using this
   ·intro k e T O X z
    obtain⟨y,fk,_,_,J,h⟩:=K k e T O X
    simp only[wrK,bE]at z
    have:u ∉ e.2.wt:=by
     rw[<- J]
     rcases h with h|h
     ·exact λhm=>h.2.tb u hm (by rw[ht.wt];exact z)
     ·exact h.2.tb u (by rw[ht.wt];exact z)
    simp only[wrK]
    simpa using this
   ·intro u hu
    rw[d8 u zO]
    exact c3 u hu
   ·intro j hj u h1 J
    have d7:j≠i:=by
     intro e
     subst e
     simp[c8]at hj
    rw[getD_set_ne true (dV d7)]at hj
    rw[d8 u zO]
    exact b7 j hj u h1 J
  have d0:∀d,o.dst=some d->d<nt:=by rw[<- hd1];exact f2 D (aI c4)
  have i7:=J6 effs (λi=>n.getD i false) st
  have f0:=J6 effs (λk=>decide (k<i)) st
  unfold wpOpIn
  simp only[ho]
  rcases ht.run with⟨r1,r2,j0,r3,r4,r5,r6⟩|⟨r1,r2,r3⟩|⟨r1,f,xs,k1,r2,r3,r4⟩|⟨r1,f,xs,a1,rv,r2,r3,r5,r6,r4⟩|⟨r1,f,xs,r2,r3,r4⟩
  ·have z:wanted D (jO (λi=>n.getD i false) effs st).tm=some true:=by rw[X0 r];exact r1
   rw[if_pos (Xx hR N z)]
   have S:Jk P m o=some D.op:=S.resolve_right λh=>by
    rw[h]at r3
    cases r3
   have hr:=rd_eq D.op (Xk (E:=E) r)
   have i8:aop call.d (eval E (jO (λi=>n.getD i false) effs st).tm) (jO (λi=>n.getD i false) effs st).ob (jO (λi=>n.getD i false) effs st).tk (jO (λi=>n.getD i false) effs st).ro (D.name st.fb (ub+64*i)) (ub+64*i) D.op=some δ:=by
    rw[jgg D.op j0 (Xk (E:=E) r) (λl hl=>i6 l (by rw[r4,<- hr.1];exact hl)) (λu hu=>i0 u (by rw[r5,<- hr.2];exact hu)),i7.2.2.1,<- f0.2.2.1]
    exact r3
   refine jji d5 hR (λu h1 J=>b7 i h0 u h1 J) S d0 i8 (λG I' a' w' M h1 J h3=>?_)
   rw[<- hd1]at M
   exact a0 G I' a' w' M h1 J h3
  ·have z:wanted D (jO (λi=>n.getD i false) effs st).tm=some false:=by rw[X0 r];exact r1
   rw[if_neg (by rw[Xx hR N z];exact Bool.false_ne_true)]
   refine⟨λ_ _=>trivial,?_⟩
   have:=jtr hR d0
   rw[<- hd1]
   refine a0 B I1 _ _ ?_ (λ_ _=>rfl) (λ_ _ h=>h) (λ_ _ _ h=>h)
   rw[r2]
   rw[<- hd1]at this
   exact this
  ·have z:wanted D (jO (λi=>n.getD i false) effs st).tm=some true:=by rw[X0 r];exact r1
   rw[if_pos (Xx hR N z)]
   have S:Jk P m o=some D.op:=S.resolve_right λh=>by
    rw[h]at r2
    cases r2
   have F:fp.all=true:=by rw[r4]
   have d1:∀l x,(jO (λk=>decide (k<i)) effs st).ob l=some x->(jO (λi=>n.getD i false) effs st).ob l=some x:=by
    intro l x hl
    rw[<- hl]
    refine(XF (π:=λs=>s.ob l) (wr:=wrO l) (g:=λe=>JS (λ_=>none) e.2.obs l) (jdc l) effs _ _ _ _ (λk e T z=>?_) rfl)
    by_cases L:k=i
    ·subst L;rw[b8];simp
    ·simp only[wrO,bE]at z
     rcases H k e T L with h|⟨y,fk,_,J,_,h|h⟩
     ·exact h
     ·rw[<- J,h.2.ar F]at z;cases z
     ·have:=h.2.al F l (by rw[J];exact z)
      rw[r4]at this
      simp only[hl,Option.isSome_some,ep]at this
   refine j14 d5 hR (ub:=ub+64*i) (uo:=ub+64*al'.length) (λu h1 J=>b7 i h0 u h1 J) S d0 (by rw[Yr D.op (Xk (E:=E) r)];exact r2) d1 (by rw[h6];exact c3) r3 (λG I' a' w' M h1 J h3=>?_)
   rw[<- hd1]at M
   exact a0 G I' a' w' M h1 J h3
  ·have z:wanted D (jO (λi=>n.getD i false) effs st).tm=some true:=by rw[X0 r];exact r1
   rw[if_pos (Xx hR N z)]
   have S:Jk P m o=some D.op:=S.resolve_right λh=>by
    rw[h]at r2
    cases r2
   have F:fp.all=true:=by rw[r4]
   have d1:∀l x,(jO (λk=>decide (k<i)) effs st).ob l=some x->(jO (λi=>n.getD i false) effs st).ob l=some x:=by
    intro l x hl
    rw[<- hl]
    refine(XF (π:=λs=>s.ob l) (wr:=wrO l) (g:=λe=>JS (λ_=>none) e.2.obs l) (jdc l) effs _ _ _ _ (λk e T z=>?_) rfl)
    by_cases L:k=i
    ·subst L;rw[b8];simp
    ·simp only[wrO,bE]at z
     rcases H k e T L with h|⟨y,fk,_,J,_,h|h⟩
     ·exact h
     ·rw[<- J,h.2.ar F]at z;cases z
     ·have:=h.2.al F l (by rw[J];exact z)
      rw[r4]at this
      simp only[hl,Option.isSome_some,ep]at this
   refine j8k d5 hR (ub:=ub+64*i) (λu h1 J=>b7 i h0 u h1 J) S d0 (by rw[Yr D.op (Xk (E:=E) r)];exact r2) d1 r3 r5 r6 (λG I' a' w' M h1 J h3=>?_)
   rw[<- hd1]at M
   exact a0 G I' a' w' M h1 J h3
  ·have z:wanted D (jO (λi=>n.getD i false) effs st).tm=some true:=by rw[X0 r];exact r1
   rw[if_pos (Xx hR N z)]
   have S:Jk P m o=some D.op:=S.resolve_right λh=>by
    rw[h]at r2
    cases r2
   refine mk_ok d5 hR (ub:=ub+64*i) (λu h1 J=>b7 i h0 u h1 J) S d0 (by rw[Yr D.op (Xk (E:=E) r)];exact r2) r3 (λG I' a' w' M h1 J h3=>?_)
   rw[<- hd1]at M
   exact a0 G I' a' w' M h1 J h3
theorem any_ok {m:Bool}{rn:Option Nat}{γ0:Nat->Option Place}{Iy:IMap}{Q:Exit->Act->World->Prop}(M:COk P E γ0 Iy call) (n:ops.toList.mapM (Jf P m ops)=some als) (s:Y7 ops als=some free)
 (T:Trace E call st ub als effs fps) (X:X5 free fps=true) (S:jah fps=true) (y:∀ao∈als,∀d,ao.dst=some d->d<nt)
 (hK:∀k H G D,R E w0 I0 nt k H (jO (λ_=>true) effs st) G D->(∀u,ub+64*als.length<=u->k u=none)->(∀u p,γ u=some p->k u=some p) ->
  (∀b o x,I b o=some x->H b o=some x)->Q .normal G D) :
 ∀ (e:Nat) (c:Array Bool) (f:Nat->Option Place) (F:IMap) (a:Act) (w:World),c.size=ops.size->jdp ops (λi=>c.getD i false)->c.toList.count false<=e ->
  R E w0 I0 nt f F (jO (λi=>c.getD i false) effs st) a w->(∀u,ub+64*als.length<=u->f u=none) ->
  (∀j,c.getD j true=false->∀u,ub+64*j<=u->u<ub+64*j+64->f u=none)->(∀u p,γ u=some p->f u=some p)->(∀b o x,I b o=some x->F b o=some x) ->
  wpAnyIn (FW rn) 0 P .any ops Q e c a w:=by
 obtain⟨q,a0⟩:=jy n;have q:als.length=ops.size:=by rw[q,aL]
 have g:∀ (c:Array Bool) (i:Nat),i<c.size->c.getD i true=c.getD i false:=by intro c i t;simp[t]
 intro e c f F a w B Z l hR K z hg hI;refine jgh (bb:=false) (kk:=als.length) (al':=als) (sp:=λ_=>false) zK rfl (λ_ _ _ _ h=>h) (λ_ _ h=>by cases h) (λj h1 h2=>by omega) M n s T X S y (λ_ _ _ _ _ _ _ h=>by cases h) (λk H G D e c B hm _ l O N L U=>?_) e c f F a w B Z
  (λj hj=>by simp[show ¬ j<c.size by omega]) (λ_ h=>by cases h) l hR K z hg hI
 have J:Region.ready .any ops c=[]:=by
  cases J:Region.ready .any ops c with
  | nil=>rfl
  | cons i r=>
   have t:i∈Region.ready .any ops c:=by rw[J];exact aP ..
   obtain⟨h0,o,ho,_⟩:=mem_ready.1 t;have b0:i<ops.size:=(aM.1 ho).1;rw[g c i zO,hm i,decide_eq_true zO]at h0;cases h0
 have hQ:=hK k H G D O N L U;cases e with
 | zero=>exact⟨J,hQ⟩
 | succ e=>exact⟨λ_=>hQ,λi t=>by rw[J]at t;cases t⟩
theorem jka {m:Bool}{rn:Option Nat}{γ0:Nat->Option Place}{Iy:IMap}{Q:Exit->Act->World->Prop}{kk:Nat}
 (Z:∀j,kk<=j->j<ops.size->∀i,i<j->((JF ops.toList []).getD j 0).testBit i=true)
 (c7:COk P E γ0 Iy call) (T:ops.toList.mapM (Jf P m ops)=some als) (L:Y7 ops als=some free) (U:∀X∈als,∀d,X.dst=some d->d<nt) :
 ∀ (n j:Nat),kk<=j->j+n=ops.size->∀ (c:Nat) (b:Array Bool) (γ:Nat->Option Place) (I:IMap) (st:St) (a:Act) (w:World) (ub:Nat) (F:List St),b.size=ops.size->(∀i,b.getD i false=decide (i<j)) ->
  b.toList.count false<=c->SubG γ0 γ->SubI Iy I->R E w0 I0 nt γ I st a w->(∀u,ub<=u->γ u=none)->jiu E call (als.drop j) st ub=some F ->
  (∀y∈F,Nice E w0 I0 nt γ I y y.nx (λa w=>Q .normal a w))->wpAnyIn (FW rn) 0 P .any ops Q c b a w:=by
 obtain⟨s,c4⟩:=jy T;have s:als.length=ops.size:=by rw[s,aL]
 obtain⟨g,c6⟩:=Xv L s;have f:∀ (b:Array Bool) (i:Nat),i<b.size->b.getD i true=b.getD i false:=by intro b i B;simp[B]
 intro n;induction n with
 | zero=>
  intro j hj d0 c b γ I st a w ub F a0 G S K M hR hf H hK;have k:als.drop j=[]:=bS zO;rw[k]at H;simp only[jiu,ab]at H;subst H;have O:Region.ready .any ops b=[]:=by
   cases O:Region.ready .any ops b with
   | nil=>rfl
   | cons i r=>
    have B:i∈Region.ready .any ops b:=by rw[O];exact aP ..
    obtain⟨h0,o,z,_⟩:=mem_ready.1 B;have b8:i<ops.size:=(aM.1 z).1;rw[f b i zO,G i,decide_eq_true zO]at h0;cases h0
  have hQ:Q .normal a w:=hK _ (ae.2 rfl) γ I a w (hR.congr rfl rfl rfl rfl rfl) hf (λ_ _ h=>h) (λ_ _ _ h=>h);cases c with
  | zero=>exact⟨O,hQ⟩
  | succ c=>exact⟨λ_=>hQ,λi B=>by rw[O]at B;cases B⟩
 | succ n ih=>
  intro j hj d0 c b γ I st a w ub F a0 G S K M hR hf H hK;have N:j<ops.size:=zO;have J:j<als.length:=zO;have q:j<b.size:=zO;have d4:jdp ops (λi=>b.getD i false):=by intro i o z hd e he hb;simp only[G,decide_eq_true_eq]at hd ⊢;have:=g i o z e he hb;omega
  have b0:∀i,i∈Region.ready .any ops b->i=j:=by
   intro i B;obtain⟨h0,o,z,d2⟩:=mem_ready.1 B;have b8:i<ops.size:=(aM.1 z).1;rw[f b i zO,G i]at h0;have h1:j<=i:=by simpa using h0
   rcases fY h1 with h|h;have:=Yc (D:=λi=>b.getD i false) g d4 z d2 (Z i zO b8 j h);simp only[G,decide_eq_true_eq]at this;omega;exact h.symm
  have d3:j∈Region.ready .any ops b:=mem_ready.2 ⟨by rw[f b j q,G j];simp,ops[j],aA N,λe he hb=>by
   have:=g j _ (aA N) e he hb;rw[G e.on];exact decide_eq_true this⟩
  have k:als.drop j=als[j]::als.drop (j+1):=aW J;have c2:=aa J;have p:=av J;rw[k]at H;generalize als[j]=X at H c2 p;have z:=aA N;generalize ops[j]=o at z;have t:Jf P m ops o=some X:=c4 j o X (by rw[bn];exact z) c2;have c5:b[j]? = some false:=by have h1:=G j;rw[aA q];simp only[dh,aA q,cw]at h1;rw[h1];simp
  cases c with
  | zero=>have p:false∈b.toList:=dg.2 (eH c5);have:=ek.2 p;omega
  | succ c=>
  refine⟨(λO=>absurd (O▸d3) dc),λi B=>?_⟩;rw[b0 i B];unfold wpOpIn;simp only[z];simp only[jiu]at H;obtain⟨l,hl,c3⟩:=Jh H;refine jid c7 K M hR hf t (by rw[<- (XO t).1];exact U X p) hl (λx hx=>?_);obtain⟨rx,d1,b7⟩:=c3 x hx;intro d5 I' a' w' c9 c8 c1 b5;refine ih (j+1) zO zO c (b.setIfInBounds j true) d5 I' x.1 a' w' x.2 rx (by simpa using a0) (λi=>?_) ?_ (K.trans c1) (M.trans b5) c9 c8 d1 (λy b6=>(hK y (b7 y b6)).weaken c1 b5);by_cases c0:i=j;subst c0;simp[q];rw[getD_set_ne false (dV c0),G i];exact decide_eq_decide.2 ⟨λh=>by omega,λh=>by omega⟩;have hg:b.toList[j]? = some false:=by rw[bn];exact c5
  have b9:j<b.toList.length:=by simpa using q
  rw[dU,eW b9];rw[aa b9]at hg;simp only[ab]at hg;rw[hg];simp only[beq_self_eq_true,if_true];have:(true == false)=false:=rfl;rw[this];simp only[aj,if_false];omega
end
def le {α:Type}(x y:Option α):Prop:=∀a,x=some a->y=some a
theorem le.bind {e i:Type}{x y:Option e}{f g:e->Option i}(h:le x y) (j:∀a,le (f a) (g a)):le (x.bind f) (y.bind g):=by
 intro b c;cases d:x with
 | none=>simp[d]at c
 | some a=>rw[h a d];rw[d]at c;exact j a b c
theorem le.map {e g:Type}{x y:Option e}{f:e->g}(h:le x y):le (x.map f) (y.map f):=by
 intro b c;cases d:x with
 | none=>simp[d]at c
 | some a=>rw[h a d];rw[d]at c;exact c
theorem le.rfl' {a:Type}(x:Option a):le x x:=λ_ h=>h
theorem jh8 {c b:FuncId->List V->Option V}(h:∀f a,le (c f a) (b f a)) (ub f xs):le (jcz c ub f xs) (jcz b ub f xs):=by unfold jcz;split;exact(h f xs).bind λ_=>le.rfl' _;exact le.rfl' _
theorem jb4 {call c:FuncId->List V->Option V}(h:∀f a,le (call f a) (c f a)) (ρ ob tk ro d ub) (o:AOp):le (aop call ρ ob tk ro d ub o) (aop c ρ ob tk ro d ub o):=by
 cases o <;> try exact le.rfl' _
 case call f xs=>exact jh8 h _ _ _
 case callV f xs=>simp only[aop];split;exact jh8 h _ _ _;exact le.rfl' _
 case range b x=>cases b <;> exact le.rfl' _
def YLe (y y':Y):Prop:=∀l u a ob tk ro ub,le (y l u a ob tk ro ub) (y' l u a ob tk ro ub)
structure CLe (c c':Callers):Prop where
 d:∀f a,le (c.d f a) (c'.d f a)
 o:∀f a ob tk b u,le (c.o f a ob tk b u) (c'.o f a ob tk b u)
 s:∀f a ob tk ro b u,le (c.s f a ob tk ro b u) (c'.s f a ob tk ro b u)
 y:YLe c.y c'.y
def FLe (c c':Y->Callers):Prop:=∀y y',YLe y y'->CLe (c y) (c' y')
theorem ja0 {E:Env}{b a:Callers}(h:CLe b a) (o st ub):le (step E b o st ub) (step E a o st ub):=by unfold step;split;split;exact(h.y _ _ _ _ _ _ _).map;split;split;exact(h.s _ _ _ _ _ _ _).map;exact((h.o _ _ _ _ _ _).bind λ_=>le.rfl' _).map;split;exact le.rfl' _;exact(jb4 h.d _ _ _ _ _ _ _).map;exact le.rfl' _;exact le.rfl' _
theorem jaq {c b:Type}{f g:c->Option (List b)}(h:∀a,le (f a) (g a)):∀l,le (Qy f l) (Qy g l)
 | []=>le.rfl' _
 | [x]=>h x
 | x::y::r=>(h x).bind λ_=>(jaq h (y::r)).map
theorem Qh {b c:Type}{x y:Option (List b)}{f g:b->Option (List c)}(d:le x y) (h:∀a,le (f a) (g a)):le (bindL x f) (bindL y g) :=
 d.bind λl=>jaq h l
theorem jfe {E:Env}{b a:Callers}(h:CLe b a):∀c e d,le (jiu E b c e d) (jiu E a c e d)
 | [],_,_=>le.rfl' _
 | o::rest,e,d=>Qh (ja0 h o e d) λx=>jfe h rest x.1 x.2
theorem Je {E:Env}{b a:Callers}(h:CLe b a):∀c g f,le (YI E b c g f) (YI E a c g f)
 | [],_,_=>le.rfl' _
 | o::rest,g,f=>by unfold YI;split;split;split;split;exact(((le.rfl' _).bind λi=>h.d _ i).bind λ_=>le.rfl' _).bind λe=>(Je h rest _ _).map;exact(le.rfl' _).bind λe=>(Je h rest _ _).map;exact((h.o _ _ _ _ _ _).bind λ_=>le.rfl' _).bind λe=>(Je h rest _ _).map;split;exact le.rfl' _;exact(jb4 h.d _ _ _ _ _ _ _).bind λe=>(Je h rest _ _).map;exact(Je h rest _ _).map;exact le.rfl' _
theorem Qa {b d:St->j6z}(h:∀a,le (b a) (d a)):∀n m,n<=m->∀a,le (jbl b n a) (jbl d m a)
 | 0,_,_,_=>λ_ h=>by simp[jbl]at h
 | n+1,0,hm,_=>by omega
 | n+1,m+1,hm,a=>by simp only[jbl];refine Qh (h a) λx=>?_;obtain⟨e,c⟩:=x;cases e;exact Qa h n m zO c;exact le.rfl' _;exact le.rfl' _
theorem je2 {h fb c b:St->j6z}(m:∀st,le (h st) (c st)) (j:∀st,le (fb st) (b st)) (st:St) (ps:List Nat) (l u:Nat):YLe (Qr h fb st ps l u) (Qr c b st ps l u):=by
 intro z y g ob x s w r a;unfold Qr at a ⊢;split at a;case isFalse=>cases a
 rename_i o;rw[if_pos o];split at a;case h_2=>cases a
 rename_i G q;split at a;case isFalse=>cases a
 rename_i i;simp only[i,if_true];split at a;case h_2=>cases a
 rename_i t n;have d:=m _ _ n;simp only[d];split at a;case h_2=>cases a
 rename_i B F;split at a;case isFalse=>cases a
 rename_i k;simp only[k,if_true];split at a;case h_2=>cases a
 rename_i e D p;have f:=j _ _ p;simp only[f];exact a
theorem jt8 {b:Type}{x y:Option (List b)}(h:le x y):le (only x) (only y):=by
 intro r a;cases x with
 | none=>cases a
 | some l=>rw[h l rfl];exact a
theorem jj {E:Env}{k i:Y->Callers}{n m:Nat}(h:FLe k i) (j:n<=m):∀c y d,YLe y d->∀g,le (je E k y n c g) (je E i d m c g)
 | .skip,_,_,_,_=>le.rfl' _
 | .region ops,y,d,hy,g=>by simp only[je];exact(jfe (h y d hy) ops g g.nx).map
 | .draw ops _,y,d,hy,g=>by simp only[je];exact(Je (h y d hy) ops g g.nx).bind λ_=>le.rfl' _
 | .pin o fs,y,d,hy,g=>by simp only[je];exact Qh (ja0 (h y d hy) o g g.nx) λx=>(Je (h y d hy) fs x.1 x.2).bind λ_=>le.rfl' _
 | .seq a b,y,d,hy,g=>by simp only[je];refine Qh (jj h j a y d hy g) λx=>?_;obtain⟨e,l⟩:=x;cases e;exact jj h j b y d hy l;exact le.rfl' _;exact le.rfl' _
 | .cond c a b,y,d,hy,g=>by simp only[je];split;exact jj h j a y d hy g;exact jj h j b y d hy g;exact le.rfl' _
 | .block id a,y,d,hy,g=>by simp only[je];exact(jj h j a y d hy g).map
 | .loop a,y,d,hy,g=>by simp only[je];exact Qa (jj h j a y d hy) n m j g
 | .rangeFunc f ps a b,y,d,hy,g=>by simp only[je];split;exact(jt8 ((h _ _ (je2 (jj h j a y d hy) (jj h j b y d hy) _ _ _ _)).s _ _ _ _ _ _ _)).bind λ_=>le.rfl' _;exact le.rfl' _
 | .exit _,_,_,_,_=>le.rfl' _
 | .stuck,_,_,_,_=>le.rfl' _
 | .ret,_,_,_,_=>le.rfl' _
theorem jkr {f:Ex × St->Option V}{x y:Option (List (Ex × St))}(h:le x y):le (j12 f x) (j12 f y):=by
 intro r a;cases x with
 | none=>cases a
 | some l=>rw[h l rfl];exact a
theorem YLe.refl (y:Y):YLe y y:=λ_ _ _ _ _ _ _=>le.rfl' _
theorem Jl {E:Env}:∀n m,n<=m->FLe (callers E n) (callers E m)
 | 0,0,_=>λy k c=>⟨λ_ _ _ h=>(by cases h),λ_ _ _ _ _ _ _ h=>(by cases h),λ_ _ _ _ _ _ _ _ h=>(by cases h),c⟩
 | 0,_+1,_=>λy k c=>⟨λ_ _ _ h=>(by cases h),λ_ _ _ _ _ _ _ h=>(by cases h),λ_ _ _ _ _ _ _ _ h=>(by cases h),c⟩
 | n+1,0,h=>by omega
 | n+1,m+1,h=>by
  intro y k c;have i:=jj (E:=E) (Jl (E:=E) n m zO) (show n<=m by omega);refine⟨λf a=>?_,λf a ob o b u=>?_,λf a ob o p b u=>?_,c⟩;simp only[callers];exact(le.rfl' (E.fc f)).bind λj=>jkr (i _ _ _ (YLe.refl _) _);simp only[callers];by_cases e:E.fz f;simp only[e,if_true];refine(le.rfl' _).bind λg=>?_;exact((Jl (E:=E) n m zO _ _ (YLe.refl _)).d f g).bind λr=>le.rfl' _;simp only[e,aj,if_false];exact(le.rfl' (E.fs f)).bind λj=>jkr (i _ _ _ (YLe.refl _) _);simp only[callers];by_cases e:E.tw f;simp only[e,if_true];refine(le.rfl' _).bind λg=>?_;exact((Jl (E:=E) n m zO _ _ (YLe.refl _)).d f g).bind λr=>le.rfl' _;simp only[e,aj,if_false];cases q:E.srt f with
  | some m=>exact le.rfl' _
  | none=>
  exact(le.rfl' (E.fs f)).bind λj=>(i _ _ _ c _).bind λl=>le.rfl' _
mutual
theorem QN:∀a b:V,V.eqb a b=true->a=b:=by
 intro a b h;cases a <;> cases b <;> simp only[V.eqb,ai,decide_eq_true_eq,beq_iff_eq,aj]at h;case sl.sl t nl n cs t' nl' n' cs'=>obtain⟨⟨⟨rfl,rfl⟩,rfl⟩,h⟩:=h;rw[Xq cs cs' h]
 case agg.agg cs cs'=>rw[Xq cs cs' h]
 case tup.tup cs cs'=>rw[Xq cs cs' h]
 case eptr.eptr cs o cs' o'=>obtain⟨h,rfl⟩:=h;rw[Xq cs cs' h]
 case fn.fn f a b f' a' b'=>obtain⟨⟨rfl,h⟩,c⟩:=h;rw[Xq a a' h,Xq b b' c]
 case iface.iface t v t' v'=>obtain⟨rfl,h⟩:=h;rw[QN v v' h]
 all_goals simp_all
theorem Xq:∀a b:List V,V.eqbs a b=true->a=b:=by intro a b h;cases a <;> cases b <;> simp only[V.eqbs,ai,aj]at h;rfl;case cons.cons x l y m=>rw[QN x y h.1,Xq l m h.2]
end
mutual
theorem jeb:∀a:V,V.eqb a a=true:=by
 intro a;cases a <;> simp only[V.eqb,ai,decide_true,beq_self_eq_true,and_self,true_and,and_true];case sl t nl n cs=>exact Yk cs
 case agg cs=>exact Yk cs
 case tup cs=>exact Yk cs
 case eptr cs o=>exact Yk cs
 case fn f a b=>exact⟨Yk a,Yk b⟩
 case iface t v=>exact jeb v
theorem Yk:∀a:List V,V.eqbs a a=true:=by intro a;cases a <;> simp only[V.eqbs,ai];case cons x l=>exact⟨jeb x,Yk l⟩
end
theorem jkq {f:Ex × St->Option V}{x:Option (List (Ex × St))}{r:V}(h:j12 f x=some r):∃l,x=some l/\∀y∈l,f y=some r:=by
 cases x with
 | none=>cases h
 | some l=>
  cases l with
  | nil=>cases h
  | cons y i=>refine⟨_,rfl,?_⟩;simp only[j12,dH,aC,ab]at h;obtain⟨g,d,c,rfl⟩:=h;intro z b;rcases br.1 b with rfl|b;exact d;have:=aw.1 c z b;split at this;rename_i e a;rw[a,QN _ _ this];cases this
theorem jiw {f:Ex × St->Option V}{l:List (Ex × St)}{r:V}(a:l≠[]) (h:∀y∈l,f y=some r):j12 f (some l)=some r:=by
 cases l with
 | nil=>exact absurd rfl a
 | cons y c=>simp only[j12,h y (aP ..),am,aC,aw,and_true];intro z b;rw[h z (bf _ b)];exact jeb r
def Ev (E:Env) (f:FuncId) (args:List V) (r:V):Prop:=∃n,(callers E n noY).d f args=some r
def W (E:Env) (c:C) (st:St) (Q:Ex->St->Prop):Prop:=∃n l,je E (callers E n) noY n c st=some l/\l≠[]/\∀x∈l,Q x.1 x.2
theorem Ev_of {E:Env}{f:FuncId}{af:AF}{args:List V}{r:V}(a:E.fc f=some af) (h:W E af.body (start args) λe s=>jas af.res (e,s)=some r):Ev E f args r:=by obtain⟨n,l,c,b,d⟩:=h;exact⟨n+1,by simp only[callers,a,am,c,jiw b d]⟩
theorem jjz {o:AOp}(h:o.still=true):o.wO=false/\o.wT=false/\o.isCall=false/\o.far=false:=by cases o <;> first|(cases h;done)|exact⟨rfl,rfl,rfl,rfl⟩
theorem Q5 {E:Env}{nm:Bool}{b:A->V}{o:AOp}(h:o.still=true):jB E nm b o=none:=by cases o <;> first|(cases h;done)|rfl
theorem jaz {E:Env}{call:Callers}{fb ub ue:Nat}{s:St}{ao:AOpr}{δ:Delta}{k:FP}(h:TrAt E call fb ub ue s ao δ k) (e:ao.op.still=true) :
 (wanted ao s.tm=some true/\aop call.d (eval E s.tm) s.ob s.tk s.ro (ao.name fb ub) ub ao.op=some δ\/wanted ao s.tm=some false/\δ = { v:=ju })/\δ.wo=[]/\δ.wt=[]:=by
 obtain⟨l,j,_,_⟩:=jjz e;rcases h.run with⟨c,_,_,g,_⟩|⟨c,rfl,_⟩|⟨_,f,i,b,c,_⟩|⟨_,f,i,m,n,c,_⟩|⟨_,f,i,c,_⟩;exact⟨.inl ⟨c,g⟩,j1n _ l δ g,j1m _ j δ g⟩;exact⟨.inr ⟨c,rfl⟩,rfl,rfl⟩;rw[Q5 e]at c;cases c;rw[Q5 e]at c;cases c;rw[Q5 e]at c;cases c
theorem j6p {s:St}{d:Option Nat}{δ:Delta}(b:δ.wo=[]) (e:δ.wt=[]):(s.app d δ).ob=s.ob/\(s.app d δ).tk=s.tk:=by
 obtain⟨v,f,c,add,i⟩:=δ;unfold Delta.wo at b;unfold Delta.wt at e;rw[fI]at b e;have k:f=[]:=fU.1 b.2;obtain⟨h,-⟩:=b;obtain⟨j,g⟩:=e;simp only at h g;subst k h g;cases c with
 | none=>exact⟨rfl,rfl⟩
 | some x=>cases j
theorem Xu:∀ (l:List Eff) (s:St),jO (λ_=>false) l s=s
 | [],_=>rfl
 | _::l,s=>by simp only[jO,aj,if_false];exact Xu l s
theorem jpl {b:List Eff}{st:St}{i d:Nat}{e:Eff}(h:b[i]? = some e) (m:e.1=some d) (c:∀k f,b[k]? = some f->k≠i->f.1≠some d):(jO (λ_=>true) b st).tm d=e.2.v:=by
 rw[jd8 (π:=λs=>s.tm d) (wr:=wrT d) (g:=λe=>e.2.v) (jaw d) b (λk=>decide (k≠i)) (λ_=>true) st i e h zS rfl (λk l=>by simp[l])
  (λk f l j _ _=>by simp only[wrT,decide_eq_false_iff_not];exact c k f j zO)]
 simp[wrT,m]
theorem jlx {ops:Array Oper}{kk:Nat}(p:kk<=ops.size) (c:∀j o,ops[j]? = some o->∀e∈o.after,Region.binds .any e=true->e.on<j) {b:Array Bool}(n:b.size=ops.size)
 (l:∀i,i<kk->i ∉ Region.ready .any ops b):∀j,j<kk->b.getD j false=true:=by
 intro j;induction j using Nat.strongRecOn with
 | _ j k=>
  intro g;cases f:b.getD j false with
  | true=>rfl
  | false=>
   have d:j<b.size:=zO;have:j∈Region.ready .any ops b:=mem_ready.2 ⟨by simpa[d] using f,ops[j],aA zO,λe h m=>by
    have:=c j _ (aA zO) e h m;exact k e.on this zO⟩
   exact absurd this (l j g)
theorem Xa {tm:Nat->V}{d:Option Nat}{v:V}{t:Nat}(h:d≠some t):put tm d v t=tm t:=by
 cases d with
 | none=>rfl
 | some d=>exact JG _ _ (λe=>h (by rw[e]))
theorem We {tm:Nat->V}{v:V}{t:Nat}:put tm (some t) v t=v:=Yq _ _ _
theorem count_set {b:Array Bool}{i:Nat}(hi:i<b.size) (h:b.getD i false=false):(b.setIfInBounds i true).toList.count false=b.toList.count false - 1/\0<b.toList.count false:=by
 have e:b.toList[i]? = some false:=by rw[bn,aA hi];simp only[dh,aA hi,cw]at h;rw[h]
 have d:i<b.toList.length:=by simpa using hi
 have c:=aI e;refine⟨?_,ek.2 c⟩;rw[dU,eW d];rw[aa d]at e;simp only[ab]at e;rw[e];simp
theorem jsz {E:Env}{call:Callers}{s s':St}{ao:AOpr}{ub:Nat}{l:List (St × Nat)}(m:ao.op.isCall=true) (k:∀t∈ao.looks,s'.tm t=s.tm t) (g:s'.ob=s.ob) (o:s'.tk=s.tk) (u:s'.ro=s.ro) (n:s'.fb=s.fb)
 (h:step E call ao s ub=some l) :
 ∃D,step E call ao s' ub=some D/\∀B∈D,∃x∈l,∃v ob tk,B.2=x.2/\x.1 = { s with tm:=put s.tm ao.dst v,ob:=ob,tk:=tk }/\B.1 = { s' with tm:=put s'.tm ao.dst v,ob:=ob,tk:=tk }:=by
 have c:=Xk (E:=E) k;have G:=X0 k;have H:ao.op.next? = none:=by cases g:ao.op <;> rw[g]at m <;> first|rfl|cases m
 have j:ao.op.far=false:=by cases g:ao.op <;> rw[g]at m <;> first|rfl|cases m
 have p:jk (eval E s'.tm) ao.op=jk (eval E s.tm) ao.op:=by
  cases g:ao.op <;> try rfl
  rename_i f K;rw[g]at c;simp only[AOp.opds,br,forall_eq_or_imp]at c;simp only[jk];rw[c.1,XA (λy p=>c.2 y p)]
 have J:∀d ub,aop call.d (eval E s'.tm) s.ob s.tk s.ro d ub ao.op=aop call.d (eval E s.tm) s.ob s.tk s.ro d ub ao.op:=λd ub=>jgg ao.op j c (λ_ _=>rfl) (λ_ _=>rfl);unfold step at h ⊢;rw[G,p,Yr ao.op c,g,o,u,n];simp only[H,J]at h ⊢;split at h;split at h;obtain⟨r,b,rfl⟩:=map_some h;rw[b];exact⟨_,rfl,λx e=>by rw[ae]at e;subst e;exact⟨_,ae.2 rfl,r.1,r.2.1,r.2.2.1,rfl,rfl,rfl⟩⟩;split at h;split at h;rename_i i;obtain⟨r,b,rfl⟩:=map_some h;rw[if_pos i,b];refine⟨_,rfl,λx e=>?_⟩;obtain⟨q,F,rfl⟩:=aJ.1 e;exact⟨_,aJ.2 ⟨q,F,rfl⟩,q.1,q.2.1,q.2.2.1,rfl,rfl,rfl⟩;rename_i i;obtain⟨z,b,rfl⟩:=map_some h;rw[if_neg i,b];refine⟨_,rfl,λx e=>?_⟩;rw[ae]at e;subst e;refine⟨_,ae.2 rfl,z.v,_,_,rfl,rfl,?_⟩;simp only[St.app,g,o,u,n];obtain⟨z,b,rfl⟩:=map_some h;rw[b];refine⟨_,rfl,λx e=>?_⟩;rw[ae]at e;subst e;refine⟨_,ae.2 rfl,z.v,_,_,rfl,rfl,?_⟩;simp only[St.app,g,o,u,n];cases h;exact⟨_,rfl,λx e=>by rw[ae]at e;subst e;exact⟨_,ae.2 rfl,ju,s.ob,s.tk,rfl,rfl,rfl⟩⟩;cases h
section
variable {P:Program}{E:Env}{w0 w:World}{I0:IMap}{nt:Nat}{γ:Nat->Option Place}{I:IMap}{st:St}{a:Act}{ub:Nat}{call:Callers}{ops:Array Oper}{als:List AOpr}{fps:List FP}{free:List (Nat × Nat)}
theorem j8j {m:Bool}{rn:Option Nat}{γ0:Nat->Option Place}{Iy:IMap}{Q:Exit->Act->World->Prop}{kk c:Nat}{Z:AOpr}{S:St}{l:List (St × Nat)}(p3:kk<=als.length)
 (e8:∀j,kk<=j->j<ops.size->∀i,i<j->((JF ops.toList []).getD j 0).testBit i=true) (f8:jyr ops als kk c=true) (i0:als[c]? = some Z)
 (g4:COk P E γ0 Iy call) (l4:SubG γ0 γ) (l8:SubI Iy I) (f7:ops.toList.mapM (Jf P m ops)=some als) (c5:Y7 ops als=some free) (c9:∀ao∈als,∀d,ao.dst=some d->d<nt)
 (hd:YI E call ((als.take kk).set c jix) st ub=some (fps,S)) (n4:X5 free fps=true) (n2:jah fps=true) (hl:step E call Z S S.nx=some l)
 (hx:∀x∈l,∃p g8,YI E call ((als.take kk).drop (c+1)) x.1 x.2=some p/\jds ((als.take kk).drop (c+1)) S p.2=true/\jiu E call (als.drop kk) p.2 p.2.nx=some g8/\∀h6∈g8,Nice E w0 I0 nt γ I h6 h6.nx (λa w=>Q .normal a w))
 (hR:R E w0 I0 nt γ I st a w) (hf:∀u,ub<=u->γ u=none):wpAnyIn (FW rn) 0 P .any ops Q ops.size (Array.replicate ops.size false) a w:=by
 obtain⟨e9,i4⟩:=jy f7
 have e9:als.length=ops.size:=by rw[e9,aL]
 obtain⟨X,d3⟩:=Xv c5 e9
 unfold jyr at f8
 simp only[ai,dp,i0]at f8
 obtain⟨⟨⟨q3,j0⟩,f5⟩,K⟩:=f8
 have f5:∀i,i<c->((JF ops.toList []).getD c 0).testBit i=true:=λi hi=>aw.1 f5 i (aH.2 hi)
 have hF:∀j o,c<j->j<kk->als[j]? = some o->o.op.still=true/\((JF ops.toList []).getD j 0).testBit c=false/\∀d,o.dst=some d->∀i x,i<kk->als[i]? = some x->(i≠j->x.dst≠some d)/\(i<=j->d ∉ x.looks):=by
  intro j o y z ho
  have:=aw.1 K j (aH.2 z)
  have m0:Nat.ble j c=false:=by
   cases h:Nat.ble j c with
   | false=>rfl
   | true=>have:=eF h;omega
  simp only[m0,cp,ho,ai,bJ]at this
  obtain⟨⟨B,J⟩,h5⟩:=this
  refine⟨B,J,λd hd i x hi o3=>?_⟩
  simp only[hd]at h5
  have:=aw.1 h5 i (aH.2 hi)
  simp only[o3,ai,bA,bJ]at this
  refine⟨λc4 he=>?_,λq6=>?_⟩
  ·rcases this.1 with h|h
   ·exact c4 (bm h)
   ·simp only[he,bJ]at h
    rw[cI]at h
    cases h
  ·rcases this.2 with h|h
   ·rw[dp]at h
    omega
   ·exact jnx h
 obtain⟨q,d6,rfl⟩:=XM _ _ _ _ _ hd
 have k6:((als.take kk).set c jix).length=kk:=by rw[dE,ap];omega
 have m3:q.length=kk:=d6.len.trans k6
 have g7:∀i ao,i<kk->i≠c->als[i]? = some ao->((als.take kk).set c jix)[i]? = some ao:=λi ao y z B=>by
  rw[cN (dV z),ct,if_pos y];exact B
 have d8:q[c]? = some (none,{ v:=ju }):=by
  obtain⟨δ,fp,y,z,B⟩:=d6.at' c jix (by rw[dz (by rw[ap];omega)])
  have:δ = { v:=ju }:=by
   obtain⟨J,_⟩:=jaz B rfl
   rcases J with⟨_,J⟩|⟨J,h5⟩
   ·cases J;rfl
   ·exact h5
  rw[y,this];rfl
 have g9:∀j e,c<j->q[j]? = some e->∃o,als[j]? = some o/\j<kk/\e.1=o.dst/\e.2.wo=[]/\e.2.wt=[]:=by
  intro j e hj he
  have k0:j<kk:=m3▸(ak.1 he).1
  have ho:=aa (show j<als.length by omega)
  obtain⟨δ,fp,y,z,B⟩:=d6.at' j _ (g7 j _ k0 zO ho)
  rw[he]at y;cases y
  obtain⟨_,J,h5⟩:=jaz B (hF j _ hj k0 ho).1
  exact⟨_,ho,k0,rfl,J,h5⟩
 generalize hT:jO (λ_=>true) q st=T at *
 have d1:∀i d,(Array.replicate ops.size false).getD i d=if i<ops.size then false else d:=by
  intro i d
  by_cases hi:i<ops.size <;> simp[hi]
 have l0:jO (λi=>(Array.replicate ops.size false).getD i false) q st=st:=by
  have:(λi=>(Array.replicate ops.size false).getD i false)=λ_=>false:=funext λi=>by rw[d1];split <;> rfl
  rw[this]
  exact Xu _ _
 refine jgh (bb:=false) (w0:=w0) (I0:=I0) (kk:=kk) (al':=(als.take kk).set c jix) (sp:=λi=>Nat.beq i c) p3 k6 (λi ao y z B=>g7 i ao y (λe=>by subst e;rw[cI]at z;cases z) B)
  (λi _ h=>by rw[bm h];exact d8) (λj y z i B=>e8 j y z i zO) g4 f7 c5 d6 n4 n2 c9 (γ:=γ) (I:=I) ?_ (λc3 I' a' w' F f b9 hm p1=>?_) ops.size (Array.replicate ops.size false) γ I a w zS
  (λj o ho hj=>?_) (λj hj=>by rw[d1];split <;> rfl) (λj hj=>by rw[d1];split <;> rfl) zS (by rw[l0];exact hR) (λu hu=>hf u zO) (λj hj u y z=>hf u zO) (λ_ _ h=>h) (λ_ _ _ h=>h)
 rotate_left
 ·have:=p1 c (cI c)
  rw[hm c,decide_eq_true zO]at this
  cases this
 ·simp only[d1]at hj
  split at hj <;> cases hj
 intro i F f b0 I1 a1 w1 l2 b5 b9 e7 d0 m8 c8 p9 h9 hg hI hi
 have e:c=i:=(bm l2).symm
 subst e
 obtain⟨h0,oc,g2,e5⟩:=mem_ready.1 hi
 have q5:c<ops.size:=(aM.1 g2).1
 have N:Jf P m ops oc=some Z:=i4 c oc Z (by rw[bn];exact g2) i0
 have L:∀j,j<c->f.getD j false=true:=λj hj=>Yc X e7 g2 e5 (f5 j hj)
 have o2:f.getD c false=false:=m8 c l2
 -- a state in which all ahead of the call have q0 about: asg the whole one,but for what is still
 have i1:∀D:Nat->Bool,(∀j,j<c->D j=true)->(jO D q st).ob=T.ob:=λD hD=>by
  rw[<- hT]
  refine funext λl=>XF (π:=λs=>s.ob l) (wr:=wrO l) (g:=λe=>JS (λ_=>none) e.2.obs l) (jdc l) q _ _ _ _ (λk e G M=>?_) rfl
  rcases du k c with h|h|h
  ·exact hD k h
  ·subst h;rw[d8]at G;cases G;cases M
  ·obtain⟨o,_,_,_,y,_⟩:=g9 k e h G
   simp[wrO,y]at M
 have h8:∀D:Nat->Bool,(∀j,j<c->D j=true)->(jO D q st).tk=T.tk:=λD hD=>by
  rw[<- hT]
  refine funext λu=>XF (π:=λs=>s.tk u) (wr:=wrK u) (g:=λe=>e.2.add.contains u) (jgv u) q _ _ _ _ (λk e G M=>?_) rfl
  rcases du k c with h|h|h
  ·exact hD k h
  ·subst h;rw[d8]at G;cases G;cases M
  ·obtain⟨o,_,_,_,_,y⟩:=g9 k e h G
   simp[wrK,y]at M
 have b7:∀ (D:Nat->Bool) (t:Nat),(∀j,j<c->D j=true)->(∀k o,c<k->k<kk->als[k]? = some o->o.dst=some t->D k=true)->(jO D q st).tm t=T.tm t:=λD t hD n1=>by
  rw[<- hT]
  refine XF (π:=λs=>s.tm t) (wr:=wrT t) (g:=λe=>e.2.v) (jaw t) q _ _ _ _ (λk e G M=>?_) rfl
  simp only[wrT,decide_eq_true_eq]at M
  rcases du k c with h|h|h
  ·exact hD k h
  ·subst h;rw[d8]at G;cases G;cases M
  ·obtain⟨o,ho,g3,y,_⟩:=g9 k e h G
   exact n1 k o h g3 ho (y▸M)
 have b6:∀k o,c<k->k<kk->als[k]? = some o->Apart Z o:=λk o y z B=>(d3 c k Z o y i0 B (hF k o y z B).2.1).1
 have a0:=J6 q (λi=>f.getD i false) st
 have b8:T.nx=st.nx/\T.fb=st.fb/\T.ro=st.ro/\T.df=st.df:=hT▸J6 q (λ_=>true) st
 obtain⟨l',o7,o1⟩:=jsz (s:={ T with nx:=ub+64*((als.take kk).set c jix).length }) (s':=jO (λi=>f.getD i false) q st) j0
  (λt ht=>b7 _ t L λk o y z B J=>absurd ht ((b6 k o y z B).c t J)) (i1 _ L) (h8 _ L) (a0.2.2.1.trans b8.2.2.1.symm) (a0.2.1.trans b8.2.1.symm) hl
 unfold wpOpIn
 simp only[g2]
 refine jid g4 (l4.trans hg) (l8.trans hI) p9 (λu hu=>h9 u (by rw[<- k6];exact hu)) N (by rw[<- (XO N).1];exact c9 Z (aI i0)) o7 (λx' o4=>?_)
 obtain⟨x,n6,v,e4,e0,e1,e2,e3⟩:=o1 x' o4
 obtain⟨p,g8,hp,i9,l1,i8⟩:=hx x n6
 obtain⟨r,f2,d9⟩:=XM _ _ _ p.1 p.2 hp
 intro o5 I2 a2 w2 m1 k1 p5 o8
 rw[e1]at k1
 rw[e3]at m1
 have m7:((als.take kk).drop (c+1)).length=kk - (c+1):=by rw[ba,ap];omega
 have f4:∀j o,c<j->j<kk->als[j]? = some o->((als.take kk).drop (c+1))[j - (c+1)]? = some o:=λj o y z B=>by
  rw[bw,ct,if_pos zO,show c+1+(j - (c+1))=j by omega];exact B
 have d5:∀n e,r[n]? = some e->∃o,als[c+1+n]? = some o/\c+1+n<kk/\e.1=o.dst/\e.2.wo=[]/\e.2.wt=[]:=by
  intro n e he
  have hn:n<kk - (c+1):=by
   have:=(ak.1 he).1
   rw[f2.len,m7]at this
   exact this
  have ho:=aa (show c+1+n<als.length by omega)
  obtain⟨δ,fp,y,z,B⟩:=f2.at' n _ (by have:=f4 (c+1+n) _ zO zO ho;rwa [show c+1+n - (c+1)=n by omega]at this)
  rw[he]at y;cases y
  obtain⟨_,J,h5⟩:=jaz B (hF _ _ zO zO ho).1
  exact⟨_,ho,zO,rfl,J,h5⟩
 have d2:∀j o d,c<j->j<kk->als[j]? = some o->o.dst=some d->T.tm d=p.2.tm d:=by
  intro j o d y z B J
  have:=aw.1 i9 o (aI (f4 j o y z B))
  simp only[J]at this
  exact QN _ _ this
 have k9:∀D:Nat->Bool,(jO D r x.1).ob=e4:=λD=>by
  have:(jO D r x.1).ob=(jO (λ_=>false) r x.1).ob:=funext λl=>XF (π:=λs=>s.ob l) (wr:=wrO l) (g:=λe=>JS (λ_=>none) e.2.obs l) (jdc l) r _ _ _ _ (λk e G M=>by
   obtain⟨o,_,_,_,y,_⟩:=d5 k e G
   simp[wrO,y]at M) rfl
  rw[this,Xu,e2]
 have n0:∀D:Nat->Bool,(jO D r x.1).tk=e0:=λD=>by
  have:(jO D r x.1).tk=(jO (λ_=>false) r x.1).tk:=funext λu=>XF (π:=λs=>s.tk u) (wr:=wrK u) (g:=λe=>e.2.add.contains u) (jgv u) r _ _ _ _ (λk e G M=>by
   obtain⟨o,_,_,_,_,y⟩:=d5 k e G
   simp[wrK,y]at M) rfl
  rw[this,Xu,e2]
 have i3:∀t,p.2.tm t=(jO (λ_=>true) r x.1).tm t:=λt=>by rw[d9]
 have k3:∀n t,(∀k o,n<=k->als[c+1+k]? = some o->c+1+k<kk->o.dst≠some t)->(jO (λk=>decide (k<n)) r x.1).tm t=p.2.tm t:=λn t h=>by
  rw[i3]
  refine XF (π:=λs=>s.tm t) (wr:=wrT t) (g:=λe=>e.2.v) (jaw t) r _ _ _ _ (λk e G M=>?_) rfl
  simp only[wrT,decide_eq_true_eq]at M
  obtain⟨o,y,z,B,_⟩:=d5 k e G
  refine decide_eq_true ?_
  rcases cu k n with J|J
  ·exact J
  ·exact absurd (B▸M) (h k o J y z)
 have m4:∀t,Z.dst≠some t->p.2.tm t=T.tm t:=λt ht=>by
  by_cases M:∃k o,c<k/\k<kk/\als[k]? = some o/\o.dst=some t
  ·obtain⟨k,o,y,z,B,J⟩:=M
   exact(d2 k o t y z B J).symm
  ·rw[<- k3 0 t (λk o _ y z B=>M ⟨c+1+k,o,zO,z,y,B⟩)]
   have:(λk=>decide (k<0))=λ_:Nat=>false:=funext λk=>by simp
   rw[this,Xu,e2]
   exact Xa ht
 have i7:∀k o t,c<k->k<kk->als[k]? = some o->o.dst=some t->Z.dst≠some t:=λk o t y z B J h5=>(b6 k o y z B).b t h5 J
 have m2:x.1.ro=st.ro:=by rw[e2];exact b8.2.2.1
 have p8:x.1.df=st.df:=by rw[e2];exact b8.2.2.2
 have q2:x.1.fb=st.fb:=by rw[e2];exact b8.2.1
 have g6:∀ (F:Nat) (f:Array Bool) (b0:Nat->Option Place) (I1:IMap) (a:Act) (w:World),f.size=ops.size->jdp ops (λi=>f.getD i false)->(∀j,kk<=j->f.getD j false=false)->(∀j,j<=c->f.getD j false=true)->f.toList.count false<=F ->
  R E w0 I0 nt b0 I1 { jO (λi=>f.getD i false) q st with tm:=put (jO (λi=>f.getD i false) q st).tm Z.dst v,ob:=e4,tk:=e0 } a w ->
  (∀u,x.2+64*(kk - (c+1))<=u->b0 u=none)->(∀j,c<j->j<kk->f.getD j false=false->∀u,x.2+64*(j - (c+1))<=u->u<x.2+64*(j - (c+1))+64->b0 u=none)->SubG γ b0->SubI I I1 ->
  wpAnyIn (FW rn) 0 P .any ops Q F f a w:=by
  intro F
  induction F with
  | zero=>?_
  | succ F ih=>?_
  all_goals
   intro f b0 I1 a w b9 e7 d0 L c8 hR h9 i6 hg hI
   have a0:=J6 q (λi=>f.getD i false) st
   have n9:∀F,f.toList.count false<=F->(∀j,j<kk->f.getD j false=true)->wpAnyIn (FW rn) 0 P .any ops Q F f a w:=λF c8 K=>by
    refine jka e8 g4 f7 c5 c9 (ops.size - kk) kk zK zO F f b0 I1 p.2 a w p.2.nx g8 b9 (λi=>?_) c8 (l4.trans hg) (l8.trans hI) (hR.congr (funext λt=>?_) ?_ ?_ ?_ ?_) (λu hu=>h9 u (by rw[d9]at hu;simpa[m7] using hu)) l1 (λh6 h=>(i8 h6 h).weaken hg hI)
    ·by_cases h:i<kk
     ·rw[K i h,decide_eq_true h]
     ·rw[d0 i zO,decide_eq_false h]
    ·by_cases h:Z.dst=some t
     ·simp only[h,We]
      rw[<- k3 0 t (λk o _ y z B=>i7 (c+1+k) o t zO z y B h)]
      have:(λk=>decide (k<0))=λ_:Nat=>false:=funext λk=>by simp
      rw[this,Xu,e2]
      simp only[h,We]
     ·simp only[Xa h]
      rw[m4 t h,b7 _ t (λj hj=>L j zO) (λk o y z _ _=>K k z)]
    ·rw[d9];exact k9 _
    ·rw[d9];exact n0 _
    ·exact(congrArg St.ro d9).trans ((J6 r _ x.1).2.2.1.trans (m2.trans a0.2.2.1.symm))
    ·exact(congrArg St.df d9).trans ((J6 r _ x.1).2.2.2.trans (p8.trans a0.2.2.2.symm))
   by_cases K:∀j,j<kk->f.getD j false=true
   ·exact n9 _ c8 K
  ·refine absurd (jlx zO X b9 λi hi o0=>?_) K
   obtain⟨h0,o,ho,_⟩:=mem_ready.1 o0
   have e6:i<f.size:=by rw[b9];exact(aM.1 ho).1
   have:=(count_set e6 (by simpa[e6] using h0)).2
   omega
  ·refine⟨λhr=>absurd (jlx zO X b9 (λi _ hi=>by rw[hr]at hi;cases hi)) K,λi hi=>?_⟩
   obtain⟨h0,o,ho,e5⟩:=mem_ready.1 hi
   have n5:i<ops.size:=(aM.1 ho).1
   have b5:i<kk:=by
    rcases cu i kk with h|h
    ·exact h
    ·exact absurd (λj hj=>Yc X e7 ho e5 (e8 i h n5 j zO)) K
   have e6:i<f.size:=zO
   have f1:f.getD i false=false:=by simpa[e6] using h0
   have d7:c<i:=by
    rcases cu c i with h|h
    ·exact h
    ·rw[L i h]at f1;cases f1
   have O:=aa (show i<als.length by omega)
   generalize als[i]=ao at O
   have N:Jf P m ops o=some ao:=i4 i o ao (by rw[bn];exact ho) O
   obtain⟨hd1,k5⟩:=XO N
   obtain⟨U,m0,g0⟩:=hF i ao d7 b5 O
   have k5:Jk P m o=some ao.op:=k5.resolve_right λh=>by rw[h]at U;cases U
   obtain⟨f3,q1,l3,_,q8⟩:=d6.at' i ao (g7 i ao b5 zO O)
   obtain⟨h7,q7,p7,_,o9⟩:=f2.at' (i - (c+1)) ao (f4 i ao d7 b5 O)
   obtain⟨m6,p2,p6⟩:=jaz o9 U
   have d4:∀t∈ao.looks,put (jO (λi=>f.getD i false) q st).tm Z.dst v t=(jO (λk=>decide (k<i - (c+1))) r x.1).tm t:=by
    intro t ht
    have c4:Z.dst≠some t:=λh=>(b6 i ao d7 b5 O).a t h ht
    rw[Xa c4,k3 _ t (λk o G y z B=>((hF _ o zO z y).2.2 t B i ao b5 O).2 zO ht),m4 t c4]
    refine b7 _ t (λj hj=>L j zO) λk ok y z B J=>?_
    have n8:k<i:=by
     rcases cu k i with h|h
     ·exact h
     ·exact absurd ht (((hF k ok y z B).2.2 t J i ao b5 O).2 h)
    cases l5:((JF ops.toList []).getD i 0).testBit k with
    | true=>exact Yc X e7 ho e5 l5
    | false=>exact absurd ht ((d3 k i ok ao n8 B O l5).1.a t J)
   have hv:∀d,ao.dst=some d->f3.v=h7.v:=λd hd=>by
    have y:T.tm d=f3.v:=by
     rw[<- hT]
     refine jpl l3 hd λk e' G c4 h=>?_
     by_cases l7:k=c
     ·subst l7;rw[d8]at G;cases G;cases h
     ·have g3:k<kk:=m3▸(ak.1 G).1
      have m9:=aa (show k<als.length by omega)
      obtain⟨q4,fk,l6,_⟩:=d6.at' k _ (g7 k _ g3 l7 m9)
      rw[G]at l6;cases l6
      exact(g0 d hd k _ g3 m9).1 c4 h
    have z:p.2.tm d=h7.v:=by
     rw[i3]
     refine jpl p7 hd λk e' G c4 h=>?_
     obtain⟨ok,B,J,h5,_⟩:=d5 k e' G
     exact(g0 d hd _ ok J B).1 zO (h5▸h)
    rw[<- y,<- z]
    exact d2 i ao d d7 b5 O hd
   have H:∀k,k≠i->(f.setIfInBounds i true).getD k false=f.getD k false:=λk G=>getD_set_ne false (dV G)
   have f6:∀c3 I' a' w',R E w0 I0 nt c3 I' (St.app { jO (λi=>f.getD i false) q st with tm:=put (jO (λi=>f.getD i false) q st).tm Z.dst v,ob:=e4,tk:=e0 } ao.dst h7) a' w'->(∀u,¬(x.2+64*(i - (c+1))<=u/\u<x.2+64*(i - (c+1))+64)->c3 u=b0 u) ->
    (∀u p,b0 u=some p->c3 u=some p)->(∀b o x,I1 b o=some x->I' b o=some x)->wpAnyIn (FW rn) 0 P .any ops Q F (f.setIfInBounds i true) a' w':=by
    intro c3 I' a' w' g5 i5 n7 p0
    have f9:(f.setIfInBounds i true).getD i false=true:=by simp[e6]
    have c0:=J6 q (λk=>(f.setIfInBounds i true).getD k false) st
    obtain⟨c1,c2⟩:=count_set e6 f1
    obtain⟨b1,b2⟩:=j6p (s:={ jO (λi=>f.getD i false) q st with tm:=put (jO (λi=>f.getD i false) q st).tm Z.dst v,ob:=e4,tk:=e0 }) (d:=ao.dst) p2 p6
    refine ih (f.setIfInBounds i true) c3 I' a' w' (by simpa using b9) (λj oj c6 g1 e' f0 hb=>?_) (λj hj=>by rw[H j zO];exact d0 j hj) (λj hj=>by rw[H j zO];exact L j hj) zO (g5.congr (funext λt=>?_) b1.symm b2.symm (c0.2.2.1.trans a0.2.2.1.symm) (c0.2.2.2.trans a0.2.2.2.symm))
     (λu hu=>by rw[i5 u zO];exact h9 u hu) (λj y z B u J h5=>?_) (hg.trans n7) (hI.trans p0)
    ·by_cases c7:j=i
     ·subst c7
      rw[ho]at c6
      cases c6
      exact getD_set_true (e5 e' f0 hb)
     ·simp only[H j c7]at g1
      exact getD_set_true (e7 j oj c6 g1 e' f0 hb)
    ·have m5:(jO (λk=>(f.setIfInBounds i true).getD k false) q st).tm t=if wrT t (ao.dst,f3) then f3.v else (jO (λi=>f.getD i false) q st).tm t :=
      jd8 (π:=λs=>s.tm t) (wr:=wrT t) (g:=λe=>e.2.v) (jaw t) q (λi=>f.getD i false) _ st i (ao.dst,f3) l3 f1 f9 H (λk e' G o6 _ M=>by
       simp only[wrT,decide_eq_true_eq]at M
       simp only[wrT,decide_eq_false_iff_not]
       intro h
       obtain⟨ok,B,J,h5,_⟩:=g9 k e' zO o6
       exact(g0 t M k ok J B).1 zO (h5▸h))
     show put (jO (λk=>(f.setIfInBounds i true).getD k false) q st).tm Z.dst v t=put (put (jO (λi=>f.getD i false) q st).tm Z.dst v) ao.dst h7.v t
     by_cases y:Z.dst=some t
     ·rw[Xa (d:=ao.dst) (λh=>i7 i ao t d7 b5 O h y),y,We,We]
     ·rw[Xa y,m5]
      by_cases z:ao.dst=some t
      ·rw[if_pos (by simpa[wrT] using z),z,We]
       exact hv t z
      ·rw[if_neg (by simpa[wrT] using z),Xa z,Xa y]
    ·have c7:j≠i:=λe=>by subst e;rw[f9]at B;cases B
     rw[H j c7]at B
     rw[i5 u zO]
     exact i6 j y z B u J h5
   have k8:∀d,o.dst=some d->d<nt:=by rw[<- hd1];exact c9 ao (aI O)
   unfold wpOpIn
   simp only[ho]
   have M:=X0 (s:={ jO (λi=>f.getD i false) q st with tm:=put (jO (λi=>f.getD i false) q st).tm Z.dst v,ob:=e4,tk:=e0 }) (ao:=ao) d4
   have p4:=Xk (E:=E) (s:={ jO (λi=>f.getD i false) q st with tm:=put (jO (λi=>f.getD i false) q st).tm Z.dst v,ob:=e4,tk:=e0 }) (ao:=ao) d4
   rcases m6 with⟨r1,r2⟩|⟨r1,r2⟩
   ·rw[if_pos (Xx hR N (M.trans r1))]
    have k7:=J6 r (λk=>decide (k<i - (c+1))) x.1
    rw[k9,n0,k7.2.2.1,m2]at r2
    have k2:=r2
    rw[<- jgg ao.op (jjz U).2.2.2 p4 (λ_ _=>rfl) (λ_ _=>rfl)]at k2
    rw[<- a0.2.2.1]at k2
    refine jji g4 hR (λu y z=>i6 i d7 b5 f1 u y z) k5 k8 k2 (λc3 I' a' w' g5 y z B=>?_)
    rw[<- hd1]at g5
    exact f6 c3 I' a' w' g5 y z B
   ·rw[if_neg (by rw[Xx hR N (M.trans r1)];exact Bool.false_ne_true)]
    refine⟨λ_ _=>trivial,?_⟩
    have:=jtr hR k8
    rw[<- hd1]at this ⊢
    refine f6 b0 I1 _ _ ?_ (λ_ _=>rfl) (λ_ _ h=>h) (λ_ _ _ h=>h)
    rw[r2]
    exact this
 have H:∀k,k≠c->(f.setIfInBounds c true).getD k false=f.getD k false:=λk G=>getD_set_ne false (dV G)
 have i2:c<f.size:=zO
 have k4:∀ {β:Type}{π:St->β}{wr:Eff->Bool}{g:Eff->β},(∀ (s:St) (e:Eff),π (s.app e.1 e.2)=if wr e then g e else π s)->wr (none,{ v:=ju })=false->π (jO (λk=>(f.setIfInBounds c true).getD k false) q st)=π (jO (λi=>f.getD i false) q st):=λn3 hn=>
  XF n3 q _ _ _ _ (λk e G M=>H k (λh=>by subst h;rw[d8]at G;cases G;rw[hn]at M;cases M)) rfl
 obtain⟨c1,c2⟩:=count_set i2 o2
 have c0:=J6 q (λk=>(f.setIfInBounds c true).getD k false) st
 refine g6 F (f.setIfInBounds c true) o5 I2 a2 w2 (by simpa using b9) (λj oj c6 g1 e' f0 hb=>?_) (λj hj=>by rw[H j zO];exact d0 j hj) (λj hj=>?_) zO
  (m1.congr (funext λt=>?_) rfl rfl (c0.2.2.1.trans a0.2.2.1.symm) (c0.2.2.2.trans a0.2.2.2.symm)) (λu hu=>k1 u zO) (λj _ _ _ u y _=>k1 u zO) (SubG.trans hg p5) (SubI.trans hI o8)
 ·by_cases c7:j=c
  ·subst c7
   rw[g2]at c6
   cases c6
   exact getD_set_true (e5 e' f0 hb)
  ·simp only[H j c7]at g1
   exact getD_set_true (e7 j oj c6 g1 e' f0 hb)
 ·by_cases l9:j=c
  ·subst l9;simp[i2]
  ·rw[H j l9];exact L j zO
 ·show put (jO (λk=>(f.setIfInBounds c true).getD k false) q st).tm Z.dst v t=put (jO (λi=>f.getD i false) q st).tm Z.dst v t
  by_cases y:Z.dst=some t
  ·rw[y,We,We]
  ·rw[Xa y,Xa y]
   exact k4 (π:=λs=>s.tm t) (wr:=wrT t) (g:=λe=>e.2.v) (jaw t) rfl
end
section
variable {P:Program}{E:Env}{w0 w:World}{I0:IMap}{nt:Nat}{γ:Nat->Option Place}{I:IMap}{st:St}{a:Act}
theorem Sh.congr {st st':St}(h:Sh E w0 I0 γ I st w) (c:st'.ob=st.ob) (b:st'.tk=st.tk) (d:st'.ro=st.ro):Sh E w0 I0 γ I st' w :=
 ⟨h.imm,h.gl,(let ⟨Ω,ho⟩:=h.own;⟨Ω,⟨by rw[c,d];exact ho.ob,by rw[b];exact ho.tk,ho.lt⟩⟩),h.fr,h.old⟩
theorem Sh.alloc (h:Sh E w0 I0 γ I st w) {ub d:Nat}(F:γ ub=none) {obj:Obj}{body:OBody}{k:Kd}(G:ObjOk γ I st.ob w.heap k (some obj) body) :
 Sh E w0 I0 (upd γ ub (some (.obj w.heap.size k))) I { st with ob:=upd st.ob d (some ⟨ub,body⟩) } (w.alloc obj):=by
 have r:=WX (f:=γ) (k:=ub) (v:=Place.obj w.heap.size k) F;obtain⟨M,o⟩:=h.own;have i:=jhu (w:=w) (ob:=st.ob) (obj:=obj) (d:=d) (body:=body) F;refine⟨λb S O c=>?_,h.gl,⟨upd M w.heap.size (some (.ob d)),⟨λl ob p=>?_,λu L=>?_,λb Q c=>?_⟩⟩,?_,h.old⟩;rw[World.cell?_alloc_lt];exact h.imm _ _ _ c;exact bP _ _ (h.imm _ _ _ c);have K:∀j,I w.heap.size j=none:=by
  intro j;cases N:I w.heap.size j with
  | none=>rfl
  | some y=>exact absurd (bP _ _ (h.imm _ _ _ N)) (dY _)
 simp only[j5]at p;split at p;rename_i q;subst q;simp only[ab]at p;subst p;refine⟨w.heap.size,k,zS,zS,λ_=>h.fr.size,?_,K⟩;rw[heap_alloc_new];exact(G.keep i).mono r (λ_ _ _ h=>h);rename_i q;obtain⟨b,H,x,m,D,t,B⟩:=o.ob l ob p;have g:=o.lt b _ m;refine⟨b,H,r _ _ x,?_,D,?_,B⟩;rw[JG _ _ (eR g)];exact m;rw[heap_alloc_old _ _ _ g];exact(t.keep i).mono r (λ_ _ _ h=>h);obtain⟨b,n,z,J,x,m,D,t,B⟩:=o.tk u L;have g:=o.lt b _ m;refine⟨b,n,z,J,r _ _ x,?_,D,?_,B⟩;rw[JG _ _ (eR g)];exact m;rw[heap_alloc_old _ _ _ g];exact t;rw[j5]at c;simp only[World.size_alloc];split at c;rename_i e;omega;have:=o.lt b _ c;omega;exact Grow.frame h.fr ⟨rfl,rfl,rfl,zS,λk s _=>heap_alloc_old _ _ _ s,λk s=>s.elim⟩ (T:=λ_=>False)
theorem Sh.turn (h:Sh E w0 I0 γ I st w) {l u b:Nat}{k:Kd}{body:OBody}(hl:st.ob l=some ⟨u,body⟩) (hu:γ u=some (.obj b k)) (F:Nat.ble st.ro u=true) {ob':ZO}{o':Obj}
 (B:∀j x,ob' j=some x->(j≠l/\st.ob j=some x)\/(j=l/\x.uid=u/\ObjOk γ I st.ob w.heap k (some o') x.body/\∀v es,x.body≠.mp v es)) :
 Sh E w0 I0 γ I { st with ob:=ob' } (w.putObj b o'):=by
 obtain⟨Ω,s⟩:=h.own;obtain⟨b',k',U,y,h3,_,X⟩:=s.ob l _ hl;rw[hu]at U;cases U;have D:=s.lt _ _ y;have g:Xw γ st.ob ob' w.heap (w.putObj b o').heap:=by
  intro j S Q a0 mb mk o d;rcases B _ _ d with⟨f,d⟩|⟨_,_,_,O⟩;refine .inl ⟨d,λm c hm=>?_⟩;obtain⟨b2,k2,r,i,_⟩:=s.ob j _ d;rw[o]at r;cases r;rw[World.putObj_heap_other (λe=>by
   subst e;rw[y]at i;cases i;exact f rfl)]
  exact hm;exact absurd rfl (O _ _)
 refine⟨λb2 o2 x N=>?_,h.gl,⟨Ω,⟨λj x d=>?_,λS o=>?_,λb2 ow M=>?_⟩⟩,?_,h.old⟩;have f:b2≠b:=λe=>by rw[e,X]at N;cases N
 rw[dW (w:=w) (w':=w.putObj b o') (a:=⟨b2,o2,none⟩) (World.putObj_heap_other f)];exact h.imm _ _ _ N;rcases B _ _ d with⟨f,z⟩|⟨rfl,t,q,_⟩;obtain⟨b2,k2,r,i,J,L,K⟩:=s.ob j x z;have p:b2≠b:=λe=>by subst e;rw[y]at i;cases i;exact f rfl
 exact⟨b2,k2,r,i,J,by rw[World.putObj_heap_other p];exact L.keep g,K⟩;refine⟨b,k,by rw[t];exact hu,y,λZ=>h3 (by rw[t]at Z;exact Z),?_,X⟩;rw[World.putObj_heap_same D];exact q.keep g;obtain⟨b2,n,H,sz,r,i,J,L,K⟩:=s.tk S o;have p:b2≠b:=λe=>by subst e;rw[y]at i;cases i
 exact⟨b2,n,H,sz,r,i,J,by rw[World.putObj_heap_other p];exact L,K⟩;rw[World.putObj_size];exact s.lt _ _ M;exact Grow.frame h.fr (T:=λk=>k=b) ⟨rfl,rfl,rfl,zS,λk _ G=>World.putObj_heap_other G,λk G=>G▸h3 (by simpa[ce] using F)⟩
theorem jhj (h:Sh E w0 I0 γ I st w) {l u b:Nat}{k:Kd}{body:OBody}(e:st.ob l=some ⟨u,body⟩) (g:γ u=some (.obj b k)):ObjOk γ I st.ob w.heap k w.heap[b]? body:=by obtain⟨i,d⟩:=h.own;obtain⟨n,p,c,j,o,f,m⟩:=d.ob l _ e;rw[g]at c;cases c;exact f
theorem jj5:∀ (ps:List Nat) (vs:List V) (xs:List Value) (T:Array Value) (tm:Nat->V),xs.length=vs.length->vs.length=ps.length->(∀p∈ps,p<T.size)->(∀t,Rep γ I (T.getD t undef) (tm t)) ->
 (∀ (j:Nat) (x:Value) (v:V),xs[j]? = some x->vs[j]? = some v->Rep γ I x v) ->
 ((ps.zip xs).foldl (λtmps (t,a)=>tmps.setIfInBounds t a) T).size=T.size/\∀t,Rep γ I (((ps.zip xs).foldl (λtmps (t,a)=>tmps.setIfInBounds t a) T).getD t undef) (jet tm ps vs t)
 | [],[],[],T,tm,_,_,_,hT,_=>⟨rfl,hT⟩
 | p::ps,v::vs,x::xs,T,tm,h1,h2,hp,hT,hx=>by
  simp only[fZ,dO,jet];have b:=hp p (aP ..);have:=jj5 ps vs xs (T.setIfInBounds p x) (upd tm p v) (by simpa using h1) (by simpa using h2) (λq g=>by rw[fv];exact hp q (bf _ g)) (λt=>?_) (λj y u d f=>hx (j+1) y u (by simpa using d) (by simpa using f));rw[fv]at this;exact this;by_cases c:t=p;subst c;simp only[Yq];have:(T.setIfInBounds t x).getD t undef=x:=by simp[b]
  rw[this];exact hx 0 x v rfl rfl;rw[JG _ _ c];have:(T.setIfInBounds p x).getD t undef=T.getD t undef:=by simp[dG (λe=>c e.symm)]
  rw[this];exact hT t
 | [],_::_,_,_,_,_,h,_,_,_=>by simp at h
 | _::_,[],_,_,_,_,h,_,_,_=>by simp at h
 | [],[],_::_,_,_,h,_,_,_,_=>by simp at h
 | _::_,_::_,[],_,_,h,_,_,_,_=>by simp at h
end
end Go.Pv
namespace Go.Pv
open Go Go.Sort
theorem jfu (x:Int):∀l:List Int,(j5o x l).Perm (x::l)
 | []=>eE _
 | y::r=>by unfold j5o;split;exact eE _;exact((jfu x r).cons y).trans (List.Perm.swap x y r)
theorem QT:∀l:List Int,(jmj l).Perm l
 | []=>eE _
 | x::r=>(jfu x (jmj r)).trans ((QT r).cons x)
theorem jv2 (x:Int):∀ {l:List Int},l.Pairwise (·<=·)->(j5o x l).Pairwise (·<=·)
 | [],_=>by simp[j5o]
 | y::r,h=>by
  unfold j5o;rw[bR]at h;split;rename_i b;exact bR.2 ⟨λz a=>by
   rcases br.1 a with rfl|a;exact b;exact Int.le_trans b (h.1 z a),bR.2 h⟩
  refine bR.2 ⟨λz a=>?_,jv2 x h.2⟩;rcases br.1 ((jfu x r).mem_iff.1 a) with rfl|a;omega;exact h.1 z a
theorem jih:∀l:List Int,(jmj l).Pairwise (·<=·)
 | []=>List.Pairwise.nil
 | x::r=>jv2 x (jih r)
theorem jiq:∀ {S C:List Int},S.Perm C->S.Pairwise (·<=·)->C.Pairwise (·<=·)->S=C
 | [],C,h,_,_=>(List.nil_perm.1 h).symm
 | x::r,C,h,hs,hc=>by
  cases C with
  | nil=>exact absurd h.length_eq zS
  | cons y q=>
   rw[bR]at hs hc;have e:x=y:=by rcases br.1 (h.mem_iff.1 (aP ..)) with h1|h1;exact h1;rcases br.1 (h.mem_iff.2 (aP (l:=q))) with h2|h2;exact h2.symm;have:=hs.1 y h2;have:=hc.1 x h1;omega
   subst e;rw[jiq ((List.perm_cons x).1 h) hs.2 hc.2]
theorem jpf (x:Int × Int):∀l,(j2e x l).length=l.length+1
 | []=>rfl
 | y::r=>by unfold j2e;split;rfl;simp[jpf x r]
theorem jj3:∀l,(Qk l).length=l.length
 | []=>rfl
 | x::r=>by rw[Qk,jpf,jj3 r];rfl
theorem jll:∀l,(W5 l).length=l.length*2
 | []=>rfl
 | p::r=>by simp[W5,jll r];omega
theorem jhf:∀ (n:Nat) (l:List Int),l.length=n*2->(pairsI l).length=n
 | 0,l,h=>by have:l=[]:=dI.1 zO;subst this;rfl
 | n+1,a::b::r,h=>by rw[pairsI,bo,jhf n r (by simp at h;omega)]
 | n+1,[],h=>by simp at h
 | n+1,[a],h=>by simp at h;omega
theorem js0 {m:Option FuncId}{n:Nat}{zs:List Int}(h:zs.length=n*jgl m):(Wx m zs).length=zs.length:=by
 cases m with
 | none=>exact(QT zs).length_eq
 | some g=>have h:zs.length=n*2:=h;show(W5 (Qk (pairsI zs))).length=_;rw[jll,jj3,jhf n zs h,h]
theorem jmi (l:List Int):l.mergeSort (λx y=>decide (x<=y))=jmj l:=by refine jiq ((List.mergeSort_perm l _).trans (QT l).symm) ?_ (jih l);have:=gQ (le:=λx y:Int=>decide (x<=y)) (λa b c e d=>by simp at *;omega) (λa b=>by simp;omega) l;exact this.imp λh=>by simpa using h
section
variable {P:Program}{E:Env}{w0 w:World}{I0:IMap}{γ:Nat->Option Place}{I:IMap}{st:St}
theorem Sh.turnG (h:Sh E w0 I0 γ I st w) {l u b:Nat}{k:Kd}{body:OBody}(hl:st.ob l=some ⟨u,body⟩) (Z:γ u=some (.obj b k)) (F:Nat.ble st.ro u=true) {o':Obj}{w':World}{body':OBody}
 (s:w'.os=w.os/\w'.tape=w.tape/\w'.output=w.output) (B:w.heap.size<=w'.heap.size) (z:∀j,j<w.heap.size->j≠b->w'.heap[j]? = w.heap[j]?) (hb:w'.heap[b]? = some o')
 (t:ObjOk γ I st.ob w.heap k (some o') body') (O:∀v es,body'≠.mp v es) :
 Sh E w0 I0 γ I { st with ob:=upd st.ob l (some ⟨u,body'⟩) } w':=by
 obtain⟨Ω,o⟩:=h.own;obtain⟨b',k',U,D,h3,_,X⟩:=o.ob l _ hl;rw[Z]at U;cases U;have i:Xw γ st.ob (upd st.ob l (some ⟨u,body'⟩)) w.heap w'.heap:=by
  intro N S Q a0 mb mk p d;rw[j5]at d;split at d;simp only[ab,Obj'.mk.injEq]at d;exact absurd d.2 (O _ _);rename_i f;refine .inl ⟨d,λm c hm=>?_⟩;obtain⟨b2,k2,y,g,_⟩:=o.ob N _ d;rw[p]at y;cases y;rw[z _ (o.lt _ _ g) (λe=>by
   subst e;rw[D]at g;cases g;exact f rfl)]
  exact hm
 refine⟨λb2 o2 x M=>?_,h.gl,⟨Ω,⟨λN x d=>?_,λS p=>?_,λb2 ow L=>?_⟩⟩,?_,h.old⟩;have f:b2≠b:=λe=>by rw[e,X]at M;cases M
 have hc:=h.imm _ _ _ M;rw[dW (w:=w) (w':=w') (a:=⟨b2,o2,none⟩) (z b2 (bP _ _ hc) f)];exact hc;simp only at d;rw[j5]at d;split at d;rename_i e;subst e;cases d;refine⟨b,k,Z,D,h3,?_,X⟩;rw[hb];exact t.keep i;rename_i f;obtain⟨b2,k2,y,g,H,K,J⟩:=o.ob N x d;have r:b2≠b:=λe=>by subst e;rw[D]at g;cases g;exact f rfl
 exact⟨b2,k2,y,g,H,by rw[z _ (o.lt _ _ g) r];exact K.keep i,J⟩;obtain⟨b2,n,G,sz,y,g,H,K,J⟩:=o.tk S p;have r:b2≠b:=λe=>by subst e;rw[D]at g;cases g
 exact⟨b2,n,G,sz,y,g,H,by rw[z _ (o.lt _ _ g) r];exact K,J⟩;exact aR (o.lt _ _ L) B;exact Grow.frame h.fr (T:=λk=>k=b) ⟨s.1,s.2.1,s.2.2,B,λk q f=>z k q f,λk q=>q▸h3 (by simpa[ce] using F)⟩
theorem j0j {l:List V}{zs:List Int}(h:l.mapM int64? = some zs):l=zs.map (.int .i64):=by obtain⟨c,b⟩:=jy h;apply dj;intro j;rcases cu j l.length with hj|hj;have a:j<zs.length:=zO;have:=b j _ _ (aa hj) (aa a);rw[aX,aa a,aa hj];unfold int64? at this;split at this;rename_i n e;cases this;rw[e];rfl;cases this;rw[cX hj,cX (by simp;omega)]
theorem j3k {γ0:Nat->Option Place}{Iy:IMap}{f:FuncId}{args:List V}{ob ob':ZO}{tk b7:Nat->Bool}{ro ub c2:Nat}{r:V}{m:Option FuncId}(hl:jjk P f m) (h:jql m ob tk ro ub args=some (r,ob',b7,c2)) :
 jjl P E γ0 Iy f args ob tk ro ub [(r,ob',b7,c2)]:=by
 intro w0 w I0 I γ G st d8 e2 D c8 c9 Z b8 b5 H;subst D c8 c9;have c:∀ {p g},G=jie m (.slice p 0 g)->Calls P f G w λe w'=>∃r∈[(V.tup [],st.ob,st.tk,ub)],WQ E w0 I0 γ I st.ro r.1 r.2.1 r.2.2.1 r.2.2.2 e w':=by rintro p g rfl;refine(hl.2.1 p g w).mono ?_;rintro e w' ⟨rfl,rfl⟩;exact⟨_,ae.2 rfl,_,γ,I,rfl,λd4 J t h3=>Z.congr J t h3,.tup _ _ rfl (λj x v hx=>by simp at hx),SubG.refl _,SubI.refl _,b8⟩
 have N:∀v,jj1 m args=some v->∃x,G=jie m x/\Rep γ I x v:=by
  intro v s;unfold jj1 at s;split at s;cases s;have a0:G.size=1:=b5;obtain⟨x,rfl⟩:∃x,G = #[x]:=⟨G[0],by
   apply gz;simp[a0];intro i J t;have:i=0:=by simp at t;omega
   subst this;rfl⟩
  exact⟨x,rfl,H 0 x _ rfl rfl⟩;split at s;rename_i hg;cases s;subst hg;have a0:G.size=2:=b5;obtain⟨x,y,rfl⟩:∃x y,G = #[x,y]:=⟨G[0],G[1],by
   apply gz;simp[a0];intro i J t;have:i=0\/i=1:=by simp at t;omega
   rcases this with rfl|rfl <;> rfl⟩
  have hy:=H 1 y _ rfl rfl;obtain⟨d2,bs,rfl,J,t,_,_⟩:=jdf hy;obtain rfl:d2 = #[]:=gC J;obtain rfl:bs = #[]:=gC t;exact⟨x,rfl,H 0 x _ rfl rfl⟩;cases s;cases s
 unfold jql at h;split at h;rename_i l u off n sz ha;obtain⟨x,rfl,L⟩:=N _ ha;obtain⟨cs,d5,hq⟩:=bind_some h;simp only[aC]at hq;obtain⟨⟨hr,d3,e3,d6⟩,hq⟩:=hq;obtain⟨d,c5,he⟩:=bind_some hq;simp only[aC,ab,bW]at he;clear h hq;obtain⟨c3,rfl,rfl,rfl,rfl⟩:=he;subst d3;have D:=jf d5;have e0:0<jgl m:=by cases m <;> exact eF rfl
 have F:=j0j c5;have o:d.length=n*jgl m:=by have:=congrArg List.length F;rw[ap,ba,bC]at this;omega
 rcases cM n with h0|h0;subst h0;have c7:d=[]:=dI.1 (by rw[o,dq]);subst c7;have b6:Wx m []=[]:=by cases m <;> rfl
 have U:upd st.ob l (some ⟨u,.cells (j2 cs off ((Wx m []).map (.int .i64)))⟩)=st.ob:=by funext k;rw[j5];split;rename_i e;subst e;rw[D];simp[j2,b6];rfl
 rw[U];cases L with
 | pure _ _ h=>cases h
 | osl l u off n sz g b k a hu ha hc hm=>exact c rfl
 cases L with
 | pure _ _ h=>cases h
 | osl l u off n sz g b k a hu ha hc hm=>
  obtain⟨rfl,d9⟩:=ha zO;obtain⟨arr,e,hw,S,e4,M⟩:=jhj Z D hu;have O:b<w.heap.size:=(aM.1 hw).1;have b0:∀j (z:j<d.length),arr[off+j]? = some (.int .i64 d[j]):=λj z=>by
   have J:off+j<arr.size:=zO;have t:cs[off+j]? = some (.int .i64 d[j]):=by have:=congrArg (λl=>l[j]?) F;simp only[aX,aa z,aU]at this;rw[bi zO,bw]at this;exact this
   have h3:=(M (off+j) _ _ (aA J) t).2;rw[aA J];generalize arr[off+j]=y at h3;cases h3 with
   | pure _ _ h=>cases h;rfl
  have hH:Holds (Value.int .i64) w b off d.toArray:=λj z=>by
   have c1:j<d.length:=by simpa using z
   refine⟨?_,by simp[World.frozen?,hw]⟩;simp only[World.cell?,hw];simp only[cJ,aj,if_false];rw[b0 j c1];simp[c1]
  have X:=hl.2.2 b off g n d w o c3 hH O zO;refine X.mono ?_;rintro e' w' ⟨rfl,q,os,rfl⟩;have d1:(Wx m d).length=d.length:=js0 o;refine⟨_,ae.2 rfl,_,γ,I,rfl,λd4 J t h3=>?_,.tup _ _ rfl (λj x v hx=>by simp at hx),SubG.refl _,SubI.refl _,b8⟩;have B:∀j,j<w.heap.size->(grow (putRow (Value.int .i64) (Go.Sort.ahead w q) b off (Wx m d).toArray) os).heap[j]? = if j=b then some (.cells (putCells (Value.int .i64) off (Wx m d).toArray arr) e (0,0)) else w.heap[j]?:=λj z=>by simp only[grow,putRow,mapBlock,Go.Sort.ahead];rw[cl (by simpa using z),cY];by_cases T:b=j;subst T;simp[hw,onCells];have:¬ j=b:=λe=>T e.symm;simp[T,this]
  refine Sh.congr (st:={ st with ob:=upd st.ob l (some ⟨u,.cells (j2 cs off ((Wx m d).map (.int .i64)))⟩) }) (Z.turnG D hu hr (o':=.cells (putCells (Value.int .i64) off (Wx m d).toArray arr) e (0,0)) ⟨rfl,rfl,rfl⟩ (by simp[Go.Sort.ahead]) (λj z c4=>by rw[B j z,if_neg c4]) (by rw[B b O,if_pos rfl]) ?_ (λv es h=>by cases h)) J t h3;have d7:(j2 cs off ((Wx m d).map (.int .i64))).length=cs.length:=by simp[j2];omega
  refine⟨_,e,rfl,by simpa[putCells] using S,zO,λj y v hy s=>?_⟩;simp only[putCells,Array.getElem?_mapIdx]at hy;have Q:(Wx m d).toArray.size=d.length:=by simpa using d1
  obtain⟨y0,c6,K⟩:=map_some hy;by_cases c0:off<=j/\j<off+d.length;rw[if_pos (by rw[Q];exact c0)]at K;have b9:j - off<(Wx m d).length:=zO;have d0:v=.int .i64 (Wx m d)[j - off]:=by rw[j2,aY,bp (by simp;omega),aV (by simp;omega)]at s;simp only[ap,aX]at s;rw[show j - min off cs.length=j - off by omega,aa b9]at s;simpa using s.symm
  subst d0 K;refine⟨rfl,?_⟩;have:(Wx m d).toArray[j - off]! = (Wx m d)[j - off]:=by simp[b9]
  rw[this];exact .pure _ _ (.int _ _);rw[if_neg (by rw[Q];exact c0)]at K;subst K;refine M j y0 v c6 ?_;rw[<- s,j2];rcases cu j off with z|z;rw[aY,aV (by simp;omega),bi z];rw[bp (by simp;omega),bw];congr 1;simp;omega
 rename_i e1 nl ha;obtain⟨x,rfl,L⟩:=N _ ha;cases h;cases L with
 | pure _ _ h=>cases h <;> exact c rfl
 | tsl u b n g sz cs G hu o hc hm hi hl hr=>exact c rfl
 cases h
end
end Go.Pv
namespace Go.Pv.T
open Go Go.Pv
abbrev P2:Type:=Int × Int
def pLt (x y:P2):Prop:=x.1<y.1\/x.1=y.1/\x.2<y.2
theorem pairLe_iff {x y:P2}:QA x y=true ↔ pLt x y\/x=y:=by obtain⟨a,b⟩:=x;obtain⟨c,d⟩:=y;simp only[QA,pLt,bA,ai,decide_eq_true_eq,bW];omega
theorem XR (x:P2):¬ pLt x x:=by unfold pLt;omega
theorem Y1 {x y z:P2}(h:pLt x y) (a:pLt y z):pLt x z:=by unfold pLt at *;omega
theorem QB (x y:P2):pLt x y\/x=y\/pLt y x:=by obtain⟨a,b⟩:=x;obtain⟨c,d⟩:=y;simp only[pLt,bW];omega
theorem jft (x:P2):∀l:List P2,(j2e x l).Perm (x::l)
 | []=>eE _
 | y::r=>by unfold j2e;split;exact eE _;exact((jft x r).cons y).trans (List.Perm.swap x y r)
theorem X8:∀l:List P2,(Qk l).Perm l
 | []=>eE _
 | x::r=>(jft x (Qk r)).trans ((X8 r).cons x)
theorem jv1 (x:P2):∀ {l:List P2},l.Pairwise (λa b=>QA a b=true)->(j2e x l).Pairwise λa b=>QA a b=true
 | [],_=>fB _ _
 | y::r,h=>by rw[bR]at h;unfold j2e;split;rename_i c;rw[bR];refine⟨λz d=>?_,bR.2 h⟩;rcases br.1 d with rfl|d;exact c;rw[pairLe_iff]at c ⊢;have:=pairLe_iff.1 (h.1 z d);rcases c with c|rfl;rcases this with h2|rfl;exact .inl (Y1 c h2);exact .inl c;exact this;rename_i c;rw[bR];refine⟨λz d=>?_,jv1 x h.2⟩;rcases br.1 ((jft x r).mem_iff.1 d) with rfl|d;rw[pairLe_iff]at c ⊢;rcases QB y z with h|h|h;exact .inl h;exact .inr h;exact absurd (.inl h) c;exact h.1 z d
theorem jig:∀l:List P2,(Qk l).Pairwise λa b=>QA a b=true
 | []=>List.Pairwise.nil
 | x::r=>jv1 x (jig r)
def Qp:List P2->List P2
 | []=>[]
 | x::r=>x::match Qp r with
  | []=>[]
  | y::s=>if x=y then s else y::s
theorem compP_mem {z:P2}:∀ {l:List P2},z∈Qp l ↔ z∈l
 | []=>bN
 | x::r=>by
  have a:=compP_mem (z:=z) (l:=r);rw[Qp];cases h:Qp r with
  | nil=>rw[h]at a;simp only[dc,false_iff]at a;simp[a]
  | cons y s=>rw[h]at a;simp only;split;rename_i e;subst e;simp only[br]at a ⊢;constructor;exact λh=>h.elim .inl λh=>.inr (a.1 (.inr h));exact λh=>h.elim .inl λh=>a.2 h;simp only[br]at a ⊢;rw[a]
theorem jpw:∀ {l:List P2},l.Pairwise (λa b=>QA a b=true)->(Qp l).Pairwise pLt
 | [],_=>List.Pairwise.nil
 | x::r,h=>by
  rw[bR]at h;have d:=jpw h.2;rw[Qp];cases i:Qp r with
  | nil=>exact fB _ _
  | cons y s=>rw[i]at d;rw[bR]at d;have j:y∈r:=compP_mem.1 (by rw[i];exact aP ..);have f:=pairLe_iff.1 (h.1 y j);simp only;split;rename_i e;subst e;exact bR.2 d;rename_i e;have c:pLt x y:=f.resolve_right e;rw[bR];refine⟨λz g=>?_,bR.2 d⟩;rcases br.1 g with rfl|g;exact c;exact Y1 c (d.1 z g)
theorem je7:∀ {l m:List P2},l.Pairwise pLt->m.Pairwise pLt->(∀z,z∈l ↔ z∈m)->l=m
 | [],[],_,_,_=>rfl
 | [],y::m,_,_,h=>absurd ((h y).2 (aP ..)) dc
 | x::l,[],_,_,h=>absurd ((h x).1 (aP ..)) dc
 | x::l,y::m,h1,h2,h=>by
  rw[bR]at h1 h2;have c:=br.1 ((h x).1 (aP ..));have b:=br.1 ((h y).2 (aP ..));have e:x=y:=by rcases c with e|c;exact e;rcases b with e|b;exact e.symm;exact absurd (Y1 (h1.1 y b) (h2.1 x c)) (XR _)
  subst e;rw[je7 h1.2 h2.2 λz=>?_];constructor;intro a;rcases br.1 ((h z).1 (bf _ a)) with e|h';subst e;exact absurd (h1.1 z a) (XR _);exact h';intro a;rcases br.1 ((h z).2 (bf _ a)) with e|h';subst e;exact absurd (h2.1 z a) (XR _);exact h'
def jY (N:Nat) (p:Nat->Nat->Bool):List P2:=(List.range N).flatMap λa=>((List.range N).filter (p a)).map λb:Nat=>((a:Int),(b:Int))
theorem edgesOf_mem {N:Nat}{p:Nat->Nat->Bool}{z:P2}:z∈jY N p ↔ ∃a b:Nat,a<N/\b<N/\p a b=true/\z=((a:Int),(b:Int)):=by unfold jY;simp only[cg,aH,aJ,bV];constructor;rintro⟨a,d,b,⟨e,c⟩,rfl⟩;exact⟨a,b,d,e,c,rfl⟩;rintro⟨a,b,d,e,c,rfl⟩;exact⟨a,d,b,⟨e,c⟩,rfl⟩
theorem jcw (N:Nat) (p:Nat->Nat->Bool):(jY N p).Pairwise pLt:=by unfold jY;rw[List.pairwise_flatMap];refine⟨λa _=>?_,?_⟩;rw[List.pairwise_map];refine(gZ.filter _).imp fun {b c} h=>?_;exact Or.inr ⟨rfl,ic.2 h⟩;refine gZ.imp fun {a b} h x e y d=>?_;obtain⟨_,_,rfl⟩:=aJ.1 e;obtain⟨_,_,rfl⟩:=aJ.1 d;exact Or.inl (ic.2 h)
theorem jwn {N:Nat}{p:Nat->Nat->Bool}{l:List P2}(h:∀z,z∈l ↔ ∃a b:Nat,a<N/\b<N/\p a b=true/\z=((a:Int),(b:Int))):Qp (Qk l)=jY N p :=
 je7 (jpw (jig l)) (jcw N p) λz=>by rw[compP_mem,(X8 l).mem_iff,h,edgesOf_mem]
end Go.Pv.T
namespace Go.Pv
open Go
theorem jh9 {e d:Type}{f:e->Option (List d)}:∀ {l:List e}{r:List d},Qy f l=some r->∀y∈r,∃x∈l,∃c,f x=some c/\y∈c
 | [],r,h,y,hy=>by cases h;cases hy
 | [x'],r,h,y,hy=>⟨x',ae.2 rfl,r,h,hy⟩
 | x'::y'::l,r,h,y,hy=>by simp only[Qy]at h;obtain⟨a,g,h⟩:=bind_some h;obtain⟨b,k,rfl⟩:=map_some h;rcases aO.1 hy with hy|hy;exact⟨x',aP ..,a,g,hy⟩;obtain⟨x,m,c,j,i⟩:=jh9 k y hy;exact⟨x,bf _ m,c,j,i⟩
theorem jb2 {b a:Type}{m:Option (List b)}{f:b->Option (List a)}{r:List a}(h:bindL m f=some r):∃l,m=some l/\∀y∈r,∃x∈l,∃c,f x=some c/\y∈c:=by obtain⟨l,d,h⟩:=bind_some h;exact⟨l,d,jh9 h⟩
section
variable {E:Env}
theorem jsx {b:Callers}{o:AOpr}{st:St}{ub:Nat}{l:List (St × Nat)}(h:step E b o st ub=some l):∀x∈l,x.1.ro=st.ro:=by intro x a;unfold step at h;split at h;split at h;obtain⟨_,_,rfl⟩:=map_some h;rw[ae]at a;subst a;rfl;split at h;split at h;obtain⟨_,_,rfl⟩:=map_some h;obtain⟨_,_,rfl⟩:=aJ.1 a;rfl;obtain⟨_,_,rfl⟩:=map_some h;rw[ae]at a;subst a;rfl;split at h;obtain⟨_,_,rfl⟩:=map_some h;obtain⟨_,_,rfl⟩:=aJ.1 a;rfl;obtain⟨_,_,rfl⟩:=map_some h;rw[ae]at a;subst a;rfl;cases h;rw[ae]at a;subst a;rfl;cases h
theorem jt4 {a:Callers}:∀ {ops:List AOpr}{st:St}{ub:Nat}{l:List St},jiu E a ops st ub=some l->∀x∈l,x.ro=st.ro
 | [],st,ub,l,h,x,hx=>by cases h;rw[ae]at hx;subst hx;rfl
 | o::r,st,ub,l,h,x,hx=>by simp only[jiu]at h;obtain⟨g,e,c⟩:=jb2 h;obtain⟨p,b,i,f,d⟩:=c x hx;rw[jt4 f x d,jsx e p b]
theorem Wp {b:Callers}:∀ {ops:List AOpr}{st:St}{ub:Nat}{p:List FP × St},YI E b ops st ub=some p->p.2.ro=st.ro
 | [],st,ub,p,h=>by cases h;rfl
 | o::r,st,ub,p,h=>by unfold YI at h;split at h;split at h;split at h;split at h;obtain⟨c,_,h⟩:=bind_some h;obtain⟨q,a,rfl⟩:=map_some h;have:=Wp a;exact this;obtain⟨c,_,h⟩:=bind_some h;obtain⟨q,a,rfl⟩:=map_some h;have:=Wp a;exact this;obtain⟨c,_,h⟩:=bind_some h;obtain⟨q,a,rfl⟩:=map_some h;have:=Wp a;exact this;split at h;cases h;obtain⟨c,_,h⟩:=bind_some h;obtain⟨q,a,rfl⟩:=map_some h;have:=Wp a;exact this;obtain⟨q,a,rfl⟩:=map_some h;have:=Wp a;exact this;cases h
theorem jje {u:Y->Callers}{y:Y}{N:Nat}:∀ (c:C) {st:St}{l:List (Ex × St)},je E u y N c st=some l->∀x∈l,x.2.ro=st.ro:=by
 intro c;induction c with
 | skip=>intro st l h x d;cases h;rw[ae]at d;subst d;rfl
 | ret=>intro st l h x d;cases h;rw[ae]at d;subst d;rfl
 | exit id=>intro st l h x d;cases h;rw[ae]at d;subst d;rfl
 | stuck=>intro st l h;cases h
 | region H=>intro st l h x d;simp only[je]at h;obtain⟨D,j,rfl⟩:=map_some h;obtain⟨s,m,rfl⟩:=aJ.1 d;exact jt4 j s m
 | pin o fs=>intro st l h x d;simp only[je]at h;obtain⟨D,j,t⟩:=jb2 h;obtain⟨p,z,I,k,g⟩:=t x d;obtain⟨q,L,K⟩:=bind_some k;simp only[aC,ab]at K;obtain⟨_,rfl⟩:=K;rw[ae]at g;subst g;exact(Wp L).trans (jsx j p z)
 | draw H free=>intro st l h x d;simp only[je]at h;obtain⟨p,j,t⟩:=bind_some h;simp only[aC,ab]at t;obtain⟨_,rfl⟩:=t;rw[ae]at d;subst d;exact Wp j
 | seq a b w B=>
  intro st l h x d;simp only[je]at h;obtain⟨D,j,t⟩:=jb2 h;obtain⟨p,z,I,k,g⟩:=t x d;obtain⟨e,s⟩:=p;have m:=w j _ z;cases e with
  | nrm=>exact(B k x g).trans m
  | exit i=>cases k;rw[ae]at g;subst g;exact m
  | ret=>cases k;rw[ae]at g;subst g;exact m
 | cond q a b w B=>intro st l h x d;simp only[je]at h;split at h;exact w h x d;exact B h x d;cases h
 | block id a J=>
  intro st l h x d;simp only[je]at h;obtain⟨D,j,rfl⟩:=map_some h;obtain⟨p,z,rfl⟩:=aJ.1 d;have:=J j p z;obtain⟨e,s⟩:=p;cases e with
  | nrm=>exact this
  | ret=>exact this
  | exit i=>simp only;split <;> exact this
 | loop a J=>
  intro st l h x d;simp only[je]at h;have G:∀ (n:Nat) (st:St) (l:List (Ex × St)),jbl (je E u y N a) n st=some l->∀x∈l,x.2.ro=st.ro:=by
   intro n;induction n with
   | zero=>intro st l h;cases h
   | succ n F=>
    intro st l h x d;simp only[jbl]at h;obtain⟨D,j,t⟩:=jb2 h;obtain⟨p,z,I,k,g⟩:=t x d;obtain⟨e,s⟩:=p;have m:=J j _ z;cases e with
    | nrm=>exact(F s I k x g).trans m
    | exit i=>cases k;rw[ae]at g;subst g;exact m
    | ret=>cases k;rw[ae]at g;subst g;exact m
  exact G N st l h x d
 | rangeFunc f M a b=>
  intro st l h x d;simp only[je]at h;split at h;case h_2=>cases h
  obtain⟨p,_,h⟩:=bind_some h;obtain⟨r,ob,O,P⟩:=p;simp only at h;split at h;case h_2=>cases h
  simp only[aC,ab]at h;obtain⟨_,rfl⟩:=h;rw[ae]at d;subst d;rfl
end
section
variable {P:Program}{E:Env}{nt:Nat}{γ:Nat->Option Place}{I:IMap}{w0:World}{I0:IMap}{call:Callers}{st:St}{ub:Nat}{a:Act}{w:World}{ops:Array Oper}{als:List AOpr}{free:List (Nat × Nat)}{fps:List FP}
theorem mid_ok {m:Bool}{rn:Option Nat}{γ0:Nat->Option Place}{Iy:IMap}{Q:Exit->Act->World->Prop}{c:Nat}{ac:AOpr}{S:St}{c7:List St}(M:juw ops als c=true) (b5:als[c]? = some ac)
 (c0:COk P E γ0 Iy call) (f7:SubG γ0 γ) (g6:SubI Iy I) (X:ops.toList.mapM (Jf P m ops)=some als) (B:Y7 ops als=some free) (G:∀ao∈als,∀d,ao.dst=some d->d<nt)
 (hd:YI E call (als.take c) st ub=some (fps,S)) (f8:X5 free fps=true) (f4:jah fps=true) (hl:jiu E call [ac] S S.nx=some c7)
 (hx:∀s1∈c7,∃p,YI E call (List.replicate (c+1) jix++als.drop (c+1)) s1 s1.nx=some p/\X5 free p.1=true/\jah p.1=true/\Nice E w0 I0 nt γ I p.2 p.2.nx (λa w=>Q .normal a w))
 (hR:R E w0 I0 nt γ I st a w) (hf:∀u,ub<=u->γ u=none):wpAnyIn (FW rn) 0 P .any ops Q ops.size (Array.replicate ops.size false) a w:=by
 obtain⟨J,d5⟩:=jy X
 have J:als.length=ops.size:=by rw[J,aL]
 obtain⟨y,e8⟩:=Xv B J
 have i5:c<als.length:=(ak.1 b5).1
 unfold juw at M
 simp only[ai,b5]at M
 obtain⟨⟨⟨_,O⟩,d3⟩,_⟩:=M
 have O:∀i,i<c->((JF ops.toList []).getD c 0).testBit i=true:=λi z=>aw.1 O i (aH.2 z)
 have b7:∀j,c<j->j<ops.size->∀i,i<=c->((JF ops.toList []).getD j 0).testBit i=true:=by
  intro j F h2 i z
  have:=aw.1 d3 j (aH.2 zO)
  have g8:Nat.ble j c=false:=by
   cases h:Nat.ble j c with
   | false=>rfl
   | true=>have:=eF h;omega
  rw[g8,cp,ai]at this
  exact aw.1 this.1 i (aH.2 zO)
 have T:∀i d,(Array.replicate ops.size false).getD i d=if i<ops.size then false else d:=by
  intro i d
  by_cases z:i<ops.size <;> simp[z]
 have k:∀ (f:Array Bool) (i:Nat),i<f.size->f.getD i true=f.getD i false:=by
  intro f i z
  simp[z]
 obtain⟨b8,f6,rfl⟩:=XM _ _ _ _ _ hd
 have c5:jO (λi=>(Array.replicate ops.size false).getD i false) b8 st=st:=by
  have:(λi=>(Array.replicate ops.size false).getD i false)=λ_=>false:=funext λi=>by rw[T];split <;> rfl
  rw[this]
  exact Xu _ _
 have e5:(als.take c).length=c:=by rw[ap];omega
 refine jgh (bb:=false) (w0:=w0) (I0:=I0) (kk:=c) (al':=als.take c) (sp:=λ_=>false) zO e5 (λi ao z _ h=>by rw[ct,if_pos z];exact h) (λ_ _ h=>by cases h)
  (λj F h2 i h3=>?_) c0 X B f6 f8 f4 G (γ:=γ) (I:=I) (λ_ _ _ _ _ _ _ h=>by cases h) (λi6 I' a' w' n f f2 hm _ i3 f1 f0 d0 e1=>?_) ops.size (Array.replicate ops.size false) γ I a w zS
  (λj o K L=>?_) (λj L=>by rw[T];split <;> rfl) (λ_ h=>by cases h) zS (by rw[c5];exact hR) (λu hu=>hf u zO) (λj L u F h2=>hf u zO) (λ_ _ h=>h) (λ_ _ _ h=>h)
 ·rcases fY F with h|h
  ·exact b7 j h h2 i zO
  ·subst h
   exact O i h3
 rotate_left
 ·simp only[T]at L
  split at L <;> cases L
 -- the call
 have c2:c<ops.size:=zO
 have H:c<f.size:=zO
 have i2:jdp ops (λi=>f.getD i false):=by
  intro i o K hd e he hb
  simp only[hm,decide_eq_true_eq]at hd ⊢
  have:=y i o K e he hb
  omega
 have c6:∀i,i∈Region.ready .any ops f->i=c:=by
  intro i z
  obtain⟨h0,o,K,h7⟩:=mem_ready.1 z
  have g0:i<ops.size:=(aM.1 K).1
  rw[k f i zO,hm i]at h0
  have F:c<=i:=by simpa using h0
  rcases fY F with h|h
  ·have:=Yc (D:=λi=>f.getD i false) y i2 K h7 (b7 i h zO c zK)
   simp only[hm,decide_eq_true_eq]at this
   omega
  ·exact h.symm
 have g1:c∈Region.ready .any ops f:=mem_ready.2 ⟨by rw[k f c H,hm c];simp,ops[c],aA c2,λe he hb=>by
  have:=y c _ (aA c2) e he hb
  rw[hm e.on]
  exact decide_eq_true this⟩
 have U:=aI b5
 have K:=aA c2
 generalize ops[c]=o at K
 have Z:Jf P m ops o=some ac:=d5 c o ac (by rw[bn];exact K) b5
 have d7:f[c]? = some false:=by
  have F:=hm c
  rw[aA H]
  simp only[dh,aA H,cw]at F
  rw[F]
  simp
 cases n with
 | zero=>
  have U:false∈f.toList:=dg.2 (eH d7)
  have:=ek.2 U
  omega
 | succ n=>
 refine⟨(λhr=>absurd (hr▸g1) dc),λi z=>?_⟩
 rw[c6 i z]
 unfold wpOpIn
 simp only[K]
 simp only[jiu]at hl
 obtain⟨l,hl,f9⟩:=Jh hl
 refine jid c0 (f7.trans d0) (g6.trans e1) (f1.congr (st':={ jO (λ_=>true) b8 st with nx:=ub+64*(als.take c).length }) rfl rfl rfl rfl rfl) (λu hu=>f0 u (by rw[e5]at hu;exact hu)) Z (by rw[<- (XO Z).1];exact G ac U) hl (λx g2=>?_)
 obtain⟨rx,e3,e2⟩:=f9 x g2
 simp only[ab]at e3
 subst e3
 obtain⟨p,hp,e6,e7,d1⟩:=hx _ (e2 _ (ae.2 rfl))
 intro d9 I2 a2 w2 g9 d6 i0 h6
 simp only at hp
 obtain⟨i4,S2⟩:=p
 obtain⟨q,N,rfl⟩:=XM _ _ _ _ _ hp
 simp only at e6 e7 d1
 have c1:(f.setIfInBounds c true).toList.count false<=n:=by
  have hg:f.toList[c]? = some false:=by rw[bn];exact d7
  have e4:c<f.toList.length:=by simpa using H
  rw[dU,eW e4]
  rw[aa e4]at hg
  simp only[ab]at hg
  rw[hg]
  simp only[beq_self_eq_true,if_true]
  have:(true == false)=false:=rfl
  rw[this]
  simp only[aj,if_false]
  omega
 have b0:∀i,(f.setIfInBounds c true).getD i false=decide (i<=c):=by
  intro i
  by_cases c9:i=c
  ·subst c9
   simp[H]
  ·rw[getD_set_ne false (dV c9),hm i]
   exact decide_eq_decide.2 ⟨λh=>by omega,λh=>by omega⟩
 have d4:(f.setIfInBounds c true).size=ops.size:=by simpa using f2
 generalize f.setIfInBounds c true=listed2 at *
 -- what is behind it
 have c3:(List.replicate (c+1) jix++als.drop (c+1)).length=als.length:=by simp;omega
 have i7:q.length=als.length:=N.len.trans c3
 have d8:∀i,i<=c->q[i]? = some (none,{ v:=ju }):=by
  intro i z
  obtain⟨δ,fp,F,h2,h3⟩:=N.at' i jix (by rw[aV (by simp;omega),gU,if_pos zO])
  have:δ = { v:=ju }:=by
   obtain⟨h4,_⟩:=jaz h3 rfl
   rcases h4 with⟨_,h4⟩|⟨h4,h5⟩
   ·cases h4;rfl
   ·exact h5
  rw[F,this];rfl
 have a0:∀ {β:Type}{π:St->β}{wr:Eff->Bool}{g:Eff->β}(s0:St),(∀ (s:St) (e:Eff),π (s.app e.1 e.2)=if wr e then g e else π s)->wr (none,{ v:=ju })=false ->
  π (jO (λi=>listed2.getD i false) q s0)=π s0:=by
  intro β π wr g s0 f5 hw
  have:=XF f5 q (λi=>listed2.getD i false) (λ_=>false) s0 s0 (λi e he c8=>?_) rfl
  ·rw[this,Xu]
  ·rw[b0]
   by_cases d2:i<=c
   ·rw[d8 i d2]at he
    cases he
    rw[hw]at c8
    cases c8
   ·exact decide_eq_false d2
 have b6:=J6 q (λi=>listed2.getD i false) { x.1 with nx:=x.2 }
 refine jgh (bb:=true) (w0:=w0) (I0:=I0) (kk:=als.length) (al':=List.replicate (c+1) jix++als.drop (c+1)) (sp:=λi=>decide (i<=c)) zK c3 (λi ao z hs h=>?_) (λi _ h=>d8 i (of_decide_eq_true h))
  (λj F h2 i h3=>by omega) c0 X B N e6 e7 G (γ:=d9) (I:=I2) (λi n f c4 I3 a3 w3 f3 _ b9 _ _ e0 _ _ _ _ _ i1=>?_) (λc4 I3 a3 w3 n f b9 h9 _ _ e9 g3 g5 g7=>?_) n listed2 d9 I2 a2 w2 d4
  (λj oj g4 L e he hb=>?_) (λj L=>?_) (λj L=>?_) c1 ?_ (λu hu=>d6 u zO) (λj L u F h2=>d6 u zO) (λ_ _ h=>h) (λ_ _ _ h=>h)
 ·have F:¬ i<=c:=of_decide_eq_false hs
  rw[bp (by simp;omega),List.length_replicate,bw,show c+1+(i - (c+1))=i by omega]
  exact h
 ·obtain⟨h0,o3,h8,_⟩:=mem_ready.1 i1
  have:i<f.size:=by rw[b9];exact(aM.1 h8).1
  rw[k f i this,e0 i f3]at h0
  cases h0
 ·have hr:Region.ready .any ops f=[]:=by
   cases hr:Region.ready .any ops f with
   | nil=>rfl
   | cons i r=>
    have z:i∈Region.ready .any ops f:=by rw[hr];exact aP ..
    obtain⟨h0,o,K,_⟩:=mem_ready.1 z
    have g0:i<ops.size:=(aM.1 K).1
    rw[k f i zO,h9 i,decide_eq_true zO]at h0
    cases h0
  have hQ:=d1 c4 I3 a3 w3 (e9.congr rfl rfl rfl rfl rfl) (λu hu=>g3 u (by simp only[c3]at hu;exact hu)) (λu p h=>g5 u p (i0 u p (d0 u p h))) (λb o x h=>g7 b o x (h6 b o x (e1 b o x h)))
  cases n with
  | zero=>exact⟨hr,hQ⟩
  | succ n=>exact⟨λ_=>hQ,λi z=>by rw[hr]at z;cases z⟩
 ·simp only[b0,decide_eq_true_eq]at L ⊢
  have:=y j oj g4 e he hb
  omega
 ·rw[b0]
  exact decide_eq_false zO
 ·rw[b0]
  exact L
 ·refine g9.congr (funext λt=>?_) (funext λl=>?_) (funext λu=>?_) ?_ ?_
  ·exact a0 (π:=λs=>s.tm t) (wr:=wrT t) (g:=λe=>e.2.v) _ (jaw t) rfl
  ·exact a0 (π:=λs=>s.ob l) (wr:=wrO l) (g:=λe=>JS (λ_=>none) e.2.obs l) _ (jdc l) rfl
  ·exact a0 (π:=λs=>s.tk u) (wr:=wrK u) (g:=λe=>e.2.add.contains u) _ (jgv u) rfl
  ·exact b6.2.2.1
  ·exact b6.2.2.2
end
def exOf:Ex->Exit
 | .nrm=>.normal
 | .exit id=>.exit id
 | .ret=>.ret
section
variable {P:Program}{E:Env}{nt:Nat}{call:Y->Callers}
def jw5 (P:Program) (E:Env) (nt:Nat) (call:Y->Callers) (y:Y) (N:Nat) (γ0:Nat->Option Place) (Iy:IMap) (c:Code) (ac:C) (rn:Option Nat):Prop :=
 ∀ (w0:World) (I0:IMap) (Q:Exit->Act->World->Prop) (st:St) (l:List (Ex × St)) (γ:Nat->Option Place) (I:IMap) (a:Act) (w:World),SubG γ0 γ->SubI Iy I ->
  je E call y N ac st=some l->R E w0 I0 nt γ I st a w->(∀u,st.nx<=u->γ u=none)->(∀x∈l,Nice E w0 I0 nt γ I x.2 x.2.nx (λa w=>Q (exOf x.1) a w))->c.wpIn (FW rn) 0 P Q a w
theorem jte {y:Y}{N:Nat}{γ0 o:Nat->Option Place}{Iy I1:IMap}{asg bd:C}{ca cb:Code}{st:St}{L lb ub:Nat}{rec:Loop}{ps:Array Nat}
 (ha:jw5 P E nt call y N γ0 Iy ca asg (some L)) (hb:jw5 P E nt call y N γ0 Iy cb bd (some L)) (hg:SubG γ0 o) (hI:SubI Iy I1) (hu:o ub=some (.obj L (.lp rec)))
 (d9:∀t,Rep o I1 (rec.tmps.getD t undef) (st.tm t)) (b6:rec.tmps.size=nt) (d1:rec.params=ps) (d4:∀p∈ps.toList,p<nt) (d5:rec.assign=ca) (e0:rec.body=cb) :
 YOk P E o I1 (Qr (je E call y N asg) (je E call y N bd) st ps.toList lb ub):=by
 intro l' u' args f6 f7 f5 e6 r ob' b8 d0 d
 unfold Qr at d
 simp only[aC]at d
 obtain⟨⟨f4,e5,D,c5⟩,d⟩:=d
 subst l'
 subst u'
 split at d
 case h_2=>cases d
 rename_i u1 b0
 simp only[aC]at d
 obtain⟨e5,d⟩:=d
 subst u1
 split at d
 case h_2=>cases d
 rename_i s1 b7
 split at d
 case h_2=>cases d
 rename_i u2 F
 simp only[aC]at d
 obtain⟨f2,d⟩:=d
 subst u2
 split at d
 case h_2=>cases d
 rename_i e s2 c0
 split at d
 case h_2=>cases d
 rename_i u3 B
 simp only[aC]at d
 obtain⟨f3,d⟩:=d
 subst u3
 intro w0 w I0 I γ xs Z b k m O b9 c2 d2 c6 e4 c4 X c8
 rw[m _ _ hu]at c8
 cases c8
 subst b9
 subst c2
 subst d2
 have K:=m _ _ hu
 obtain⟨r0,i,S⟩:=jhj c6 b0 K
 cases i
 have e7:=run_yield (P:=P) (args:=xs) S (by show xs.size=rec.params.size;rw[d1,c4,D];simp)
 refine⟨_,_,_,_,e7,?_⟩
 simp only[d5,e0]
 have c9:∀p∈ps.toList,p<rec.tmps.size:=by rw[b6];exact d4
 have J:=jj5 (γ:=γ) (I:=I) ps.toList args xs.toList rec.tmps st.tm (by simpa using c4) D c9 (λt=>(d9 t).mono m O) (λj x v f hv=>X j x v (by simpa using f) hv)
 have Q:(rec.params.zip xs).foldl (λtmps (t,a)=>tmps.setIfInBounds t a) rec.tmps=(ps.toList.zip xs.toList).foldl (λtmps (t,a)=>tmps.setIfInBounds t a) rec.tmps:=by
  rw[d1,<- Array.foldl_toList,Array.toList_zip]
 refine roundIn_of_wpIn trivial ?_
 show Code.wpIn (FW (some L)) 0 P _ _ _ _
 have e8:R E w0 I0 nt γ I { tm:=jet st.tm ps.toList args,ob:=Z.ob,tk:=Z.tk,ro:=Z.ro,nx:=e6,fb:=st.fb,df:=[] } { tmps:=(rec.params.zip xs).foldl (λtmps (t,a)=>tmps.setIfInBounds t a) rec.tmps,defers:=[] } w:=by
  rw[Q]
  exact⟨J.1.trans b6,trivial,J.2,c6.congr rfl rfl rfl⟩
 refine ha w0 I0 _ _ _ γ I _ w (hg.trans m) (hI.trans O) b7 e8 e4 (λx f=>?_)
 rw[ae]at f
 subst f
 intro a0 I2 a2 w2 n f1 U b5
 -- the round begins
 have g:=U _ _ K
 obtain⟨r0,i,u⟩:=jhj n.sh F g
 cases i
 have e9:=run_beginRound (P:=P) u rfl
 refine⟨_,e9,?_⟩
 show Code.wpIn (FW (some L)) 0 P _ _ _ _
 have z:s1.ro=Z.ro:=jje _ b7 _ (ae.2 rfl)
 have c1:=n.sh.turn (ob':=upd s1.ob lb (some ⟨ub,.loop .busy none⟩)) (o':=.loop { rec with state:=.busy,pending:=none }) F g (by rw[z];exact c5) (λl2 x f=>by
  rw[j5]at f
  split at f
  ·rename_i M;subst M;cases f;exact .inr ⟨rfl,rfl,⟨rec,rfl,rfl⟩,λ_ _ h=>by cases h⟩
  ·rename_i M;exact .inl ⟨M,f⟩)
 have d7:R E w0 I0 nt a0 I2 { s1 with ob:=upd s1.ob lb (some ⟨ub,.loop .busy none⟩) } a2 (w2.putObj L (.loop { rec with state:=.busy,pending:=none })):=⟨n.sz,n.df,n.tm,c1⟩
 refine hb w0 I0 _ _ _ a0 I2 _ _ ((hg.trans m).trans U) ((hI.trans O).trans b5) c0 d7 f1 (λx f=>?_)
 rw[ae]at f
 subst f
 intro d3 I3 a3 w3 c7 f0 c3 d8
 have l:=c3 _ _ g
 obtain⟨r0,i,q⟩:=jhj c7.sh B l
 cases i
 have G:s2.ro=Z.ro:=(jje _ c0 _ (ae.2 rfl)).trans z
 -- the round ends
 have T:∀ (c:Option Ex) (s:LS),lsOf s=(if (c.map Qv).isNone then .ready else .done)->some (V.bool (c.map Qv).isNone,upd s2.ob lb (some ⟨ub,.loop s c⟩),s2.tk,s2.nx)=some (r,ob',b8,d0) ->
  ∃v w',(Instr.endRound L (c.map Qv)).run P w3=.ok v w'/\WQ E w0 I0 γ I Z.ro r ob' b8 d0 (.returned v) w':=by
  intro c s hs he
  cases he
  have d6:=run_endRound (P:=P) (c.map Qv) q
  refine⟨_,_,d6,.bool (c.map Qv).isNone,d3,I3,rfl,λf8 e1 e2 e3=>?_,.pure _ _ (.bool _),SubG.trans U c3,SubI.trans b5 d8,f0⟩
  have H:=c7.sh.turn (ob':=upd s2.ob lb (some ⟨ub,.loop s c⟩)) (o':=.loop { rec with state:=lsOf s,pending:=c.map Qv }) B l (by rw[G];exact c5) (λl2 x f=>by
   rw[j5]at f
   split at f
   ·rename_i M;subst M;cases f;exact .inr ⟨rfl,rfl,⟨rec,rfl,rfl⟩,λ_ _ h=>by cases h⟩
   ·rename_i M;exact .inl ⟨M,f⟩)
  rw[hs]at H
  exact H.congr e1 e2 (e3.trans G.symm)
 cases e with
 | nrm=>exact T none .ready rfl d
 | ret=>exact T (some .ret) .done rfl d
 | exit id=>exact T (some (.exit id)) .done rfl d
theorem Qx {l:List AOpr}{n:Nat}(h:(l.all λo=>match o.dst with|some d=>Nat.blt d n|none=>true)=true):∀b∈l,∀d,b.dst=some d->d<n:=by intro b c d a;have:=aw.1 h b c;simp only[a]at this;simpa[dp] using this
theorem Yx (ops:Array Oper):∀n,jt ops n<=n/\∀j,jt ops n<=j->j<n->∀i,i<j->((JF ops.toList []).getD j 0).testBit i=true
 | 0=>⟨zK,λj _ h=>by omega⟩
 | n+1=>by
  obtain⟨g,f⟩:=Yx ops n;have e:jt ops (n+1)=if (List.range n).all λi=>((JF ops.toList []).getD n 0).testBit i then jt ops n else n+1:=by unfold jt;rw[db,fo];rfl
  rw[e];split;rename_i a;refine⟨zO,λj c b i d=>?_⟩;rcases aQ.1 b with h|rfl;exact f j c h i d;exact aw.1 a i (aH.2 d);exact⟨zK,λj c b=>by omega⟩
theorem jil (ops:Array Oper) (n:Nat):jt ops n<=n:=(Yx ops n).1
theorem jeu (ops:Array Oper) (n:Nat):∀j,jt ops n<=j->j<n->∀i,i<j->((JF ops.toList []).getD j 0).testBit i=true:=(Yx ops n).2
theorem jt7 {b:Type}{x:Option (List b)}{a:b}(h:only x=some a):x=some [a]:=by unfold only at h;split at h;cases h;rfl;cases h
theorem jnu (hm:P.follows .mixedOrders=true) (c6:jl8 P E call) (N:Nat) {y:Y}{γ0:Nat->Option Place}{Iy:IMap}(hy:YOk P E γ0 Iy y) :
 ∀ (c:Code) (ac:C) (m r:Bool) (rn:Option Nat),(r=true\/rn=none)->comp P m r c=some ac->ac.dstOk nt=true->jw5 P E nt call y N γ0 Iy c ac rn:=by
 intro c
 induction c with
 | skip=>
  intro ac m r rn K F T w0 I0 Q b l γ I a w G H D O X Z
  cases F
  cases D
  exact wpIn_skip (Z _ (ae.2 rfl) γ I a w O X (λ_ _ h=>h) (λ_ _ _ h=>h))
 | ret=>
  intro ac m r rn K F T w0 I0 Q b l γ I a w G H D O X Z
  cases F
  cases D
  exact wpIn_ret (Z _ (ae.2 rfl) γ I a w O X (λ_ _ h=>h) (λ_ _ _ h=>h))
 | exit id=>
  intro ac m r rn K F T w0 I0 Q b l γ I a w G H D O X Z
  cases F
  cases D
  exact wpIn_exit (Z _ (ae.2 rfl) γ I a w O X (λ_ _ h=>h) (λ_ _ _ h=>h))
 | region id J drawn=>
  intro ac m r rn K F T w0 I0 Q b l γ I a w G H D O X Z
  cases drawn with
  | false=>
   simp only[comp]at F
   obtain⟨B,a0,rfl⟩:=map_some F
   simp only[je]at D
   obtain⟨d9,c1,rfl⟩:=map_some D
   exact wpIn_region_list (jt5 (c6 _ _ _ hy) _ B a0 (Qx T) γ I b a w b.nx d9 G H O X c1 (λc2 c5=>Z _ (aJ.2 ⟨c2,c5,rfl⟩)))
  | true=>
   simp only[comp]at F
   obtain⟨B,a0,F⟩:=map_some F
   split at F
   case h_2=>subst F;cases D
   rename_i free b6
   obtain⟨f6,_⟩:=jy a0
   have f6:B.length=J.size:=by rw[f6,aL]
   have U:∀i d,(Array.replicate J.size false).getD i d=if i<J.size then false else d:=by
    intro i d
    by_cases hi:i<J.size <;> simp[hi]
   split at F
   ·generalize hk:jt J B.length=k at F
    have k5:k<=B.length:=hk▸jil J B.length
    have e5:∀j,k<=j->j<J.size->∀i,i<j->((JF J.toList []).getD j 0).testBit i=true:=λj h1 h2=>jeu J B.length j (by rw[hk];exact h1) zO
    split at F
    ·rename_i c b9
     obtain⟨_,b9⟩:=cE.1 b9
     have o0:c+1<k:=by
      unfold jyr at b9
      simp only[ai,dp]at b9
      exact b9.1.1.1
     have b8:=aa (show c<B.length by omega)
     have g2:B.getD c jix=B[c]' zO:=by rw[ag,b8];rfl
     subst F
     rw[g2]at D T
     generalize B[c]' zO=d7 at *
     simp only[je]at D
     obtain⟨l1,h1,h2⟩:=Jh D
     obtain⟨⟨e4,S⟩,c1,h1⟩:=bind_some h1
     simp only[aC,ab]at h1
     obtain⟨M,rfl⟩:=h1
     rw[ai]at M
     obtain⟨rx,h3,h4⟩:=h2 _ (ae.2 rfl)
     simp only at h3
     obtain⟨l2,h5,h6⟩:=Jh h3
     obtain⟨l3,h7,h8⟩:=Jh h5
     have d8:∀ao∈B,∀d,ao.dst=some d->d<nt:=by
      simp only[C.dstOk,ai]at T
      obtain⟨d1,d2,d3⟩:=T
      intro ao e0
      obtain⟨i,hi,rfl⟩:=bH e0
      by_cases n3:i<k
      ·by_cases d0:i=c
       ·subst d0
        have:B[i]=d7:=by rw[aa hi]at b8;simpa using b8
        rw[this]
        exact Qx d2 d7 (aP ..)
       ·refine Qx d1 _ (aI (i:=i) ?_)
        rw[cN (dV d0),ct,if_pos n3,aa hi]
      ·refine Qx d3 _ (aI (i:=i - k) ?_)
       rw[bw,show k+(i - k)=i by omega,aa hi]
     refine wpIn_region_any hm (j8j (w0:=w0) (I0:=I0) k5 e5 b9 b8 (c6 _ _ _ hy) G H a0 b6 d8 c1 M.1 M.2 h7 (λx hx=>?_) (O.drawn _) X)
     obtain⟨o1,h9,m3⟩:=h8 x hx
     obtain⟨p,hp,k8⟩:=bind_some h9
     simp only[aC,ab]at k8
     obtain⟨g7,rfl⟩:=k8
     obtain⟨l6,e9,g3⟩:=h6 _ (m3 _ (ae.2 rfl))
     simp only at e9
     obtain⟨d9,c4,rfl⟩:=map_some e9
     exact⟨p,d9,hp,g7,c4,λc2 c5=>Z _ (h4 _ (g3 _ (aJ.2 ⟨c2,c5,rfl⟩)))⟩
    subst F
    simp only[je]at D
    obtain⟨l1,h1,h2⟩:=Jh D
    obtain⟨⟨e4,c2⟩,c1,h1⟩:=bind_some h1
    simp only[aC,ab]at h1
    obtain⟨M,rfl⟩:=h1
    rw[ai]at M
    obtain⟨M,g5⟩:=M
    obtain⟨rx,h3,h4⟩:=h2 _ (ae.2 rfl)
    simp only at h3
    obtain⟨d9,c4,rfl⟩:=map_some h3
    obtain⟨d5,g6,rfl⟩:=XM (B.take k) b b.nx e4 c2 c1
    have d8:∀ao∈B,∀d,ao.dst=some d->d<nt:=by
     simp only[C.dstOk,ai]at T
     intro ao e0
     rw[<- fN k B]at e0
     rcases aO.1 e0 with h|h
     ·exact Qx T.1 ao h
     ·exact Qx T.2 ao h
    have e6:jO (λi=>(Array.replicate J.size false).getD i false) d5 b=b:=by
     have:(λi=>(Array.replicate J.size false).getD i false)=λ_=>false:=funext λi=>by rw[U];split <;> rfl
     rw[this]
     exact Xu _ _
    have k6:(B.take k).length=k:=by rw[ap];omega
    refine wpIn_region_any hm (jgh (bb:=false) (w0:=w0) (I0:=I0) (kk:=k) (al':=B.take k) (sp:=λ_=>false) k5 k6 (λi ao hi _ h=>by rw[ct,if_pos hi];exact h) (λ_ _ h=>by cases h) (λj h1 h2 i h3=>e5 j h1 h2 i zO) (c6 _ _ _ hy) a0 b6 g6 M g5 d8 (γ:=γ) (I:=I) (λ_ _ _ _ _ _ _ h=>by cases h) (λc3 I' a' w' i8 f3 l5 i0 _ i3 c8 c7 hg hI=>?_) J.size (Array.replicate J.size false) γ I a _ zS ?_ ?_ (λ_ h=>by cases h) ?_ ?_ ?_ ?_ (λ_ _ h=>h) (λ_ _ _ h=>h))
    ·exact jka e5 (c6 _ _ _ hy) a0 b6 d8 (J.size - k) k zK zO i8 f3 c3 I' { jO (λ_=>true) d5 b with nx:=b.nx+64*(B.take k).length } a' w' (b.nx+64*(B.take k).length) d9 l5 i0 i3 (G.trans hg) (H.trans hI) (c8.congr rfl rfl rfl rfl rfl) (λu hu=>c7 u (by rw[k6]at hu;exact hu)) c4
      (λc2 c5=>(Z _ (h4 _ (aJ.2 ⟨c2,c5,rfl⟩))).weaken hg hI)
    ·intro j o ho hj
     simp only[U]at hj
     split at hj <;> cases hj
    ·intro j hj
     rw[U];split <;> rfl
    ·simp
    ·rw[e6]
     exact O.drawn _
    ·intro u hu
     exact X u zO
    ·intro j hj u h1 h2
     exact X u zO
   split at F
   ·rename_i c b5
    have b5:juw J B c=true:=by
     cases m with
     | false=>cases b5
     | true=>
      obtain⟨_,b5⟩:=cE.1 b5
      exact b5
    have i9:∃ac,B[c]? = some ac:=by
     have h:=b5
     unfold juw at h
     cases h0:B[c]? with
     | none=>simp[h0]at h
     | some ac=>exact⟨ac,rfl⟩
    obtain⟨d7,b8⟩:=i9
    have n9:c<B.length:=(ak.1 b8).1
    have g2:B.getD c jix=d7:=by rw[ag,b8];rfl
    subst F
    rw[g2]at D T
    simp only[je]at D
    obtain⟨l1,h1,h2⟩:=Jh D
    obtain⟨⟨e4,S⟩,c1,h1⟩:=bind_some h1
    simp only[aC,ab]at h1
    obtain⟨M,rfl⟩:=h1
    rw[ai]at M
    obtain⟨rx,h3,h4⟩:=h2 _ (ae.2 rfl)
    simp only at h3
    obtain⟨l2,h5,h6⟩:=Jh h3
    obtain⟨d9,c4,rfl⟩:=map_some h5
    have d8:∀ao∈B,∀d,ao.dst=some d->d<nt:=by
     simp only[C.dstOk,ai]at T
     obtain⟨d1,d2,d3⟩:=T
     intro ao e0
     obtain⟨i,hi,rfl⟩:=bH e0
     rcases du i c with d0|d0|d0
     ·refine Qx d1 _ (aI (i:=i) ?_)
      rw[ct,if_pos d0,aa hi]
     ·subst d0
      have:B[i]=d7:=by rw[aa hi]at b8;simpa using b8
      rw[this]
      exact Qx d2 d7 (aP ..)
     ·refine Qx d3 _ (bY _ (aI (i:=i - (c+1)) ?_))
      rw[bw,show c+1+(i - (c+1))=i by omega,aa hi]
    refine wpIn_region_any hm (mid_ok (w0:=w0) (I0:=I0) b5 b8 (c6 _ _ _ hy) G H a0 b6 d8 c1 M.1 M.2 c4 (λs1 m8=>?_) (O.drawn _) X)
    obtain⟨l6,e9,g3⟩:=h6 _ (aJ.2 ⟨s1,m8,rfl⟩)
    simp only at e9
    obtain⟨⟨k9,S2⟩,l0,i4⟩:=bind_some e9
    simp only[aC,ab]at i4
    obtain⟨e7,rfl⟩:=i4
    rw[ai]at e7
    exact⟨(k9,S2),l0,e7.1,e7.2,Z _ (h4 _ (g3 _ (ae.2 rfl)))⟩
   subst F
   simp only[je]at D
   obtain⟨⟨e4,c2⟩,c1,D⟩:=bind_some D
   simp only[aC,ab]at D
   obtain⟨M,rfl⟩:=D
   rw[ai]at M
   obtain⟨M,g5⟩:=M
   obtain⟨d5,g6,rfl⟩:=XM B b b.nx e4 c2 c1
   have e6:jO (λi=>(Array.replicate J.size false).getD i false) d5 b=b:=by
    have:(λi=>(Array.replicate J.size false).getD i false)=λ_=>false:=funext λi=>by rw[U];split <;> rfl
    rw[this]
    exact Xu _ _
   refine wpIn_region_any hm (any_ok (w0:=w0) (I0:=I0) (c6 _ _ _ hy) a0 b6 g6 M g5 (Qx T) (γ:=γ) (I:=I) (λc3 I' a' w' c8 c7 hg hI=>?_) J.size (Array.replicate J.size false) γ I a _ zS ?_ ?_ ?_ ?_ ?_ (λ_ _ h=>h) (λ_ _ _ h=>h))
   ·exact Z _ (ae.2 rfl) c3 I' a' w' (c8.congr rfl rfl rfl rfl rfl) c7 hg hI
   ·intro j o ho hj
    simp only[U]at hj
    split at hj <;> cases hj
   ·simp
   ·rw[e6]
    exact O.drawn _
   ·intro u hu
    exact X u zO
   ·intro j hj u h1 h2
    exact X u zO
 | seq x z g9 g4=>
  intro ac m r rn K F T w0 I0 Q b l γ I a w G H D O X Z
  simp only[comp]at F
  obtain⟨ax,hx,F⟩:=bind_some F
  obtain⟨az,hz,rfl⟩:=map_some F
  simp only[C.dstOk,ai]at T
  simp only[je]at D
  obtain⟨l1,h1,h2⟩:=Jh D
  refine wpIn_seq (g9 ax m r rn K hx T.1 w0 I0 _ b l1 γ I a w G H h1 O X (λp hp=>?_))
  obtain⟨e,s⟩:=p
  obtain⟨rx,h3,h4⟩:=h2 _ hp
  cases e with
  | nrm=>
   intro c3 I' a' w' c8 c7 hg hI
   exact g4 az m r rn K hz T.2 w0 I0 Q s rx c3 I' a' w' (G.trans hg) (H.trans hI) h3 c8 c7 (λp hp=>(Z p (h4 p hp)).weaken hg hI)
  | exit i=>
   simp only[ab]at h3
   subst h3
   exact Z _ (h4 _ (ae.2 rfl))
  | ret=>
   simp only[ab]at h3
   subst h3
   exact Z _ (h4 _ (ae.2 rfl))
 | cond q x z g9 g4=>
  intro ac m r rn K F T w0 I0 Q b l γ I a w G H D O X Z
  simp only[comp]at F
  obtain⟨aq,hq,F⟩:=bind_some F
  obtain⟨ax,hx,F⟩:=bind_some F
  obtain⟨az,hz,rfl⟩:=map_some F
  simp only[C.dstOk,ai]at T
  have U:=jC O hq
  have hv:∀t,eval E b.tm aq=.bool t->a.eval q=.bool t:=by
   intro t ht
   rw[ht]at U
   exact XK U
  simp only[je]at D
  split at D
  ·rename_i hb
   exact wpIn_cond_true (hv _ hb) (g9 ax m r rn K hx T.1 w0 I0 Q b l γ I a w G H D O X Z)
  ·rename_i hb
   exact wpIn_cond_false (hv _ hb) (g4 az m r rn K hz T.2 w0 I0 Q b l γ I a w G H D O X Z)
  ·cases D
 | block id x ih=>
  intro ac m r rn K F T w0 I0 Q b l γ I a w G H D O X Z
  simp only[comp]at F
  obtain⟨ax,hx,rfl⟩:=map_some F
  simp only[je]at D
  obtain⟨l1,h1,rfl⟩:=map_some D
  refine wpIn_block (ih ax m r rn K hx T w0 I0 _ b l1 γ I a w G H h1 O X (λp hp=>?_))
  have:=Z _ (aJ.2 ⟨p,hp,rfl⟩)
  obtain⟨e,s⟩:=p
  cases e with
  | nrm=>exact this
  | ret=>exact this
  | exit i=>
   simp only[exOf,Exit.inBlock]
   by_cases hi:i=id
   ·simp only[hi,if_true]at this ⊢
    exact this
   ·simp only[hi,if_false]at this ⊢
    exact this
 | loop x ih=>
  intro ac m r rn K F T w0 I0 Q b l γ I a w G H D O X Z
  simp only[comp]at F
  obtain⟨ax,hx,rfl⟩:=map_some F
  simp only[je]at D
  have n4:∀ (n:Nat) (b:St) (l:List (Ex × St)) (γ:Nat->Option Place) (I:IMap) (a:Act) (w:World),SubG γ0 γ->SubI Iy I->jbl (je E call y N ax) n b=some l->R E w0 I0 nt γ I b a w->(∀u,b.nx<=u->γ u=none) ->
   (∀x∈l,Nice E w0 I0 nt γ I x.2 x.2.nx (λa w=>Q (exOf x.1) a w))->Code.roundsIn (FW rn) 0 P x Q n a w:=by
   intro n
   induction n with
   | zero=>intro b l γ I a w _ _ D;cases D
   | succ n l4=>
    intro b l γ I a w G H D O X Z
    simp only[jbl]at D
    obtain⟨l1,h1,h2⟩:=Jh D
    rw[roundsIn_succ]
    refine ih ax m r rn K hx T w0 I0 _ b l1 γ I a w G H h1 O X (λp hp=>?_)
    obtain⟨e,s⟩:=p
    obtain⟨rx,h3,h4⟩:=h2 _ hp
    cases e with
    | nrm=>
     intro c3 I' a' w' c8 c7 hg hI
     exact l4 s rx c3 I' a' w' (G.trans hg) (H.trans hI) h3 c8 c7 (λp hp=>(Z p (h4 p hp)).weaken hg hI)
    | exit i=>
     simp only[ab]at h3
     subst h3
     exact Z _ (h4 _ (ae.2 rfl))
    | ret=>
     simp only[ab]at h3
     subst h3
     exact Z _ (h4 _ (ae.2 rfl))
  exact wpIn_loop_rounds N (n4 N b l γ I a w G H D O X Z)
 | rangeFunc f ps ca cb m6 l7=>
  intro ac m r rn K F T w0 I0 Q b l γ I a w G H D O X Z
  cases r with
  | true=>cases F;cases D
  | false=>
  have K:rn=none:=K.resolve_left zS
  subst K
  simp only[comp,cond_false]at F
  obtain⟨af,m4,F⟩:=bind_some F
  obtain⟨j0,n8,F⟩:=bind_some F
  obtain⟨bd,l9,rfl⟩:=map_some F
  simp only[C.dstOk,ai]at T
  obtain⟨⟨m1,n6⟩,m0⟩:=T
  simp only[je]at D
  split at D
  case h_2=>cases D
  rename_i g first i2 n1
  obtain⟨⟨rv,ob,tk,ub⟩,c9,D⟩:=bind_some D
  have c9:=jt7 c9
  have k3:=jC O m4
  rw[n1]at k3
  obtain⟨fx,cx,n2,s1,s2,s3,s4⟩:=jdf k3
  -- the two blocks
  refine wpIn_rangeFunc (λfn _=>?_)
  have f8:γ (b.nx+1)=none:=X _ zO
  have k2:=O.sh.alloc (d:=2*b.nx+3) f8 (obj:=.deferred (some [])) (body:=.dfr) (k:=.n 0) rfl
  have f1:(upd γ (b.nx+1) (some (.obj w.heap.size (.n 0)))) b.nx=none:=by
   rw[JG _ _ zO]
   exact X _ zK
  generalize b0:({ state:=.ready,pending:=none,fn,tmps:=a.tmps,params:=ps,assign:=ca,body:=cb,defers:=w.heap.size }:Loop)=rec
  have g1:=k2.alloc (d:=2*b.nx+1) f1 (obj:=.loop rec) (body:=.loop .ready none) (k:=.lp rec) ⟨rec,rfl,by rw[<- b0];rfl⟩
  generalize d6:upd (upd γ (b.nx+1) (some (.obj w.heap.size (.n 0)))) b.nx (some (.obj (w.alloc (.deferred (some []))).heap.size (.lp rec)))=γ1 at g1
  have b7:SubG γ γ1:=by
   rw[<- d6]
   exact SubG.trans (WX f8) (WX f1)
  have f0:γ1 b.nx=some (.obj (w.heap.size+1) (.lp rec)):=by rw[<- d6];simp
  have i5:γ1 (b.nx+1)=some (.obj w.heap.size (.n 0)):=by rw[<- d6,JG _ _ zO];simp
  have m5:∀p∈ps.toList,p<nt:=λp hp=>by
   have:=aw.1 m1 p hp
   simpa[dp] using this
  have m9:YOk P E γ1 I (Qr (je E call y N j0) (je E call y N bd) b ps.toList (2*b.nx+1) b.nx) :=
   jte (L:=w.heap.size+1) (rec:=rec) (ca:=ca) (cb:=cb) (ps:=ps) (m6 j0 m true (some (w.heap.size+1)) (.inl rfl) n8 n6) (l7 bd m true (some (w.heap.size+1)) (.inl rfl) l9 m0) (G.trans b7) H f0
    (λt=>by rw[<- b0];exact(O.tm t).mono b7 (λ_ _ _ h=>h)) (by rw[<- b0];exact O.sz) (by rw[<- b0]) m5 (by rw[<- b0]) (by rw[<- b0])
  obtain⟨n0,i6⟩:=(c6 γ1 I _ m9).s _ _ _ _ _ _ _ _ c9
  obtain⟨o3,cc,e1,e2,e3⟩:=n0
  have l8:=jc9 (P:=P) (w:=(w.alloc (.deferred (some []))).alloc (.loop rec)) e1 e2 e3
  have i1:Rep γ1 I (.func (.yield (w.heap.size+1)) #[] #[]) (.yld (2*b.nx+1) b.nx):=.yld _ _ _ _ f0
  obtain⟨t1,t2⟩:=Qi (γ:=γ1) (I:=I) (xs:=fx) (ys:=#[.func (.yield (w.heap.size+1)) #[] #[]]) (us:=first) (vs:=[.yld (2*b.nx+1) b.nx]) s1 rfl (λj x v hx hv=>(s3 j x v hx hv).mono b7 (λ_ _ _ h=>h)) (λj x v hx hv=>by
   match j with
   | 0=>simp at hx hv;subst hx;subst hv;exact i1
   | j+1=>simp at hv)
  obtain⟨u1,u2⟩:=Qi (γ:=γ1) (I:=I) t1 s2 t2 (λj x v hx hv=>(s4 j x v hx hv).mono b7 (λ_ _ _ h=>h))
  have k7:∀u,b.nx+64<=u->γ1 u=none:=by
   intro u hu
   rw[<- d6,JG _ _ zO,JG _ _ zO]
   exact X _ zO
  have f4:=i6 w0 _ I0 I γ1 _ { b with ob:=upd (upd b.ob (2*b.nx+3) (some ⟨b.nx+1,.dfr⟩)) (2*b.nx+1) (some ⟨b.nx,.loop .ready none⟩) } (SubG.refl _) (SubI.refl _) rfl rfl rfl g1 k7 u1 u2
  have f9:=run_enterLoop_outer (P:=P) (w:=w) fn a.tmps ps ca cb
  rw[b0]at f9
  refine⟨_,_,_,{ target:=.fn (.func g) cx,args:=fx++#[.func (.yield (w.heap.size+1)) #[] #[]] },(w.alloc (.deferred (some []))).alloc (.loop rec),g,fx++#[.func (.yield (w.heap.size+1)) #[] #[]]++cx,(w.alloc (.deferred (some []))).alloc (.loop rec),f9,?_,λ_ _=>trivial,?_,(λh=>by cases h),?_⟩
  ·have f5:Array.map a.eval #[Operand.const (.func (.yield (w.heap.size+1)) #[] #[])] = #[.func (.yield (w.heap.size+1)) #[] #[]]:=by simp[Act.eval]
   simp only[resolve,n2,Deferred.ofValue,aE,f5]
  ·simp only[invoke]
   exact l8 _
  ·refine jwt (Calls.mono f4 λe w3 he=>?_)
   obtain⟨_,f5,he⟩:=he
   rw[ae]at f5
   subst f5
   obtain⟨x,c3,I',rfl,n7,U,e8,i7,k4⟩:=he
   simp only at D
   split at D
   case h_2=>cases D
   rename_i u s d4 f7
   simp only[aC,ab]at D
   obtain⟨⟨rfl,o2,m2⟩,rfl⟩:=D
   have f2:=e8 _ _ f0
   have g0:=n7 { b with ob:=ob,tk:=tk } rfl rfl rfl
   obtain⟨r0,m7,g8⟩:=jhj g0 f7 f2
   cases m7
   have n5:lsOf s≠.busy:=by cases s <;> simp_all [lsOf]
   have k1:=run_endLoop (P:=P) g8 n5
   have k0:=g0.turn (ob':=λk=>if Nat.beq (2*b.nx+1) k then none else ob k) (o':=.loop { rec with state:=.exhausted,pending:=d4.map Qv }) f7 f2 m2 (λl2 x hx=>by
    split at hx
    ·cases hx
    ·rename_i h2;exact .inl ⟨λe=>h2 (by rw[e];exact cI _),hx⟩)
   refine⟨d4.map Qv,_,k1,?_⟩
   have c0:=Z _ (ae.2 rfl) c3 I' { tmps:=a.tmps,defers:=[{ target:=.collected w.heap.size,args:=#[] }]++a.defers } (w3.putObj (w.heap.size+1) (.loop { rec with state:=.exhausted,pending:=d4.map Qv }))
    ⟨O.sz,⟨⟨w.heap.size,.n 0,rfl,e8 _ _ i5⟩,(O.df.mono b7).mono e8⟩,λt=>(O.tm t).mono (b7.trans e8) i7,k0.congr rfl rfl rfl⟩ k4 (b7.trans e8) i7
   cases d4 with
   | none=>exact c0
   | some e=>
    cases e with
    | nrm=>exact wpIn_skip c0
    | ret=>exact wpIn_ret c0
    | exit i=>exact wpIn_exit c0
 | _=>
  intro ac m r rn K F T w0 I0 Q b l γ I a w G H D
  cases F
  cases D
end
def jso (γ:Nat->Option Place) (x:Value):V->Option Place
 | .sl (some (u,_)) _ _ _=>γ u
 | .osl _ u _ n sz=>match γ u,x with
  | some (.obj b _),.slice _ _ cap=>some (.tok b n cap sz)
  | _,_=>none
 | _=>none
def jdd (st:St) (keep:Bool) (l u off n sz:Nat):Bool :=
 match objCells st.ob l u with
 | some cs0=>keep && Nat.beq off 0 && Nat.blt 0 n && Nat.beq (n*sz) cs0.length
 | none=>false
def plLeaf (γ:Nat->Option Place) (st:St) (keep:Bool) (i:Nat) (x:Value):V->List (Nat × Nat × Option Place)
 | .sl (some (u,z)) nl n cs=>if keep && st.tk u then [(i,u,jso γ x (.sl (some (u,z)) nl n cs))] else []
 | .osl l u off n sz=>if jdd st keep l u off n sz then [(i,u,jso γ x (.osl l u off n sz))] else []
 | _=>[]
def plList (γ:Nat->Option Place) (st:St) (keep:Bool):Nat->List Value->List V->List (Nat × Nat × Option Place)
 | i,x::xs,v::vs=>plLeaf γ st keep i x v++plList γ st keep (i+1) xs vs
 | _,_,_=>[]
def aggL:Value->List Value
 | .agg xs=>xs.toList
 | _=>[]
def plTop (γ:Nat->Option Place) (st:St) (keep:Bool) (i:Nat) (x:Value):V->List (Nat × Nat × Option Place)
 | .agg cs=>plList γ st keep i (aggL x) cs
 | v=>plLeaf γ st keep i x v
def plTops (γ:Nat->Option Place) (st:St) (keep:Bool):Nat->List Value->List V->List (Nat × Nat × Option Place)
 | i,x::xs,v::vs=>plTop γ st keep i x v++plTops γ st keep (i+16) xs vs
 | _,_,_=>[]
theorem QZ:∀ {l:List Nat},nodup l=true->l.Nodup
 | [],_=>dS
 | a::l,h=>by simp only[nodup,ai,bJ]at h;refine dN.2 ⟨λc=>?_,QZ h.2⟩;have:(l.any λb=>Nat.beq a b)=true:=bx.2 ⟨a,c,cI a⟩;rw[h.1]at this;cases this
section
variable {P:Program}{E:Env}{w0 w:World}{I0:IMap}{nt:Nat}{γ τ:Nat->Option Place}{I I':IMap}{st:St}{a:Act}{B:Nat}{Ω:Nat->Option Owner}{keep:Bool}
def PlOk (γ:Nat->Option Place) (_:IMap) (st:St) (keep:Bool) (p:Nat × Nat × Option Place):Prop :=
 keep=true/\((st.tk p.2.1=true/\p.2.2=γ p.2.1) \/
  ∃l cs b k n cap sz,st.ob l=some ⟨p.2.1,.cells cs⟩/\γ p.2.1=some (.obj b k)/\p.2.2=some (.tok b n cap sz)/\0<n/\n*sz=cs.length/\n<=cap/\cap<=maxLen/\cap*sz<=k.size/\Nat.ble st.ro p.2.1=true)
theorem jfa (i:Nat) {x:Value}{v z:V}(D:Rep γ I x v) (t:jm st keep i v=some z):((plLeaf γ st keep i x v).map (·.2.1)).Sublist v.tok/\∀p∈plLeaf γ st keep i x v,PlOk γ I st keep p:=by
 unfold plLeaf;split;split;rename_i h;simp only[ai]at h;exact⟨fq _,λp c=>by rw[ae.1 c];exact⟨h.1,.inl ⟨h.2,rfl⟩⟩⟩;exact⟨fC _,λp c=>by cases c⟩
 ·rename_i l u off n y;split
  ·rename_i h;refine⟨fq _,λp c=>?_⟩;rw[ae.1 c];unfold jdd at h;split at h;case h_2=>cases h
   rename_i e d;simp only[ai]at h;obtain⟨⟨⟨H,f⟩,g⟩,m⟩:=h;have f:=bm f;have g:0<n:=by simpa[dp] using g
   have m:=bm m;subst f;obtain⟨b,k,K,o,r,rfl,G,J,F⟩:=Xm D;have j:Nat.ble st.ro u=true:=by simp only[jm]at t;obtain⟨q,s,_⟩:=bind_some t;simp only[JH,d,am,aC]at s;exact s.1.1
   refine⟨H,.inr ⟨l,e,b,k,n,o,y,jf d,r,by simp only[jso,r],g,m,J,F,?_,j⟩⟩;have:=(G zO).2;omega
  exact⟨fC _,λp c=>by cases c⟩
 exact⟨fC _,λp c=>by cases c⟩
theorem je9:∀ (i:Nat) (xs:List Value) (vs b:List V),xs.length=vs.length->(∀ (j:Nat) (x:Value) (v:V),xs[j]? = some x->vs[j]? = some v->Rep γ I x v)->Xj st keep i vs=some b ->
 ((plList γ st keep i xs vs).map (·.2.1)).Sublist (vs.flatMap V.tok)/\∀p∈plList γ st keep i xs vs,PlOk γ I st keep p
 | _,[],[],_,_,_,_=>⟨fq _,λp d=>by cases d⟩
 | i,x::xs,v::vs,b,hl,hr,c=>by simp only[Xj]at c;obtain⟨q,l,c⟩:=bind_some c;obtain⟨r,e,rfl⟩:=map_some c;obtain⟨o,f⟩:=jfa i (hr 0 x v rfl rfl) l;obtain⟨g,n⟩:=je9 (i+1) xs vs r (by simpa using hl) (λj x v k m=>hr (j+1) x v (by simpa using k) (by simpa using m)) e;simp only[plList,bF,bl];exact⟨o.append g,λp d=>(aO.1 d).elim (f p) (n p)⟩
 | _,[],_::_,_,h,_,_=>by simp at h
 | _,_::_,[],_,h,_,_=>by simp at h
theorem jqx (i:Nat) {x:Value}{v e:V}(c:Rep γ I x v) (b:XS st keep i v=some e):((plTop γ st keep i x v).map (·.2.1)).Sublist v.toks/\∀p∈plTop γ st keep i x v,PlOk γ I st keep p:=by
 cases v with
 | agg cs=>obtain⟨h,rfl,m,n,k⟩:=YG c;simp only[XS]at b;obtain⟨r,g,rfl⟩:=map_some b;exact je9 i h.toList cs r (by simpa using m) (λj x v c b=>k j x v (by simpa using c) b) g
 | fn f l o=>exact⟨fC _,λp d=>by cases d⟩
 | _=>exact jfa i c b
theorem je8:∀ (i:Nat) (xs:List Value) (vs b:List V),xs.length=vs.length->(∀ (j:Nat) (x:Value) (v:V),xs[j]? = some x->vs[j]? = some v->Rep γ I x v)->JK st keep i vs=some b ->
 ((plTops γ st keep i xs vs).map (·.2.1)).Sublist (vs.flatMap V.toks)/\∀p∈plTops γ st keep i xs vs,PlOk γ I st keep p
 | _,[],[],_,_,_,_=>⟨fq _,λp d=>by cases d⟩
 | i,x::xs,v::vs,b,hl,hr,c=>by simp only[JK]at c;obtain⟨q,l,c⟩:=bind_some c;obtain⟨r,e,rfl⟩:=map_some c;obtain⟨o,f⟩:=jqx i (hr 0 x v rfl rfl) l;obtain⟨g,n⟩:=je8 (i+16) xs vs r (by simpa using hl) (λj x v k m=>hr (j+1) x v (by simpa using k) (by simpa using m)) e;simp only[plTops,bF,bl];exact⟨o.append g,λp d=>(aO.1 d).elim (f p) (n p)⟩
 | _,[],_::_,_,h,_,_=>by simp at h
 | _,_::_,[],_,h,_,_=>by simp at h
theorem Wg {i:Nat}{x:Value}{v d:V}(b:jm st keep i v=some d):d.leaf=true/\d.tok=(plLeaf γ st keep i x v).map (·.1):=by
 have c:∀k,JH st (k+1) v=(if v.pureLeaf then some v else none)->jm st keep i v=JH st (k+1) v->v.tok=[]->plLeaf γ st keep i x v=[]->d.leaf=true/\d.tok=(plLeaf γ st keep i x v).map (·.1):=by intro k y o p s;rw[o,y]at b;simp only[aC,ab]at b;obtain⟨m,rfl⟩:=b;exact⟨jba m,by rw[s,p];rfl⟩
 cases v with
 | sl t r n cs=>
  cases t with
  | none=>exact c 5 rfl rfl rfl rfl
  | some q=>obtain⟨u,z⟩:=q;simp only[jm,ab]at b;subst b;refine⟨rfl,?_⟩;cases j:(keep && st.tk u) <;> simp[V.tok,plLeaf,j]
 | osl l u off n f=>
  simp only[jm]at b;obtain⟨q,F,b⟩:=bind_some b;split at b;case h_2=>cases b
  rename_i t r D cs;obtain⟨e,g,rfl⟩:=map_some b;refine⟨rfl,?_⟩;have j:jdd st keep l u off n f=(keep && Nat.beq off 0 && Nat.blt 0 n && Nat.beq (n*f) e.length):=by simp only[jdd,g]
  rw[<- j];cases h:jdd st keep l u off n f <;> simp[V.tok,plLeaf,h]
 | agg|tup|undef=>simp only[jm,JH,V.pureLeaf,aj,if_false,reduceCtorEq]at b
 | _=>exact c 5 rfl rfl rfl rfl
theorem jhh (ho:Own γ I B st w Ω) (M:jdo γ B st w I I') {x:Value}{v o:V}{i:Nat}(G:Rep γ I x v) (f:jm st keep i v=some o) (L:∀p∈plLeaf γ st keep i x v,τ p.1=p.2.2) :
 jw4 τ I' x o:=by
 have c:jm st keep i v=JH st 6 v->jw4 τ I' x o:=by
  intro h
  rw[h]at f
  obtain⟨Q,r⟩:=ja1 ho M 6 x v o G f
  cases o with
  | sl t nl n cs=>
   cases t with
   | none=>exact Q
   | some q=>simp[V.pureLeaf]at r
  | _=>exact Q
 cases v with
 | sl t nl n cs=>
  cases t with
  | none=>exact c rfl
  | some q=>
   obtain⟨u,z⟩:=q
   simp only[jm,ab]at f
   subst f
   cases g:(keep && st.tk u) with
   | true=>
    have hm:(i,u,γ u)∈plLeaf γ st keep i x (.sl (some (u,z)) nl n cs):=by simp[plLeaf,g,jso]
    have N:=L _ hm
    simp only[if_true]
    have:=G.mono (γ':=γ) (λ_ _ h=>h) M.1
    cases this with
    | tsl _ b _ d _ _ X Z e hc m hi T U=>exact Rep.tsl i b n d z cs X (N.trans Z) e hc m hi T U
    | pure _ _ h=>cases h
   | false=>
    simp only[aj,if_false]
    exact(Yz G (by simp[V.strip1,V.pureLeaf])).mono M.1
 | osl l u off n k=>
  simp only[jm]at f
  obtain⟨q,y,f⟩:=bind_some f
  obtain⟨j,a0⟩:=ja1 ho M 6 x _ q G y
  split at f
  case h_2=>cases f
  rename_i t nl n' cs
  have O:t=none:=by cases t <;> simp_all [V.pureLeaf]
  subst O
  obtain⟨S,F,rfl⟩:=map_some f
  have g:jdd st keep l u off n k=(keep && Nat.beq off 0 && Nat.blt 0 n && Nat.beq (n*k) S.length):=by simp only[jdd,F]
  rw[<- g]
  cases s:jdd st keep l u off n k with
  | false=>exact j
  | true=>
   simp only[if_true]
   rw[s]at g
   have g:=g.symm
   simp only[ai]at g
   obtain⟨⟨⟨Q,r⟩,h3⟩,h4⟩:=g
   have r:=bm r
   have h3:0<n:=by simpa[dp] using h3
   have h4:=bm h4
   subst r
   obtain⟨b,kb,ad,d,Z,rfl,ha,hc,hm⟩:=Xm G
   have J:(i,u,some (Place.tok b n d k))∈plLeaf γ st keep i (.slice (some ad) n d) (.osl l u 0 n k):=by simp[plLeaf,s,jso,Z]
   have N:=L _ J
   have H:=(ha zO).1
   subst H
   -- the form of what is JH
   simp only[JH,F,am,aC]at y
   obtain⟨_,y⟩:=y
   obtain⟨D,K,he⟩:=map_some y
   simp only[V.sl.injEq,true_and]at he
   obtain⟨rfl,rfl,rfl⟩:=he
   have e:D.length=n*k:=by
    have:=(jy K).1
    rw[this]
    simp only[ap,ba];omega
   cases j with
   | sl _ _ _ _ X hs b0 m hi T U=>exact Rep.tsl i b n d k D X N e hc hm (by simpa using hi) T U
 | agg|tup|undef=>
  simp only[jm,JH,V.pureLeaf,aj,if_false,reduceCtorEq]at f
 | _=>exact c rfl
theorem jhg (m:Own γ I B st w Ω) (o:jdo γ B st w I I'):∀ (xs:List Value) (vs b:List V) (i:Nat),xs.length=vs.length->(∀ (j:Nat) (x:Value) (v:V),xs[j]? = some x->vs[j]? = some v->Rep γ I x v) ->
 Xj st keep i vs=some b->(∀p∈plList γ st keep i xs vs,τ p.1=p.2.2) ->
 b.length=vs.length/\(∀ (j:Nat) (x:Value) (f:V),xs[j]? = some x->b[j]? = some f->f.leaf=true/\jw4 τ I' x f)
 | [],[],b,i,_,_,h,_=>by simp only[Xj,ab]at h;subst h;exact⟨rfl,λj x f h=>by simp at h⟩
 | x::xs,v::vs,b,i,hl,hr,h,hτ=>by
  simp only[Xj]at h;obtain⟨q,n,h⟩:=bind_some h;obtain⟨r,l,rfl⟩:=map_some h;simp only[plList]at hτ;obtain⟨z,s⟩:=jhg m o xs vs r (i+1) (by simpa using hl) (λj x v t u=>hr (j+1) x v (by simpa using t) (by simpa using u)) l (λp g=>hτ p (bY _ g));have d:=jhh m o (hr 0 x v rfl rfl) n (λp g=>hτ p (cD _ g));have e:=Wg (γ:=γ) (x:=x) n;refine⟨by simp[z],λj y D k c=>?_⟩;cases j with
  | zero=>simp only[aD,ab]at k c;subst k;subst c;exact⟨e.1,d⟩
  | succ j=>exact s j y D (by simpa using k) (by simpa using c)
 | [],_::_,_,_,h,_,_,_=>by simp at h
 | _::_,[],_,_,h,_,_,_=>by simp at h
theorem ju1 {x:Value}{v:V}(h:jw4 τ I x v) (c:v.leaf=true):jr6 τ I x v/\(∀b,v≠.tup b):=by
 cases v with
 | agg|tup|undef=>cases c
 | _=>exact⟨h,λ_ h=>by cases h⟩
theorem jt0 (q:Own γ I B st w Ω) (o:jdo γ B st w I I') {x:Value}{v e:V}{i:Nat}(g:Rep γ I x v) (c:XS st keep i v=some e) (d:∀p∈plTop γ st keep i x v,τ p.1=p.2.2) :
 jr6 τ I' x e/\(∀k,e≠.tup k):=by
 have b:jm st keep i v=some e->plTop γ st keep i x v=plLeaf γ st keep i x v->jr6 τ I' x e/\(∀k,e≠.tup k):=by intro l s;rw[s]at d;exact ju1 (jhh q o g l d) (Wg (γ:=γ) (x:=x) l).1
 cases v with
 | agg cs=>
  simp only[XS]at c;obtain⟨r,G,rfl⟩:=map_some c;obtain⟨m,rfl,l,s,H⟩:=YG g;obtain⟨z,t⟩:=jhg q o m.toList cs r i (by simpa using l) (λj x v g c=>H j x v (by simpa using g) c) G d;refine⟨⟨m,rfl,l.trans z.symm,λj u n=>?_,λj y u F n=>(t j y u (by simpa using F) n).2⟩,(λk h=>by cases h)⟩;have J:j<m.size:=by have:=(ak.1 n).1;omega
  exact(t j m[j] u (by rw[bn];exact aA J) n).1
 | fn f K L=>simp only[XS,aC,ab]at c;obtain⟨D,rfl⟩:=c;exact⟨(jgx g D).mono o.1,(λk h=>by simp[V.strip]at h)⟩
 | _=>exact b c rfl
theorem WD (l:Own γ I B st w Ω) (m:jdo γ B st w I I'):∀ (xs:List Value) (vs b:List V) (i:Nat),xs.length=vs.length->(∀ (j:Nat) (x:Value) (v:V),xs[j]? = some x->vs[j]? = some v->Rep γ I x v) ->
 JK st keep i vs=some b->(∀p∈plTops γ st keep i xs vs,τ p.1=p.2.2) ->
 b.length=vs.length/\(∀ (j:Nat) (x:Value) (e:V),xs[j]? = some x->b[j]? = some e->jr6 τ I' x e/\∀vs,e≠.tup vs)
 | [],[],b,i,_,_,h,_=>by simp only[JK,ab]at h;subst h;exact⟨rfl,λj x e h=>by simp at h⟩
 | x::xs,v::vs,b,i,hl,hr,h,hτ=>by
  simp only[JK]at h;obtain⟨q,s,h⟩:=bind_some h;obtain⟨r,k,rfl⟩:=map_some h;simp only[plTops]at hτ;obtain⟨u,n⟩:=WD l m xs vs r (i+16) (by simpa using hl) (λj x v o t=>hr (j+1) x v (by simpa using o) (by simpa using t)) k (λp f=>hτ p (bY _ f));have d:=jt0 l m (hr 0 x v rfl rfl) s (λp f=>hτ p (cD _ f));refine⟨by simp[u],λj y z g c=>?_⟩;cases j with
  | zero=>simp only[aD,ab]at g c;subst g;subst c;exact d
  | succ j=>exact n j y z (by simpa using g) (by simpa using c)
 | [],_::_,_,_,h,_,_,_=>by simp at h
 | _::_,[],_,_,h,_,_,_=>by simp at h
theorem ju5 {v:V}(h:v.leaf=true):v.toks=v.tok:=by
 cases v with
 | agg|tup|undef=>cases h
 | _=>rfl
theorem jfc:∀ (xs:List Value) (vs b:List V) (i:Nat),xs.length=vs.length->Xj st keep i vs=some b->b.flatMap V.tok=(plList γ st keep i xs vs).map (·.1)
 | [],[],b,i,_,h=>by simp only[Xj,ab]at h;subst h;rfl
 | x::xs,v::vs,b,i,hl,h=>by simp only[Xj]at h;obtain⟨q,c,h⟩:=bind_some h;obtain⟨r,d,rfl⟩:=map_some h;simp only[plList,bF,bl,(Wg (γ:=γ) (x:=x) c).2,jfc xs vs r (i+1) (by simpa using hl) d]
 | [],_::_,_,_,h,_=>by simp at h
 | _::_,[],_,_,h,_=>by simp at h
theorem jq1 {x:Value}{v d:V}{i:Nat}(l:Rep γ I x v) (c:XS st keep i v=some d):d.toks=(plTop γ st keep i x v).map (·.1):=by
 have b:jm st keep i v=some d->plTop γ st keep i x v=plLeaf γ st keep i x v->d.toks=(plTop γ st keep i x v).map (·.1):=λe g=>by obtain⟨h,n⟩:=Wg (γ:=γ) (x:=x) e;rw[g,ju5 h,n]
 cases v with
 | agg cs=>simp only[XS]at c;obtain⟨r,j,rfl⟩:=map_some c;obtain⟨k,rfl,e,g,h⟩:=YG l;exact jfc k.toList cs r i (by simpa using e) j
 | fn f m p=>simp only[XS,aC,ab]at c;obtain⟨o,rfl⟩:=c;rfl
 | _=>exact b c rfl
theorem jfb:∀ (xs:List Value) (vs b:List V) (i:Nat),xs.length=vs.length->(∀ (j:Nat) (x:Value) (v:V),xs[j]? = some x->vs[j]? = some v->Rep γ I x v)->JK st keep i vs=some b ->
 b.flatMap V.toks=(plTops γ st keep i xs vs).map (·.1)
 | [],[],b,i,_,_,h=>by simp only[JK,ab]at h;subst h;rfl
 | x::xs,v::vs,b,i,hl,hr,h=>by simp only[JK]at h;obtain⟨q,d,h⟩:=bind_some h;obtain⟨r,c,rfl⟩:=map_some h;simp only[plTops,bF,bl,jq1 (hr 0 x v rfl rfl) d,jfb xs vs r (i+16) (by simpa using hl) (λj x v f e=>hr (j+1) x v (by simpa using f) (by simpa using e)) c]
 | [],_::_,_,_,h,_,_=>by simp at h
 | _::_,[],_,_,h,_,_=>by simp at h
def jol (xs:List Value):Value :=
 match xs with
 | [x]=>x
 | xs=>.tuple xs.toArray
end
section
variable {P:Program}{E:Env}{w0 w:World}{I0:IMap}{nt:Nat}{γ τ:Nat->Option Place}{I I':IMap}{st:St}{a:Act}{B:Nat}{Ω:Nat->Option Owner}
def jom (tmps:Array Value):ResultVar->Sem Value
 | .tmp t=>pure (tmps.getD t undef)
 | .cell a t=>do loadVar t (<- asAddr (tmps.getD a undef))
theorem jtk (p:R E w0 I0 nt γ I st a w) {rv:ResultVar}{r:ARes}{v:V}(h:Yl P rv=some r) (d:jo st r=some v):∃x,(jom a.tmps rv).run P w=.ok x w/\Rep γ I x v:=by
 cases rv with
 | tmp t=>simp only[Yl,ab]at h;subst h;simp only[jo,ab]at d;subst d;exact⟨_,rfl,p.tm t⟩
 | cell n t=>
  simp only[Yl]at h;obtain⟨g,z,rfl⟩:=map_some h;simp only[jo]at d;split at d;rename_i l u off D;have q:=p.tm n;rw[D]at q;obtain⟨b,K,f,i⟩:=Yg q;obtain⟨cs,m,k⟩:=bind_some d;obtain⟨arr,e,y,H,J,s⟩:=QC p (jf m) f;have c:∀j,off+j<cs.length->arr[off+j]? = some (arr.getD (off+j) undef):=by intro j o;have:off+j<arr.size:=zO;simp[this]
  obtain⟨F,G⟩:=ji0 (γ:=γ) (I:=I) k (λj=>arr.getD (off+j) undef) (λj u o f=>s _ _ _ (c j (ak.1 f).1) f);refine⟨_,?_,G⟩;simp only[jom,i,asAddr,aB,aE,ah];exact jae z (λj=>arr.getD (off+j) undef) _ rfl (λj o=>by
   simp only[World.cell?,y,cJ,aj,if_false];exact c j (F j o))
  cases d
theorem jg9 (o:R E w0 I0 nt γ I st a w):∀ (b:List ResultVar) (f:List ARes) (vs:List V),b.mapM (Yl P)=some f->f.mapM (jo st)=some vs ->
 ∃e:List Value,e.length=vs.length/\(b.mapM (jom a.tmps)).run P w=.ok e w/\∀ (j:Nat) (x:Value) (v:V),e[j]? = some x->vs[j]? = some v->Rep γ I x v
 | [],f,vs,h1,h2=>by simp at h1;subst h1;simp at h2;subst h2;exact⟨[],rfl,rfl,λj x v h=>by simp at h⟩
 | rv::b,f,vs,h1,h2=>by
  simp only[bL]at h1;cases g:Yl P rv with
  | none=>simp[g]at h1
  | some r=>
   cases k:b.mapM (Yl P) with
   | none=>simp[g,k]at h1
   | some d=>
    simp[g,k]at h1;subst h1;simp only[bL]at h2;cases i:jo st r with
    | none=>simp[i]at h2
    | some v=>
     cases c:d.mapM (jo st) with
     | none=>simp[i,c]at h2
     | some n=>
      simp[i,c]at h2;subst h2;obtain⟨x,p,q⟩:=jtk o g i;obtain⟨e,s,z,t⟩:=jg9 o b d n k c;refine⟨x::e,by simp[s],?_,λj y u l m=>?_⟩;simp only[bL,aB,p,ah,z,aE];cases j with
      | zero=>simp only[aD,ab]at l m;subst l;subst m;exact q
      | succ j=>exact t j y u (by simpa using l) (by simpa using m)
theorem jg8 (l:R E w0 I0 nt γ I st a w) {c:Func}{d:List ARes}{vs:List V}(m:c.results.toList.mapM (Yl P)=some d) (k:d.mapM (jo st)=some vs) :
 ∃b:List Value,b.length=vs.length/\(results c a.tmps).run P w=.ok (jol b) w/\∀ (j:Nat) (x:Value) (v:V),b[j]? = some x->vs[j]? = some v->Rep γ I x v:=by
 obtain⟨b,e,f,g⟩:=jg9 l _ _ _ m k;refine⟨b,e,?_,g⟩;have i:(results c a.tmps)=(c.results.mapM (jom a.tmps) >>= λvs=>pure (if h:vs.size=1 then vs[0] else .tuple vs)):=by unfold results;congr 1
 rw[i,Array.mapM_eq_mapM_toList];simp only[map_eq_pure_bind,aB,f,ah,aE];congr 1;match b with
 | []=>rfl
 | [x]=>rfl
 | x::y::r=>simp[jol]
theorem jr4 {f:Type}{l:List (Nat × f)}(d:(l.map (·.1)).Nodup) {i:Nat}{u:f}(b:(i,u)∈l):(l.find? λp=>Nat.beq p.1 i)=some (i,u):=by
 induction l with
 | nil=>cases b
 | cons p l g=>
  obtain⟨j,v⟩:=p;simp only[bt,dN]at d;rcases br.1 b with he|b;cases he;simp[List.find?,cI];have c:¬ j=i:=λe=>d.1 (aJ.2 ⟨_,b,e.symm⟩)
  have:Nat.beq j i=false:=by
   cases h:Nat.beq j i with
   | false=>rfl
   | true=>exact absurd (bm h) c
  simp only[List.find?,this];exact g d.2 b
theorem j8l (hR:R E w0 I0 nt γ I st a w) {xs:List Value}{vs:List V}{r:V}(d:xs.length=vs.length) (hr:∀ (j:Nat) (x:Value) (v:V),xs[j]? = some x->vs[j]? = some v->Rep γ I x v)
 (ho:Yd st vs=some r) :
 ∃τ I',(∀b o x,I b o=some x->I' b o=some x)/\jl7 I' w/\(∀b o,b<w0.heap.size->I' b o=I b o)/\jw2 τ I' (jol xs) r/\jl3 w0.heap.size τ I' w r:=by
 classical
 obtain⟨Ω,c⟩:=hR.own
 let C:Nat->Nat->Prop:=λb o=>w0.heap.size<=b/\∃l u cs k,st.ob l=some ⟨u,.cells cs⟩/\γ u=some (.obj b k)/\o<cs.length
 let I':IMap:=λb o=>match I b o with
  | some x=>some x
  | none=>if C b o then w.cell? ⟨b,o,none⟩ else none
 have q:∀b o x,I b o=some x->I' b o=some x:=by
  intro b o x h
  simp only[I',h]
 have hz:jdo γ w0.heap.size st w I I':=⟨q,λb k o x l u cs hb M O c7 hc=>by
  obtain⟨b',X,k1,_,_,_,k5⟩:=c.ob l _ M
  rw[O]at k1
  cases k1
  simp only[I',k5]
  rw[if_pos ⟨hb,l,u,cs,k,M,O,c7⟩]
  exact hc⟩
 have a0:jl7 I' w:=by
  intro b o x h
  simp only[I']at h
  split at h
  ·rename_i y z
   cases h
   exact hR.imm _ _ _ z
  ·split at h
   ·exact h
   ·cases h
 have b9:∀b o,b<w0.heap.size->I' b o=I b o:=by
  intro b o hb
  simp only[I']
  split
  ·rename_i y z;exact z.symm
  ·rename_i z
   rw[if_neg (λh=>Nat.not_lt_of_le h.1 hb)]
   exact z.symm
 unfold Yd at ho
 obtain⟨l,M,ho⟩:=bind_some ho
 simp only[aC]at ho
 obtain⟨d1,c3⟩:=ho
 generalize U:nodup (vs.flatMap V.toks)=keep at M
 let N:=plTops γ st keep 0 xs vs
 let τ:Nat->Option Place:=λi=>(N.find? λp=>Nat.beq p.1 i).bind λp=>p.2.2
 obtain⟨b7,c1⟩:=je8 (γ:=γ) (I:=I) 0 xs vs l d hr M
 have J:=jfb (γ:=γ) (I:=I) xs vs l 0 d hr M
 have c0:(N.map (·.1)).Nodup:=by
  rw[<- J]
  exact QZ d1
 have Q:∀p∈N,τ p.1=p.2.2:=by
  intro p K
  obtain⟨i,u⟩:=p
  simp only[τ,jr4 c0 K,am]
 obtain⟨h1,D⟩:=WD (τ:=τ) c hz xs vs l 0 d hr M Q
 have m:toksRes r=N.map (·.1):=by
  rw[<- J]
  match l,D,c3 with
  | [],_,rfl=>rfl
  | [v],D,rfl=>
   match xs,d,h1 with
   | [x],_,_=>
    have:=(D 0 x v rfl rfl).2
    simp only[bl,gu,aS]
    cases v <;> first|rfl|exact absurd rfl (this _)
   | [],e1,e2=>simp at e1 e2;omega
   | _::_::_,e1,e2=>simp at e1 e2;omega
  | v::v'::Z,_,rfl=>rfl
 have c2:jw2 τ I' (jol xs) r:=by
  have c8:xs.length=l.length:=d.trans h1.symm
  match l,xs,c8,D,c3 with
  | [],[],_,_,rfl=>exact⟨#[],rfl,rfl,λj y u z=>by simp at z⟩
  | [v],[x],_,D,rfl=>
   obtain⟨k1,k2⟩:=D 0 x v rfl rfl
   cases v <;> first|exact k1|exact absurd rfl (k2 _)
  | v::v'::Z,x::x'::xs',e,D,rfl=>exact⟨(x::x'::xs').toArray,rfl,by simpa using e,λj y u z O=>(D j y u (by simpa using z) O).1⟩
 refine⟨τ,I',q,a0,b9,c2,?_⟩
 have b5:keep=true->(N.map (·.2.1)).Nodup:=λhk=>b7.nodup (QZ (by rw[U,hk]))
 -- whose block it is
 have F:∀p∈N,∃b n f t,p.2.2=some (.tok b n f t)/\w0.heap.size<=b/\b<w.heap.size/\j6x w.heap[b]? n f t/\(∀j,n*t<=j->I' b j=none) /\
  (Ω b=some (.tk p.2.1)\/∃l cs k,Ω b=some (.ob l)/\st.ob l=some ⟨p.2.1,.cells cs⟩/\γ p.2.1=some (.obj b k)):=by
  intro p K
  obtain⟨hk,O|⟨l,cs,b,k,n,f,t,S,G,q3,q4,q5,s,q7,q8,q9⟩⟩:=c1 p K
  ·obtain⟨b,n,f,t,S,G,q3,q4,q5⟩:=c.tk p.2.1 O.1
   refine⟨b,n,f,t,O.2.trans S,q3,c.lt _ _ G,q4,λj hj=>?_,.inl G⟩
   have hn:=q5 j hj
   simp only[I',hn]
   rw[if_neg]
   rintro⟨_,Z,u',b6,X,H,r2,_⟩
   obtain⟨b',c5,t1,t2,_⟩:=c.ob Z _ H
   rw[r2]at t1
   cases t1
   rw[G]at t2
   cases t2
  ·obtain⟨b',X,t1,t2,t3,⟨arr,e,g1,g2,g3,g4⟩,t5⟩:=c.ob l _ S
   rw[G]at t1
   cases t1
   refine⟨b,n,f,t,q3,t3 (by simpa[ce] using q9),c.lt _ _ t2,⟨arr,e,g1,by rw[g2];exact q8,s,q7⟩,λj hj=>?_,.inr ⟨l,cs,k,t2,S,G⟩⟩
   simp only[I',t5]
   rw[if_neg]
   rintro⟨_,Z,u',b6,X,H,r2,r3⟩
   obtain⟨b',c5,s1,s2,_⟩:=c.ob Z _ H
   rw[r2]at s1
   cases s1
   rw[t2]at s2
   cases s2
   rw[S]at H
   cases H
   omega
 intro i hi
 rw[m]at hi
 obtain⟨⟨i',u,pp⟩,K,rfl⟩:=aJ.1 hi
 obtain⟨b,n,f,t,S,G,q3,q4,q5,s⟩:=F _ K
 refine⟨b,n,f,t,(Q _ K).trans S,G,q3,q4,q5,λi2 b0 n' c' s' he=>?_⟩
 rw[m]at b0
 obtain⟨⟨i3,u3,d4⟩,L,rfl⟩:=aJ.1 b0
 obtain⟨b3,n3,d2,d3,H,r2,r3,r4,r5,g⟩:=F _ L
 have e3:=(Q _ L).symm.trans he
 simp only at e3
 simp only at H
 rw[H]at e3
 cases e3
 have hk:=(c1 _ K).1
 have d0:u3=u:=by
  simp only at s g
  rcases s with s|⟨l,cs,k,s,q7,q8⟩ <;> rcases g with g|⟨Z,b6,X,g,r7,r8⟩
  ·rw[s]at g;cases g;rfl
  ·rw[s]at g;cases g
  ·rw[s]at g;cases g
  ·rw[s]at g;cases g
   rw[q7]at r7;cases r7;rfl
 subst d0
 have:=b5 hk
 obtain⟨k,c9,b8⟩:=bH K
 obtain⟨X,c6,T⟩:=bH L
 have c4:X=k:=by
  refine(List.getElem_inj (xs:=N.map (·.2.1)) (h₀:=by simpa using c6) (h₁:=by simpa using c9) this).1 ?_
  simp[b8,T]
 subst c4
 rw[b8]at T
 cases T
 rfl
end
section
variable {P:Program}{E:Env}{τ:Nat->Option Place}{I I' I1:IMap}{B:Nat}
theorem jlh (e:∀b o,B<=b->I' b o=I1 b o) {x:Value}{v:V}(h:jw4 τ I1 x v) (d:v.freeL=true) (r:∀i∈v.tok,∃b n a k,τ i=some (.tok b n a k)/\B<=b):jw4 τ I' x v:=by
 cases v with
 | sl t H n cs=>
  cases t with
  | none=>exact ja5 (show RepP I1 x _ from h) d
  | some q=>
   obtain⟨u,z⟩:=q;have s:Rep τ I1 x (.sl (some (u,z)) H n cs):=h;cases s with
   | pure _ _ h=>cases h
   | tsl _ b _ a _ _ F m c M K G w y=>obtain⟨O,N,g,D,f,J⟩:=r u (by simp[V.tok]);rw[m]at f;cases f;refine Rep.tsl u b n a z cs F m c M K (λj L=>(e _ _ J).trans (G j L)) w (λj v p=>ja5 (y j v p) ?_);exact aw.1 (show cs.all V.scal=true from d) v (aI p)
 | osl l u off n k=>cases d
 | _=>first|(cases d;done)|exact ja5 (show RepP I1 x _ from h) d
theorem jxs {x:Value}{v:V}(h:∀cs,v≠.agg cs):jr6 τ I x v=jw4 τ I x v:=by cases v <;> first|rfl|exact absurd rfl (h _)
theorem jyf {x:Value}{v:V}(h:∀cs,v≠.tup cs):jw2 τ I x v=jr6 τ I x v:=by cases v <;> first|rfl|exact absurd rfl (h _)
theorem jpk (a:∀b o,B<=b->I' b o=I1 b o) {x:Value}{v:V}(h:jr6 τ I1 x v) (d:v.freeT=true) (f:∀i∈v.toks,∃b n c k,τ i=some (.tok b n c k)/\B<=b):jr6 τ I' x v:=by
 cases v with
 | agg cs=>obtain⟨p,rfl,s,l,q⟩:=h;refine⟨p,rfl,s,l,λj y u m e=>?_⟩;have g:=aI e;exact jlh a (q j y u m e) (aw.1 (show cs.all V.freeL=true from d) u g) (λi r=>f i (cg.2 ⟨u,g,r⟩))
 | _=>rw[jxs (λ_ h=>by cases h)]at h ⊢;exact jlh a h d f
theorem j0q (a:∀b o,B<=b->I' b o=I1 b o) {x:Value}{v:V}(h:jw2 τ I1 x v) (d:v.freeR=true) (f:∀i∈toksRes v,∃b n c k,τ i=some (.tok b n c k)/\B<=b):jw2 τ I' x v:=by
 cases v with
 | tup r=>obtain⟨p,rfl,s,l⟩:=h;refine⟨p,rfl,s,λj y u m e=>?_⟩;have g:=aI e;exact jpk a (l j y u m e) (aw.1 (show r.all V.freeT=true from d) u g) (λi q=>f i (cg.2 ⟨u,g,q⟩))
 | _=>rw[jyf (λ_ h=>by cases h)]at h ⊢;exact jpk a h d f
theorem frz_ok {f:FuncId}{args c:List V}{ob:ZO}{ub:Nat}{r:V}(hp:jl5 P E f c r) (ha:args.mapM (WL ob)=some c) (U:r.freeR=true):ObsOk P E f args ob ub r:=by
 intro w0 w I0 I γ Z st G a O H q;obtain⟨p,s⟩:=jpj G a ha q;have z:∀b o x,I b o=some x->b<w.heap.size:=by intro b o x L;have:=a.imm b o x L;apply dm;intro hn;have D:w.heap[b]? = none:=ii zO;simp[World.cell?,D]at this
 refine(hp w (λb o=>w.cell? ⟨b,o,none⟩) Z (λ_ _ _ h=>h) (λg cs F=>(a.gl g cs F).mono a.imm) (H.trans p.symm) s).mono λe w' he=>?_;obtain⟨x,τ,I1,rfl,F,T,m,N,L,M⟩:=he;have l:∀b o,w.heap.size<=b->(λb o=>if b<w.heap.size then I b o else I1 b o) b o=I1 b o:=λb o h=>if_neg zO;refine⟨x,τ,λb o=>if b<w.heap.size then I b o else I1 b o,rfl,F,λb o y k=>?_,λb o y k=>?_,λb o D=>if_pos D,j0q l L U (λi K=>?_),λi K=>?_⟩;simp only[z b o y k,if_true];exact k;simp only at k;split at k;exact m b o y (T b o y (a.imm b o y k));exact m b o y k;obtain⟨b,n,d,J,u,t,_⟩:=M i K;exact⟨b,n,d,J,u,t⟩;obtain⟨b,n,d,J,u,t,Q,k4,S,X⟩:=M i K;exact⟨b,n,d,J,u,t,Q,k4,λj hj=>(l b j t).trans (S j hj),X⟩
end
theorem jcx {n m:Nat}(h:n<=m):∀c:C,c.dstOk n=true->c.dstOk m=true:=by
 have one:∀e:List AOpr,(e.all λo=>match o.dst with|some d=>Nat.blt d n|none=>true)=true->(e.all λo=>match o.dst with|some d=>Nat.blt d m|none=>true)=true:=by intro e t;refine aw.2 λo w=>?_;have:=aw.1 t o w;split;rename_i d r;simp only[r,dp]at this;simp only[dp];omega;rfl
 intro c;induction c with
 | region e=>exact one e
 | draw e f=>exact one e
 | pin o fs=>exact one (o::fs)
 | seq a b j g=>simp only[C.dstOk,ai];exact λ⟨l,k⟩=>⟨j l,g k⟩
 | cond q a b j g=>simp only[C.dstOk,ai];exact λ⟨l,k⟩=>⟨j l,g k⟩
 | block i a s=>exact s
 | loop a s=>exact s
 | rangeFunc f y a b j g=>simp only[C.dstOk,ai];rintro⟨⟨l,k⟩,x⟩;refine⟨⟨aw.2 λp u=>?_,j k⟩,g x⟩;have:=aw.1 l p u;simp only[dp]at this ⊢;omega
 | _=>exact λ_=>rfl
section
variable {P:Program}{E:Env}
theorem jnk {γ:Nat->Option Place}{I:IMap}{xs:Array Value}{args:List V}{k:Nat}(e:xs.size=args.length) (h:∀ (j:Nat) (x:Value) (v:V),xs[j]? = some x->args[j]? = some v->Rep γ I x v) (t:Nat) :
 Rep γ I ((xs++Array.replicate k undef).getD t undef) (args.getD t ju):=by
 by_cases c:t<xs.size;have b:(xs++Array.replicate k undef).getD t undef=xs[t]:=by simp[c,cl]
 have a:args.getD t ju=args[t]' zO:=by have:t<args.length:=zO;simp[this]
 rw[b,a];exact h t _ _ (aA c) (aa zO);have b:(xs++Array.replicate k undef).getD t undef=undef:=by simp only[dh];rw[dR zO];by_cases d:t - xs.size<k <;> simp[d]
 have a:args.getD t ju=ju:=by have:args.length<=t:=zO;simp[this]
 rw[b,a];exact jkf
theorem jk8 {w0:World}{I0 I:IMap}{γ:Nat->Option Place}{r:Func}{tmps:Array Value}{t:Ending->World->Prop}{st:St}:∀ (df:List (Nat × Nat)) (l:List Deferred) (ob:ZO) (w:World),
 Sh E w0 I0 γ I { st with ob:=ob } w->DfOk γ df l->(∀x∈df,ob x.1=some ⟨x.2,.dfr⟩/\Nat.ble st.ro x.2=true)->(df.map (·.1)).Nodup ->
 (∀j,Sh E w0 I0 γ I { st with ob:=λk=>if df.any (λx=>Nat.beq x.1 k) then none else ob k } j->LeavesIn (FW none) 0 P r tmps t [] .returning j)->LeavesInM (FW none) 0 P r tmps t l .returning w
 | [],[],ob,w,hSh,_,_,_,hK=>hK w (hSh.congr (funext λk=>by simp) rfl rfl)
 | x::df,d::l,ob,w,hSh,hdf,hob,hnd,hK=>by
  obtain⟨⟨b,k,rfl,s⟩,i⟩:=hdf;obtain⟨o,u⟩:=hob x (aP ..);have g:w.heap[b]? = some (.deferred (some [])):=jhj hSh o s;have m:=run_takeDeferred (P:=P) g;simp only[bt,dN]at hnd;have f:=hSh.turn (ob':=λk=>if Nat.beq x.1 k then none else ob k) (o':=.deferred none) o s u (λD y c=>by
   split at c;cases c;rename_i a;exact .inl ⟨λe=>a (by rw[e];exact cI _),c⟩)
  refine⟨(λh=>by cases h),.inl ⟨b,_,rfl,m,?_⟩⟩;refine jk8 df l (λk=>if Nat.beq x.1 k then none else ob k) _ (f.congr rfl rfl rfl) i (λy c=>?_) hnd.2 (λj h=>?_);obtain⟨z,B⟩:=hob y (bf _ c);refine⟨?_,B⟩;have a:¬ Nat.beq x.1 y.1=true:=λe=>hnd.1 (by rw[bm e];exact aJ.2 ⟨y,c,rfl⟩);simp only[a,aj,if_false];exact z;refine hK j (h.congr (funext λk=>?_) rfl rfl);simp only[bu,bA];have n:∀p q:Bool,(if p=true\/q=true then none else ob k)=if q=true then none else if p=true then none else ob k:=by intro p q;cases p <;> cases q <;> rfl
  exact n _ _
 | [],_::_,_,_,_,h,_,_,_=>h.elim
 | _::_,[],_,_,_,h,_,_,_=>h.elim
theorem jzl {w0 w:World}{I0 I:IMap}{γ:Nat->Option Place}{i:Nat}{g:Func}{st:St}{a:Act}{j:Ending->World->Prop}(f:R E w0 I0 i γ I st a w) (d:j2u st=true)
 (n:∀b,R E w0 I0 i γ I st.noDf { tmps:=a.tmps,defers:=[] } b->∃v,(results g a.tmps).run P b=.ok v b/\j (.returned v) b):LeavesInM (FW none) 0 P g a.tmps j a.defers .returning w:=by
 unfold j2u at d;simp only[ai]at d;refine jk8 (st:=st) st.df a.defers st.ob w (f.sh.congr rfl rfl rfl) f.df (λx m=>?_) (QZ d.2) (λb h=>?_);have:=aw.1 d.1 x m;split at this;rename_i u l;simp only[ai]at this;have e:=bm this.1;subst e;exact⟨l,this.2⟩;cases this;have c:st.noDf.tm=st.tm/\st.noDf.tk=st.tk/\st.noDf.ro=st.ro/\st.noDf.df=[]/\st.noDf.ob=λk=>if st.df.any (λx=>Nat.beq x.1 k) then none else st.ob k:=by unfold St.noDf;split;rename_i e;exact⟨rfl,rfl,rfl,e,by rw[e];funext k;simp⟩;exact⟨rfl,rfl,rfl,rfl,rfl⟩
 exact n b ⟨f.sz,by rw[c.2.2.2.1];trivial,by rw[c.1];exact f.tm,h.congr c.2.2.2.2 c.2.1 c.2.2.1⟩
theorem jdm {c:Func}{b:Ending->World->Prop}{e:Ex}{a:Act}{w:World}(h:e=.nrm\/e=.ret) (d:LeavesInM (FW none) 0 P c a.tmps b a.defers .returning w):bodyPostM (FW none) 0 P c b (exOf e) a w:=by rcases h with rfl|rfl <;> exact d
theorem jzi {b c:Type}{f:b->Option c}{l:List b}{L:List c}(h:l.mapM f=some L) {z:b}(g:z∈l):∃r∈L,f z=some r:=by obtain⟨j,d⟩:=jy h;obtain⟨i,e,rfl⟩:=bH g;have a:i<L.length:=zO;exact⟨L[i],av a,d i _ _ (aa e) (aa a)⟩
theorem jh7 (hm:P.follows .mixedOrders=true) (hE:EnvOk P E):∀n,jl8 P E (callers E n)
 | 0=>λγ0 Iy y hy=>⟨λf g r h=>(by cases h),λf g ob tk b u r h=>(by cases h),λf g ob tk ro Q ub l h=>(by cases h),hy,hE.nw⟩
 | n+1=>by
  have ih:=jh7 hm hE n
  intro γ0 Iy y hy
  -- the results of a function that shares nothing,and of one that only looks
  have b5:∀ {D:Func}{M:AF}{r:V}{w0 w:World}{I0 I:IMap}{γ:Nat->Option Place}{nt:Nat}{st:St}{a:Act}{e:Ex}{Rp:Ending->World->Prop},D.results.toList.mapM (Yl P)=some M.res->R E w0 I0 nt γ I st a w->jas M.res (e,st)=some r ->
   (∀x τ I' w',w0.grownBy w' none->(∀b o x,I b o=some x->I' b o=some x)->jl7 I' w'->(∀b o,b<w0.heap.size->I' b o=I0 b o)->jw2 τ I' x r->jl3 w0.heap.size τ I' w' r->Rp (.returned x) w') ->
   bodyPostM (FW none) 0 P D Rp (exOf e) a w:=by
   intro D M r w0 w I0 I γ nt st a e Rp p hR he hK
   have S:e=.nrm\/e=.ret:=by cases e <;> first|exact .inl rfl|exact .inr rfl|cases he
   have b6:(if j2u st then (M.res.mapM (jo st.noDf)).bind (Yd st.noDf) else none)=some r:=by rcases S with rfl|rfl <;> exact he
   simp only[aC]at b6
   obtain⟨hd,b6⟩:=b6
   refine jdm S (jzl hR hd λw' i=>?_)
   obtain⟨vs,c2,c7⟩:=bind_some b6
   obtain⟨ys,k1,k2,k3⟩:=jg8 i p c2
   obtain⟨τ,I2,q1,q2,q3,q4,q5⟩:=j8l i k1 k3 c7
   exact⟨_,k2,hK _ τ I2 _ i.fr q1 q2 (λb o T=>(q3 b o T).trans (i.old b o T)) q4 q5⟩
  refine⟨λf g r h=>?_,λf g ob tk Q ub r h=>?_,λf g ob tk ro Q ub L h=>?_,hy,hE.nw⟩
  ·simp only[callers]at h
   obtain⟨M,Z,h⟩:=bind_some h
   obtain⟨m,D,c,J,T,q,p,B,H⟩:=hE.fc f M Z
   refine⟨⟨D,c,J,T,B⟩,λw I G c5 d7 X K=>?_⟩
   obtain⟨l,hx,b0⟩:=jkq h
   refine jf9 (callsIn_of_wp_marks (F:=FW none) (n:=0) J T trivial ?_)
   have U:D.ntmps<=(G++Array.replicate (D.ntmps - G.size) undef).size:=by simp;omega
   have hR:R E w I (G++Array.replicate (D.ntmps - G.size) undef).size (λ_=>none) I (start g) { tmps:=G++Array.replicate (D.ntmps - G.size) undef,defers:=[] } w :=
    ⟨rfl,trivial,λt=>jnk X (λj x v hx hv=>.pure _ _ (K j x v hx hv)) t,⟨c5,d7,⟨λ_=>none,⟨λl o h=>(by cases h),λu h=>(by cases h),λb o h=>(by cases h)⟩⟩,⟨rfl,rfl,rfl,zK,λ_ _ _=>rfl⟩,λ_ _ _=>rfl⟩⟩
   refine jnu hm ih n (y:=noY) (γ0:=λ_=>none) (Iy:=I) jk0 c M.body m false none (.inr rfl) q (jcx U _ H) w I _ _ l _ _ _ _ (SubG.refl _) (SubI.refl _) hx hR (λ_ _=>rfl) (λy hy=>?_)
   obtain⟨e,s⟩:=y
   intro c4 I' a' w' i c1 hg hI
   refine b5 p i (b0 _ hy) (λx τ I2 w2 O h3 h4 h5 h6 h7=>?_)
   exact⟨x,τ,I2,rfl,O,λb o x h=>h3 b o x (hI b o x h),h4,h5,h6,h7⟩
  ·simp only[callers]at h
   by_cases c6:E.fz f
   ·simp only[c6,if_true]at h
    obtain⟨N,ha,h⟩:=bind_some h
    obtain⟨r',h1,O⟩:=bind_some h
    simp only[aC,ab]at O
    obtain⟨O,rfl⟩:=O
    have hd:=(ih γ0 Iy noY jk0).d f N r' h1
    exact⟨hd.1,frz_ok hd.2 ha O⟩
   simp only[c6,aj,if_false]at h
   obtain⟨M,Z,h⟩:=bind_some h
   obtain⟨m,D,c,J,T,q,p,B,H⟩:=hE.fs f M Z
   refine⟨⟨D,c,J,T,B⟩,λw0 w I0 I γ G st b9 a0 b7 X K=>?_⟩
   obtain⟨l,hx,b0⟩:=jkq h
   refine jf9 (callsIn_of_wp_marks (F:=FW none) (n:=0) J T trivial ?_)
   have U:D.ntmps<=(G++Array.replicate (D.ntmps - G.size) undef).size:=by simp;omega
   have hR:R E w I (G++Array.replicate (D.ntmps - G.size) undef).size γ I (Jy g ob (λ_=>false) ub Q ub) { tmps:=G++Array.replicate (D.ntmps - G.size) undef,defers:=[] } w:=by
    obtain⟨Ω,ho⟩:=a0.own
    refine⟨rfl,trivial,λt=>jnk X K t,⟨a0.imm,a0.gl,⟨Ω,⟨λl o hl=>?_,λu h=>(by cases h),ho.lt⟩⟩,⟨rfl,rfl,rfl,zK,λ_ _ _=>rfl⟩,λ_ _ _=>rfl⟩⟩
    have e0:st.ob l=some o:=b9 l o hl
    obtain⟨b,k,h1,O,h3,h4,h5⟩:=ho.ob l o e0
    refine⟨b,k,h1,O,λc3=>?_,h4.keep (λl2 u2 e2 e3 mb mk _ d2=>.inl ⟨b9 _ _ d2,λm c hm=>hm⟩),h5⟩
    rw[b7 _ c3]at h1
    cases h1
   refine jnu hm ih n (y:=noY) (γ0:=γ) (Iy:=I) jk0 c M.body m true none (.inr rfl) q (jcx U _ H) w I _ _ l _ _ _ _ (SubG.refl _) (SubI.refl _) hx hR b7 (λy hy=>?_)
   obtain⟨e,s⟩:=y
   intro c4 I' a' w' i c1 hg hI
   refine b5 p i (b0 _ hy) (λx τ I2 w2 O h3 h4 h5 h6 h7=>?_)
   exact⟨x,τ,I2,rfl,O,λb o x h=>h3 b o x (hI b o x h),h4,h5,h6,h7⟩
  ·simp only[callers]at h
   by_cases c8:E.tw f
   ·simp only[c8,if_true]at h
    obtain⟨N,ha,h⟩:=bind_some h
    obtain⟨r',h1,O⟩:=bind_some h
    have hd:=(ih γ0 Iy noY jk0).d f N r' h1
    obtain⟨⟨_,_,_,_⟩,h3,rfl⟩:=map_some O
    exact⟨hd.1,j3g hd.2 ha h3⟩
   simp only[c8,aj,if_false]at h
   cases b8:E.srt f with
   | some m=>
    simp only[b8]at h
    obtain⟨⟨_,_,_,_⟩,h3,rfl⟩:=map_some h
    exact⟨(hE.srt f m b8).1,j3k (hE.srt f m b8) h3⟩
   | none=>
   simp only[b8]at h
   obtain⟨M,Z,h⟩:=bind_some h
   obtain⟨m,D,c,J,T,q,p,B,H⟩:=hE.fs f M Z
   refine⟨⟨D,c,J,T,B⟩,λw0 w I0 I γ G st d5 d9 b9 d8 c3 a0 b7 X K=>?_⟩
   obtain⟨l0,hx,h⟩:=bind_some h
   have h:l0.mapM (endS M.res)=some L:=by
    split at h
    ·exact h
    ·split at h
     ·obtain⟨r,h1,rfl⟩:=map_some h
      simp only[bL,h1,fW]
      rfl
     ·cases h
   refine jf9 (callsIn_of_wp_marks (F:=FW none) (n:=0) J T trivial ?_)
   have U:D.ntmps<=(G++Array.replicate (D.ntmps - G.size) undef).size:=by simp;omega
   have hR:R E w0 I0 (G++Array.replicate (D.ntmps - G.size) undef).size γ I (Jy g ob tk ro Q ub) { tmps:=G++Array.replicate (D.ntmps - G.size) undef,defers:=[] } w :=
    ⟨rfl,trivial,λt=>jnk X K t,a0.congr b9.symm d8.symm c3.symm⟩
   refine jnu hm ih n (y:=y) hy c M.body m true none (.inr rfl) q (jcx U _ H) w0 I0 _ _ l0 _ _ _ _ d5 d9 hx hR b7 (λz hz=>?_)
   have c9:=jje _ hx _ hz
   obtain⟨⟨r,d6,d3,e1⟩,d0,h⟩:=jzi h hz
   obtain⟨e,s⟩:=z
   intro c4 I' a' w' i c1 hg hI
   have S:e=.nrm\/e=.ret:=by cases e <;> first|exact .inl rfl|exact .inr rfl|cases h
   have h':(if s.df.isEmpty then (M.res.mapM (jo s)).map λl=>(match l with | [v]=>v|l=>.tup l,s.ob,s.tk,s.nx) else none)=some (r,d6,d3,e1):=by rcases S with rfl|rfl <;> exact h
   simp only[aC]at h'
   obtain⟨c0,h'⟩:=h'
   have c0:s.df=[]:=gq.1 c0
   have d4:a'.defers=[]:=by
    have:=i.df
    simp only[c0]at this
    cases d1:a'.defers with
    | nil=>rfl
    | cons d ds=>rw[d1]at this;exact this.elim
   refine jdm S ?_
   rw[d4]
   obtain⟨vs,c2,he⟩:=map_some h'
   obtain⟨ys,k1,k2,k3⟩:=jg8 i p c2
   simp only[bW]at he
   obtain⟨he,rfl,rfl,rfl⟩:=he
   refine⟨_,k2,_,d0,_,c4,I',rfl,λe4 h1 O h3=>i.sh.congr h1 O (h3.trans c9.symm),?_,hg,hI,c1⟩
   match ys,vs,k1,k3,he with
   | [],[],_,_,rfl=>exact .tup _ _ rfl (λj y u hy=>by simp at hy)
   | [y],[v],_,k3,rfl=>exact k3 0 y v rfl rfl
   | y::y'::ys,v::v'::vs,e,k3,rfl=>exact .tup _ _ (by simpa using e) (λj z u hz hu=>k3 j z u (by simpa using hz) hu)
theorem Ev.sound (b:P.follows .mixedOrders=true) (a:EnvOk P E) {f:FuncId}{args:List V}{r:V}(h:Ev E f args r):jl5 P E f args r:=by obtain⟨n,h⟩:=h;exact((jh7 b a n (λ_=>none) (λ_ _=>none) noY jk0).d f args r h).2
end
end Go.Pv
