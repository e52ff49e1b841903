/- Part. -/
import Derived.Test.YtmanndcfeicokaaGreatDoorQK
set_option maxRecDepth 100000
set_option maxHeartbeats 8000000
set_option linter.all false
namespace Go.Pv.T
open Go Go.Pv
def jtf (f:Nat->Bool):Nat->Bool
 |0=>true
 |k+1=>jtf f k&&f k
def andTo_iff {f:Nat->Bool}:∀{n:Nat},jtf f n=true ↔ ∀k,k<n->f k=true
 |0=>by simp[jtf]
 |n+1=>by rw[jtf,aj,andTo_iff];constructor;rintro⟨h,b⟩ k a;rcases cD k n with h1|h1;exact h k h1;have:k=n:=zO;exact this▸b;exact λh=>⟨λk a=>h k zO,h n zO⟩
def jn1 (f:Nat->Bool):Nat->List Int
 |0=>[]
 |k+1=>jn1 f k++(if f k then [(k:Int)] else [])
def filTo_mem {f:Nat->Bool}{x:Int}:∀{n:Nat},x∈jn1 f n ↔ ∃k:Nat,k<n/\x=k/\f k=true
 |0=>by simp[jn1]
 |n+1=>by rw[jn1,aP,filTo_mem];constructor;rintro(⟨k,d,a,b⟩|h);exact⟨k,zO,a,b⟩;cases c:f n;simp[c]at h;simp[c]at h;exact⟨n,zO,h,c⟩;rintro⟨k,d,a,b⟩;rcases cD k n with h|h;exact .inl ⟨k,h,a,b⟩;have:k=n:=zO;subst this;exact .inr (by simp[b,a])
def Xv (g:Hist') (a:Nat):Bool:=match g.ts[a]? with|some t=>Y8 t|none=>false
def yC (g:Hist') (a:Nat):Int:=match g.ts[a]? with|some t=>t.s|none=>0
def joq (p:Txn'->Bool) (ts:List Txn') (a:Nat):Bool:=match ts[a]? with|some t=>p t|none=>false
def Qk (p:Txn'->Bool) (ts:List Txn'):∀n,yq p ts n=jn1 (joq p ts) n
 |0=>rfl
 |n+1=>by rw[yq,jn1,Qk p ts n];congr 1;unfold joq;cases ts[n]?<;>rfl
def Xc {g:Hist'}{a:Nat}(h:Xv g a=true):a<g.ts.length:=by
 unfold Xv at h;cases b:g.ts[a]? with
 |none=>rw[b]at h;cases h
 |some t=>exact(ag.1 b).1
def yl (g:Hist'):List Int:=yq Y8 g.ts g.ts.length
def comL_mem {g:Hist'}{x:Int}:x∈yl g ↔ ∃k:Nat,x=k/\Xv g k=true:=by rw[yl,Qk,filTo_mem];exact⟨λ⟨k,_,b,a⟩=>⟨k,b,a⟩,λ⟨k,b,a⟩=>⟨k,Xc a,b,a⟩⟩
def jfy {g:Hist'}(h:jW g=true):comH g=yl g:=by rw[comH,zb h];rfl
def fromB (R:List (Int×Int)) (M:List Int) (a b:Nat):Bool:=(R.zip M).any λx=>x.2==(a:Int)&&x.1.1==(b:Int)
def j4o (g:Hist') (M:List Int) (a b:Nat):Bool:=Xv g a&&Xv g b&&((decide (a<b)&&yC g a==yC g b)||fromB (yh g) M a b)
def war (r:Nat->Nat->Bool):Nat->Nat->Nat->Bool
 |0,b,a=>r a b
 |k+1,b,a=>war r k b a||(war r k b k&&war r k k a)
def farB (g:Hist') (M:List Int) (t a:Nat):Bool:=war (j4o g M) g.ts.length t a
def atO (O:List Int) (t:Int):Int:=yF O t 0
def ja4 (g:Hist') (p:Int×Int):Int:=match opAt g p.1 p.2 with|some o=>o.key|none=>0
def YH (g:Hist') (t key:Int):Bool:=(Q4 (Xk g t).2 key).2
def rcB (R:List (Int×Int)) (M:List Int) (p:Int×Int) (t:Int):Bool:=(R.zip M).any λx=>x.1.1==p.1&&(decide (x.1.2<p.2)&&x.2==t)
def jrg (g:Hist') (lvl:Int) (M O:List Int) (p:Int×Int) (t:Nat):Bool :=
 if lvl=1 then rcB (yh g) M p t else if lvl=2 then farB g M p.1.toNat t else if lvl=3 then Xv g t&&decide (atO O t<atO O p.1) else false
def jul (g:Hist') (lvl:Int) (M O:List Int) (p:Int×Int):List Int:=jn1 (jrg g lvl M O p) g.ts.length
def QP (g:Hist') (O:List Int):Bool:=jW g&&((yl g).length==O.length&&jtf (λi=>(yl g).contains (O.getD i 0) && !(O.take i).contains (O.getD i 0)) O.length)
def com_f {g:Hist'}(c:jW g=true) {a:Nat}{t:Txn'}(b:g.ts[a]? = some t) (i:t.f≠2):Xv g a=true:=by
 unfold jW at c;simp only[aj,fB]at c;obtain⟨d,h,_⟩:=c;have j:t.f≠3:=λe=>by
  have:((a:Nat):Int)∈Xg g:=by rw[Xg,Qk,filTo_mem];exact⟨a,(ag.1 b).1,rfl,by simp[joq,b,X9,e]⟩
  rw[h]at this;cases this
 unfold Yp at d;simp only[aj,ap]at d;have:=d.2.1 t (aH b);simp only[jdy,aj,ze]at this;simp only[Xv,b,Y8,zh];omega
def of_com {g:Hist'}(f:jW g=true) {a b x:Int}(h:x∈ofH g a b):x = -1\/x∈yl g:=by
 unfold ofH at h;split at h;split at h;cases h;rw[ofL,aP]at h;rcases h with h|h;unfold JA at h;split at h;cases h;exact .inl (zU h);have d:=(bA.1 h).1;rw[yM,Qk,filTo_mem]at d;obtain⟨k,d,i,c⟩:=d;refine .inr (comL_mem.2 ⟨k,i,?_⟩);unfold joq at c;cases e:g.ts[k]? with
 |none=>rw[e]at c;cases c
 |some t=>rw[e]at c;simp only[wrB,aj,bne_iff_ne,ne_eq]at c;exact com_f f e c.1
 cases h
def jl6:∀{C:List (Bool×List Int)}{M:List Int}{i:Nat}{c:Bool×List Int},jgm C M=true->C[i]? = some c->∃m,M[i]? = some m/\m∈c.2
 |[],_,_,_,_,hc=>by simp at hc
 |_::_,[],_,_,h,_=>by simp[jgm]at h
 |d::C,m::M,0,c,h,hc=>by simp only[jgm,aj]at h;simp at hc;subst hc;exact⟨m,rfl,zU h.1⟩
 |d::C,m::M,i+1,c,h,hc=>by simp only[jgm,aj]at h;simpa using jl6 h.2 (zU hc)
section
variable {g:Hist'}{M O:List Int}
def j0q (h:WR g M=true) {i:Nat}{p:Int×Int}(hp:(yh g)[i]? = some p):∃m,M[i]? = some m/\m∈ofH g p.1 p.2:=by unfold WR at h;simp only[aj]at h;exact jl6 (c:=(false,ofH g p.1 p.2)) h.2.2 (by simp[choR,hp])
def Xm (h:WR g M=true):M.length=(yh g).length:=by unfold WR at h;simp only[aj,zh]at h;simpa[choR] using h.2.1
def Yg (h:WR g M=true):jW g=true:=by unfold WR at h;simp only[aj]at h;exact h.1
def jwb (h:WR g M=true) {m:Int}(d:m∈M):m = -1\/m∈yl g:=by
 obtain⟨i,c,e⟩:=bo d;have a:i<(yh g).length:=by rw[<- Xm h];exact c
 obtain⟨j,b,f⟩:=j0q h (aa a);rw[aa c]at b;cases b;rw[<- e];exact of_com (Yg h) f
def je3 {p:Int×Int}:∀{n:Nat},p∈Jv g n->∃(i k:Nat) (t:Txn'),p=((i:Int),(k:Int))/\g.ts[i]? = some t/\Y8 t=true/\k<t.ops.length/\jbt g i k=true
 |0,h=>by simp[Jv]at h
 |n+1,h=>by
  rw[Jv,aP]at h;rcases h with h|h;exact je3 h;cases a:g.ts[n]? with
  |none=>rw[a]at h;cases h
  |some t=>rw[a]at h;simp only at h;split at h;rename_i e;obtain⟨k,c,b,d⟩:=readIn_mem.1 h;exact⟨n,k,t,b,a,e,c,d⟩;cases h
def jpa {p:Int×Int}(h:p∈yh g):p.1∈yl g:=by obtain⟨i,k,t,rfl,a,b,_⟩:=je3 h;exact comL_mem.2 ⟨i,rfl,by simp[Xv,a,b]⟩
/-! Orders -/
def jvc (h:QP g O=true):(yl g).length=O.length:=by unfold QP at h;simp only[aj,zh]at h;exact h.2.1
def jph (h:QP g O=true) {i:Nat}(hi:i<O.length):O[i]∈yl g/\O[i] ∉ O.take i:=by unfold QP at h;simp only[aj]at h;have:=andTo_iff.1 h.2.2 i hi;simpa[aC,aa hi] using this
def jpo:∀{L:List Int},(∀i (hi:i<L.length),L[i] ∉ L.take i)->L.Nodup
 |[],_=>dQ
 |x::r,h=>by rw[dj];constructor;intro b;obtain⟨i,hi,e⟩:=bo b;have:=h (i+1) (zU hi);simp[e]at this;refine jpo λi hi a=>?_;have:=h (i+1) (zU hi);simp[a]at this
def jm0 (h:QP g O=true):O.Nodup:=jpo λ_ a=>(jph h a).2
def jvb (h:QP g O=true) {x:Int}(b:x∈O):x∈yl g:=by obtain⟨i,a,e⟩:=bo b;exact e▸(jph h a).1
def jn5 (g:Hist'):(yl g).Pairwise (· < ·):=(QR (p:=Y8) (ts:=g.ts) g.ts.length zK).2
def js4 (g:Hist'):(yl g).Nodup:=(jn5 g).imp λh=>Int.ne_of_lt h
def jay:∀{O C:List Int},O.Nodup->(∀x∈O,x∈C)->C.length=O.length->O.Perm C
 |[],C,_,_,h=>by have:C=[]:=cG.1 h;rw[this]
 |x::r,C,hn,hs,h=>by rw[dj]at hn;have d:=hs x zS;have c:=List.perm_cons_erase d;refine(List.Perm.cons x (jay hn.2 (λy b=>?_) ?_)).trans c.symm;have a:y≠x:=λe=>hn.1 (e▸b);exact(List.mem_erase_of_ne a).2 (hs y (by simp[b]));have:=c.length_eq;simp at this h;omega
def jhe (h:QP g O=true):O.Perm (yl g):=jay (jm0 h) (λ_=>jvb h) (jvc h)
def jvd (b:jW g=true):QP g O=true ↔ O.Perm (yl g):=by
 refine⟨jhe,λh=>?_⟩;have l:O.Nodup:=h.nodup_iff.2 (js4 g);unfold QP;rw[b,cp,aj,andTo_iff];refine⟨by rw[h.length_eq];simp,λi a=>?_⟩;have k:O[i]∈yl g:=h.mem_iff.1 (av a);have f:O[i] ∉ O.take i:=λc=>by obtain⟨j,d,e⟩:=bo c;simp at d;rw[dN]at e;exact cL.1 l j i zO a zO e
 simp[aC,aa a,k,f]
/-! Where each stands -/
/-! Sessions -/
/-! What reads see -/
/-! Levels -/
end
section
end
section
end
end Go.Pv.T
namespace Go.Pv.T
open Go Go.Pv
end Go.Pv.T
namespace Go.Pv.T
open Go Go.Pv
end Go.Pv.T
namespace Go.Pv.T
open Go Go.Pv
end Go.Pv.T
namespace Go.Pv.T
open Go Go.Pv
end Go.Pv.T
namespace Go.Pv.T
open Go Go.Pv
section
end
section
end
end Go.Pv.T
namespace Go.Pv.T
open Go Go.Pv
end Go.Pv.T
namespace Go.Pv.T
open Go Go.Pv
end Go.Pv.T
namespace Go.Pv.T
open Go Go.Pv
def Wt (g:Hist'):(yl g).length<=g.ts.length:=JX Y8 g.ts g.ts.length
def jms {g:Hist'}(b:Yp g=true) {q:Nat}(c:q<(yh g).length):∃(i k:Nat) (hi:i<g.ts.length) (a:k<(g.ts[i]).ops.length),(yh g)[q]=((i:Int),(k:Int))/\ja4 g (yh g)[q]=((g.ts[i]).ops[k]).key/\Xv g i=true:=by
 obtain⟨i,k,t,e,d,f,a,_⟩:=je3 (av c);obtain⟨hi,rfl⟩:=ag.1 d;refine⟨i,k,hi,a,e,?_,by simpa[Xv,hi] using f⟩;rw[e];have:opAt g (i:Int) (k:Int)=some (g.ts[i]).ops[k]:=by unfold opAt;simp[b,hi,a,aC]
 unfold ja4;simp only[this]
def QG {g:Hist'}(h:jW g=true):Yp g=true:=by unfold jW at h;simp only[aj]at h;exact h.1
def Off (ub key:Nat):Prop:=∀m,ub<=m->¬key=2*m+1
def Off.up {ub a key:Nat}(h:Off ub key) (c:ub<=a):Off a key:=λm b=>h m (bH c b)
def Off.new {ub m:Nat}(h:m<ub):Off ub (2*m+1):=λk a e=>by omega
def Was (ub:Nat) (ob ob':ZO):Prop:=∀key,Off ub key->ob' key=ob key
def Was.trans {ub d:Nat}{ob c b:ZO}(h:Was ub ob c) (f:Was d c b) (g:ub<=d):Was ub ob b:=λa e=>(f a (e.up g)).trans (h a e)
def Was.refl (ub:Nat) (ob:ZO):Was ub ob ob:=λ_ _=>rfl
def idx0 {l u n x sz:Nat}{kk:IntKind}(a:x<n):J0 sz (.osl l u 0 n sz) (.int kk (x:Int))=some (.ptr l u (x*sz)):=by simp[J0,a]
def X2 {a b:Nat}(h:¬a=b):Nat.beq a b=false:=by cases e:Nat.beq a b;rfl;exact zf (bk e) h
end Go.Pv.T
namespace Go.Pv.T
open Go Go.Pv
end Go.Pv.T
namespace Go.Pv.T
open Go Go.Pv
def yi {a b:Nat}:(2*a=2*b)=(a=b):=zj ⟨λh=>by omega,λh=>by rw[h]⟩
def jzz {l u o:Nat}:(V.ptr l u o).leaf=true:=rfl
def rdC (r:Int×Int×Int):List V:=[.int .i64 r.1,.int .i64 r.2.1,.int .i64 r.2.2]
def jmu (r:Int×Int×Int):(rdC r).length=3:=rfl
structure WN where
 kW:Nat
 uW:Nat
 kR:Nat
 uR:Nat
 kA:Nat
 uA:Nat
 kL:Nat
 uL:Nat
 kS:Nat
 uS:Nat
 kP:Nat
 uP:Nat
section
variable {g:Hist'}{lvl:Int}{M:List Int}{N:WN}{A L S:List (Int × Int)}{P:Int->List Int}{ob ob':ZO}{ub ub':Nat}
def Off.ne {key:Nat}(h:Off ub key):∀m,ub<=m->¬key=2*m+1:=h
end
end Go.Pv.T
namespace Go.Pv.T
abbrev R3:Type:=Option (List Nat)×Bool×List Nat
def loopM (rec:Nat->List Nat->List Nat->R3) (nx:Nat->Nat->Bool) (w:Nat) (done:List Nat):List Nat->List Nat->R3
 |[],vis=>(none,false,vis)
 |t::r,vis=>if w.testBit t||(!nx w t||vis.contains (w|||1<<<t)) then loopM rec nx w done r vis else
  match rec (w|||1<<<t) (done++[t]) vis with
  |(none,false,v)=>loopM rec nx w done r v
  |x=>x
def onM (nx:Nat->Nat->Bool) (C:List Nat) (most:Int):Nat->Nat->List Nat->List Nat->R3
 |0,w,done,vis=>if (vis.length:Int)=most then (none,true,vis) else (some done,false,vis++[w])
 |n+1,w,done,vis=>if (vis.length:Int)=most then (none,true,vis) else loopM (onM nx C most n) nx w done C (vis++[w])
def jh9 (w t a:Nat):(w|||1<<<t).testBit a=(w.testBit a||decide (t=a)):=by rw[Nat.testBit_or,Nat.one_shiftLeft,Nat.testBit_two_pow]
def cnt (C:List Nat) (w:Nat):Nat:=(C.filter λt=>w.testBit t).length
def jqo {w t:Nat}:∀{C:List Nat},C.Nodup->t∈C->w.testBit t=false->cnt C (w|||1<<<t)=cnt C w+1
 |[],_,h,_=>by cases h
 |c::C,hn,h,hw=>by
  rw[List.nodup_cons]at hn;unfold cnt;rw[List.filter_cons,List.filter_cons];by_cases e:t=c;subst e;have:(C.filter λa=>(w|||1<<<t).testBit a)=C.filter λa=>w.testBit a:=by refine List.filter_congr λa f=>?_;have:t≠a:=λe=>hn.1 (e▸f);rw[jh9];simp[this]
  rw[this,jh9];simp[hw];have d:t∈C:=by rcases List.mem_cons.1 h with h|h;exact absurd h e;exact h
  have b:=jqo hn.2 d hw;unfold cnt at b;rw[jh9];simp only[e,decide_false,Bool.or_false];split;simp only[List.length_cons,b];exact b
def jrt (nx:Nat->Nat->Bool):Nat->List Nat->Bool
 |_,[]=>true
 |w,t::r=>!w.testBit t&&(nx w t&&jrt nx (w|||1<<<t) r)
def Full (nx:Nat->Nat->Bool) (C:List Nat) (w:Nat) (L:List Nat):Prop:=(∀t∈L,t∈C)/\cnt C w+L.length=C.length/\jrt nx w L=true
def j32 (nx:Nat->Nat->Bool) (C:List Nat) (w:Nat):Prop:=∀L,¬Full nx C w L
def j50:List Nat->List Nat->Bool
 |a::l,b::m=>if a=b then j50 l m else decide (a<b)
 |_,_=>false
section
variable {nx:Nat->Nat->Bool}{C:List Nat}{most:Int}
def Full.cons {w t:Nat}{L:List Nat}(g:C.Nodup) (h:Full nx C w (t::L)):t∈C/\w.testBit t=false/\nx w t=true/\Full nx C (w|||1<<<t) L:=by obtain⟨c,f,b⟩:=h;simp only[jrt,Bool.and_eq_true,Bool.not_eq_true']at b;have d:=c t (List.mem_cons_self ..);refine⟨d,b.1,b.2.1,λa e=>c a (List.mem_cons_of_mem _ e),?_,b.2.2⟩;rw[jqo g d b.1];simp only[List.length_cons]at f;omega
structure Found (nx:Nat->Nat->Bool) (C:List Nat) (w:Nat) (done vis:List Nat) (r:R3):Prop where
 sub:∀v∈vis,v∈r.2.2
 no:r.1=none->r.2.1=false->j32 nx C w/\∀v∈r.2.2,v∈vis\/j32 nx C v
 yes:∀l,r.1=some l->r.2.1=false/\∃L,l=done++L/\Full nx C w L/\∀L',Full nx C w L'->j50 L' L=false
def jc1 {n:Nat}(m:C.Nodup) (s:C.Pairwise (· < ·)) {w:Nat}{done:List Nat}(P:cnt C w+(n+1)=C.length) {i:List Nat}
 (G:∀w done vis,cnt C w+n=C.length->(∀v∈vis,j32 nx C v\/cnt C v<cnt C w)->Found nx C w done vis (onM nx C most n w done vis)) :
 ∀(r f vis:List Nat),C=f++r->(∀v∈i,v∈vis)->(∀v∈vis,j32 nx C v\/cnt C v<=cnt C w)->(∀v∈vis,v∈i\/v=w\/j32 nx C v)->(∀t∈f,w.testBit t=false->nx w t=true->j32 nx C (w|||1<<<t)) ->
  Found nx C w done i (loopM (onM nx C most n) nx w done r vis)
 |[],f,vis,e,h0,h1,h2,h3=>by
  have J:j32 nx C w:=λL O=>by
   cases L with
   |nil=>have:=O.2.1;simp at this;omega
   |cons t L=>obtain⟨a,b,c,d⟩:=O.cons m;rw[e,List.append_nil]at a;exact h3 t a b c L d
  refine⟨h0,λ_ _=>⟨J,λv z=>?_⟩,λl h=>by cases h⟩;rcases h2 v z with h|h|h;exact .inl h;exact .inr (h▸J);exact .inr h
 |t::r,f,vis,e,h0,h1,h2,h3=>by
  have B:t∈C:=by rw[e];simp
  have N:C=(f++[t])++r:=by rw[e];simp
  rw[loopM];split;rename_i q;refine jc1 m s P G r (f++[t]) vis N h0 h1 h2 λa p j g=>?_;rcases List.mem_append.1 p with h|h
  exact h3 a h j g;have:=List.mem_singleton.1 h;subst this;simp only[j,g,Bool.not_true,Bool.false_or,List.contains_eq_mem,decide_eq_true_eq]at q;rcases h1 _ q with h|h;exact h;rw[jqo m B j]at h;omega
  ·rename_i q;simp only[Bool.or_eq_true,Bool.not_eq_true',not_or,Bool.not_eq_true,Bool.not_eq_false,List.contains_eq_mem,decide_eq_false_iff_not]at q;obtain⟨j,g,z⟩:=q;have K:=jqo m B j;have k:=G (w|||1<<<t) (done++[t]) vis (by omega) λv z=>(h1 v z).imp id λh=>by omega
   rcases X:onM nx C most n (w|||1<<<t) (done++[t]) vis with⟨o,T,v⟩;rw[X]at k;cases o with
   |some l=>
    simp only;obtain⟨D,L,y,H,Z⟩:=k.yes l rfl;refine⟨λx g=>k.sub x (h0 x g),λh=>(by cases h),λl' h=>?_⟩;cases h;refine⟨D,t::L,by rw[y];simp,⟨λa p=>?_,?_,?_⟩,λu F=>?_⟩;rcases List.mem_cons.1 p with h|h;exact h▸B;exact H.1 a h;have:=H.2.1;simp only[List.length_cons];omega;simp[jrt,j,g,H.2.2];cases u with
    |nil=>rfl
    |cons a u=>
     obtain⟨M,q2,U,Q⟩:=F.cons m;rw[j50];split;rename_i I;subst I;exact Z u Q;rename_i I;rw[decide_eq_false_iff_not];intro S;have:a∈f:=by rw[e]at M;rcases List.mem_append.1 M with h|h;exact h;rcases List.mem_cons.1 h with h|h;exact absurd h I;rw[e]at s;have:=List.rel_of_pairwise_cons (List.pairwise_append.1 s).2.1 h;omega
     exact h3 a this q2 U u Q
   |none=>
    cases T with
    |true=>exact⟨λx g=>k.sub x (h0 x g),λ_ h=>(by cases h),λl h=>(by cases h)⟩
    |false=>
     simp only;obtain⟨D,y⟩:=k.no rfl rfl;refine jc1 m s P G r (f++[t]) v N (λx g=>k.sub x (h0 x g)) (λx g=>?_) (λx g=>?_) λa p j g=>?_;rcases y x g with h|h
     exact h1 x h;exact .inl h;rcases y x g with h|h;exact h2 x h;exact .inr (.inr h);rcases List.mem_append.1 p with h|h;exact h3 a h j g;have:=List.mem_singleton.1 h;subst this;exact D
def jpl (b:C.Nodup) (a:C.Pairwise (· < ·)):∀(n w:Nat) (done vis:List Nat),cnt C w+n=C.length->(∀v∈vis,j32 nx C v\/cnt C v<cnt C w)->Found nx C w done vis (onM nx C most n w done vis)
 |0,w,done,vis,hw,hv=>by rw[onM];split;exact⟨λ_ h=>h,λ_ h=>(by cases h),λl h=>(by cases h)⟩;refine⟨λv h=>List.mem_append.2 (.inl h),λh=>(by cases h),λl h=>?_⟩;cases h;refine⟨rfl,[],by simp,⟨λ_ h=>(by cases h),zU hw,rfl⟩,λd c=>?_⟩;cases d<;>rfl
 |n+1,w,done,vis,hw,hv=>by
  rw[onM];split;exact⟨λ_ h=>h,λ_ h=>(by cases h),λl h=>(by cases h)⟩;refine jc1 b a hw (jpl b a n) C [] (vis++[w]) rfl (λv h=>List.mem_append.2 (.inl h)) (λv h=>?_) (λv h=>?_) λt h=>by cases h
  rcases List.mem_append.1 h with h|h;exact(hv v h).imp id Nat.le_of_lt;rw[List.mem_singleton.1 h];exact .inr (Nat.le_refl _);rcases List.mem_append.1 h with h|h;exact .inl h;exact .inr (.inl (List.mem_singleton.1 h))
end
end Go.Pv.T
namespace Go.Pv.T
open Go Go.Pv
def yt (w:Nat):List V:=[.int .u64 w,.int .u64 0,.int .u64 0,.int .u64 0,.int .u64 0,.int .u64 0,.int .u64 0,.int .u64 0]
def jbl:yt 0=j91:=rfl
def jnw {n:Nat}(h:n<64):IntKind.i64.wrap ((n:Int)/64)=0:=by rw[show(n:Int)/64=0 by omega];rfl
def jnv {n:Nat}(h:n<64):(n:Int).tmod 64=n:=Int.tmod_eq_of_lt zO zO
def j4g {w n:Nat}(a:n<64):Y0 .shr (.int .u64 (w:Int)) (.int .i64 (n:Int))=some (.int .u64 ((w>>>n:Nat):Int)):=by simp only[Y0,Qg];rw[za zO];congr 2;rw[bh,show IntKind.u64.bits=64 from rfl,cq (fZ a),gP,gN _ (Int.le_of_lt (Int.pow_pos zQ))];simp
def jie {n:Nat}(h:n<64):Y0 .shl (.int .u64 1) (.int .i64 (n:Int))=some (.int .u64 ((1<<<n:Nat):Int)):=by have b:2^n<2^64:=dP zQ h;have:=jt1 (a:=1) (k:=n) rfl zO zO;rw[cY];rw[Nat.one_mul]at this;exact this
def j73 (w n:Nat):((((w>>>n)&&&1:Nat):Int)==1)=w.testBit n:=by rw[Nat.testBit,Nat.and_comm 1,Nat.and_one_is_mod];rcases gE (w>>>n) with h|h<;>rw[h]<;>rfl
def j89 {w n:Nat}(a:w<2^64):w>>>n<2^64:=by rw[gP];exact Nat.lt_of_le_of_lt (Nat.div_le_self _ _) a
def jpk {n:Nat}(h:n<64):1<<<n<2^64:=by rw[cY];exact dP zQ h
def or_lt {w n:Nat}(a:w<2^64) (h:n<64):w|||1<<<n<2^64:=dw a (jpk h)
def jsz (w n:Nat):Nat:=(BitVec.ofNat 64 w &&& ~~~ BitVec.ofNat 64 (1<<<n)).toNat
def j2a {w n:Nat}(b:w<2^64) (c:n<64) (h:w.testBit n=false):jsz (w|||1<<<n) n=w:=by unfold jsz;refine fM λi=>?_;rw[BitVec.testBit_toNat,BitVec.getLsbD_and,BitVec.getLsbD_not,BitVec.getLsbD_ofNat,BitVec.getLsbD_ofNat,jh9,cY,eF];by_cases a:i<64;by_cases e:n=i;subst e;simp[h];simp[a,e];have:w.testBit i=false:=dH (aS b (cj zQ zO));simp[a,this]
def jq9 {a b:Nat}:Y0 .andNot (.int .u64 (a:Int)) (.int .u64 (b:Int))=some (.int .u64 (((BitVec.ofNat 64 a &&& ~~~ BitVec.ofNat 64 b).toNat:Nat):Int)):=by simp only[Y0,XH,zd];rw[show IntKind.u64.bits=64 from rfl,dA,dA,IntKind.wrap_u64];congr 2;have:=(BitVec.ofNat 64 a &&& ~~~ BitVec.ofNat 64 b).isLt;omega
@[simp] theorem eqVV_pn (ob:ZO) (neg:Bool) (l u o:Nat):jyn ob neg .ptr (.ptr l u o) .nilptr=some (.bool (xor neg false)):=rfl
@[simp] theorem idxArr0 (k u:Nat):W2 8 1 (.ptr k u 0) (.int .i64 0)=some (.ptr k u 0):=rfl
section
variable {ob:ZO}{ub k u w n:Nat}
def ev291 (a:n<500):Ev E 291 [.int .i64 (n:Int)] (.bool true):=by
 refine jV rfl ?_;conv in(occs:=*)F291=>all_goals cbv
 simp;exact j4 zS zP rfl
def jxp (a:n<500) (tk:Nat->Bool) (base:Nat):EvO E 255 [.ptr k u 0,.int .i64 (n:Int)] ob tk base ub (.int .i64 0):=by
 refine jo rfl ?_;conv in(occs:=*)S255=>all_goals cbv
 simp;refine jQ (ev291 a) zS rfl zS ?_;simp;exact j4 zS zS rfl
def jfv (h:ob k=some ⟨u,.cells (yt w)⟩) (i:Off ub k) (c:n<64) (f:w<2^64) (tk:Nat->Bool) (base:Nat):EvO E 211 [.ptr k u 0,.int .i64 (n:Int)] ob tk base ub (.bool (w.testBit n)):=by
 refine jo rfl ?_;have g:=i.ne;conv in(occs:=*)S211=>all_goals cbv
 simp;refine jP (vs:=[.ptr k u 0,.int .i64 n]) zS rfl rfl (jxp zO _ _) ?_;have d:=j4g (w:=w) c;have a:=jmi (m:=1) (b:=1) rfl (j89 (n:=n) f) zQ;have e:=j73 w n;generalize w>>>n&&&1=z at a e;generalize w>>>n=q at d a;simp(disch:=try exact zD)[jnw c,jnv c,j0,g,h,yt,d,a,e];exact j4 zS zS rfl
def PutR (ob:ZO) (ub k u w:Nat) (r:V×(ZO)×(Nat->Bool)×Nat):Prop :=
 r.1=.int .i64 0/\(∀key,Off ub key->r.2.1 key=if key=k then some ⟨u,.cells (yt w)⟩ else ob key)/\ub<=r.2.2.2
def jra {Yf:YF}{tk:Nat->Bool}{ro base:Nat}(b:ob k=some ⟨u,.cells (yt w)⟩) (i:Off ub k) (d:ro<=u) (a:n<64) (h:w<2^64) :
 ∃r,EvS E Yf.y 209 [.ptr k u 0,.int .i64 (n:Int)] ob tk ro base ub r/\PutR ob ub k u (w|||1<<<n) r:=by
 refine J7 rfl zQ ?_;show wpC E Yf S209.body _ (Jd S209.res _);have g:=i.ne;conv in(occs:=*)S209=>all_goals cbv
 simp;refine jP (vs:=[.ptr k u 0,.int .i64 n]) zS rfl rfl (jxp zO _ _) ?_;have e:=jie a;have c:=jei h (jpk a);generalize w|||1<<<n=z at c ⊢;generalize 1<<<n=q at e c;simp(disch:=try exact zD)[jnw a,jnv a,j0,g,b,yt,e,c,j2];refine⟨d,JQ zS ⟨zS,λf b=>?_,by simp;omega⟩⟩;have g:=b.ne;simp(disch:=try exact zD)[g,yf,yt]
def sv213 {Yf:YF}{tk:Nat->Bool}{ro base:Nat}(d:ob k=some ⟨u,.cells (yt w)⟩) (j:Off ub k) (f:ro<=u) (e:n<64) :
 ∃r,EvS E Yf.y 213 [.ptr k u 0,.int .i64 (n:Int)] ob tk ro base ub r/\PutR ob ub k u (jsz w n) r:=by
 refine J7 rfl zQ ?_;show wpC E Yf S213.body _ (Jd S213.res _);have g:=j.ne;conv in(occs:=*)S213=>all_goals cbv
 simp;refine jP (vs:=[.ptr k u 0,.int .i64 n]) zS rfl rfl (jxp zO _ _) ?_;have h:=jie e;have c:=jq9 (a:=w) (b:=1<<<n);rw[show(BitVec.ofNat 64 w &&& ~~~ BitVec.ofNat 64 (1<<<n)).toNat=jsz w n from rfl]at c;generalize jsz w n=z at c ⊢;generalize 1<<<n=q at h c;simp(disch:=try exact zD)[jnw e,jnv e,j0,g,d,yt,h,c,j2];refine⟨f,JQ zS ⟨zS,λi d=>?_,by simp;omega⟩⟩;have g:=d.ne;simp(disch:=try exact zD)[g,yf,yt]
def NewR (ob:ZO) (ub:Nat) (r:V×(ZO)×(Nat->Bool)×Nat):Prop :=
 ∃m,ub<=m/\m<r.2.2.2/\r.1=.ptr (2*m+1) m 0/\∀key,r.2.1 key=if key=2*m+1 then some ⟨m,.cells (yt 0)⟩ else ob key
def j9i {Yf:YF}{tk:Nat->Bool}{ro base:Nat}:∃r,EvS E Yf.y 151 [.sl none true 0 []] ob tk ro base ub r/\NewR ob ub r:=by
 refine J7 rfl zQ ?_;show wpC E Yf S151.body _ (Jd S151.res _);conv in(occs:=*)S151=>all_goals cbv
 simp[V.cells];refine⟨1,?_⟩;simp;exact JQ zS ⟨ub+128,zO,zS,zS,λa=>by simp[yt,yf,aG]⟩
end
def j0m (g:Hist') (M:List Int) (s:Nat->Bool) (t:Nat):Bool :=
 jtf (λa=>!Xv g a||(!(yC g a==yC g t)||s a)) t&&((yh g).zip M).all λx=>
  if x.1.1=(t:Int) then decide (x.2<0)||s x.2.toNat else s x.1.1.toNat||(!(decide (x.2<0)||s x.2.toNat) || !YH g t (ja4 g x.1))
def nxM (g:Hist') (M:List Int) (w t:Nat):Bool:=j0m g M (λa=>w.testBit a) t
def yz (g:Hist'):List Nat:=(yl g).map Int.toNat
def yp (L:List Nat):List Int:=L.map λa:Nat=>(a:Int)
def jcb (g:Hist'):yp (yz g)=yl g:=by unfold yp yz;rw[dl];refine(dC λx a=>?_).trans (gy _);obtain⟨k,rfl,_⟩:=comL_mem.1 a;simp
def comN_mem {g:Hist'}{a:Nat}:a∈yz g ↔ Xv g a=true:=by unfold yz;rw[aI];constructor;rintro⟨x,c,rfl⟩;obtain⟨k,rfl,b⟩:=comL_mem.1 c;simpa using b;exact λh=>⟨a,comL_mem.2 ⟨a,rfl,h⟩,zS⟩
def jji (g:Hist'):(yz g).Pairwise (· < ·):=by have h:=jn5 g;rw[<- jcb]at h;unfold yp at h;rw[eY]at h;exact h.imp λh=>by omega
def js3 (g:Hist'):(yz g).Nodup:=(jji g).imp λh=>ek h
def jjj (g:Hist'):(yz g).length=(yl g).length:=by simp[yz]
def Xe (w:Nat) (L:List Nat):Nat:=L.foldl (λw t=>w|||1<<<t) w
def jqr (a:Nat):∀(L:List Nat) (w:Nat),(Xe w L).testBit a=(w.testBit a||L.contains a)
 |[],w=>by simp[Xe]
 |x::r,w=>by have:=jqr a r (w|||1<<<x);unfold Xe at this ⊢;rw[eA,this,jh9,dY,Bool.or_assoc];congr 2;rw[bu,ze,zh];exact eq_comm
section
end
def ym (w:Nat):List Nat:=(List.range 9).filter λi=>w.testBit i
def jwf (w:Nat):Nat:=(ym w).headD 0
def bitsUp_mem {w a:Nat}:a∈ym w ↔ a<9/\w.testBit a=true:=by simp[ym]
def jf4:ym 0=[]:=rfl
def k_bits:((List.range 512).all λw=>w==0||(ym w==jwf w::ym (w&&&(w-1))&&decide (w&&&(w-1)<512)))=true:=by kernel_rfl
def jly {w:Nat}(a:w<512) (h:w≠0):ym w=jwf w::ym (w&&&(w-1))/\w&&&(w-1)<512:=by have:=ap.1 k_bits w (aX.2 a);simpa[h] using this
def k190:((List.range 512).all λw=>w==0||(match (yJ E 2 noY).d 281 [.int .u64 (w:Nat)] with|some r=>V.eqb r (.int .i64 (jwf w:Nat))|none=>false))=true:=by kernel_rfl
def ev281 {w:Nat}(a:w<512) (h:w≠0):Ev E 281 [.int .u64 (w:Nat)] (.int .i64 (jwf w:Nat)):=by have:=ap.1 k190 w (aX.2 a);simp only[zh,bD,h,false_or]at this;split at this;rename_i r b;exact⟨2,by rw[b,QZ _ _ this]⟩;cases this
def low_lt {w:Nat}(a:w<512) (h:w≠0):jwf w<9:=by
 have:jwf w∈ym w:=by rw[(jly a h).1];exact aJ ..
 exact(bitsUp_mem.1 this).1
def Qv (w:Nat):(ym w).length<=9:=by unfold ym;exact bH (bR _ _) zS
def jmq {w i:Nat}(h:i<8):(yt w)[i]? = some (.int .u64 (if i=0 then w else 0:Nat)):=by
 match i,h with
 |0,_=>rfl
 |1,_=>rfl
 |2,_=>rfl
 |3,_=>rfl
 |4,_=>rfl
 |5,_=>rfl
 |6,_=>rfl
 |7,_=>rfl
section
variable {ob:ZO}{ub k u w:Nat}
def jh0 (hk:ob k=some ⟨u,.cells (yt w)⟩) (ho:Off ub k) (hw:w<512) (tk:Nat->Bool) (base:Nat):EvO E 237 [.ptr k u 0] ob tk base ub (jjc (yp (ym w))):=by
 refine jo rfl ?_;have g:=ho.ne;have U:(yt w).length=8:=rfl;conv in(occs:=*)S237=>all_goals cbv
 simp[j0,hk,U];refine jf λo c=>?_;have g3:o.tm 3=.sl none true 0 []:=by rw[c];simp
 have Z:o.tm 11=.agg (yt w):=by rw[c];simp[yt]
 have b7:o.tm 12=.int .i64 0:=by rw[c];simp
 have gd:o.df=[]:=by rw[c];simp
 have gr:o.ro=ub:=by rw[c];simp
 have gn:ub<=o.nx:=by rw[c];simp;omega
 clear c;obtain⟨n0,c2⟩:∃n,n=o.nx:=⟨_,rfl⟩;obtain⟨P,G⟩:∃P:Nat->Nat->Prop,P=λhi u=>ub<=u/\u<hi:=⟨_,rfl⟩;obtain⟨J,hJ⟩:∃J:Nat->St->Prop,J=λi s=>s.tm 12=.int .i64 i/\IntsO s.ob (P s.nx) (if i=0 then [] else yp (ym w)) (s.tm 3)/\ub<=s.nx:=⟨_,rfl⟩;refine j7 [(3,5),(12,30)] 8 J rfl rfl (by rw[hJ];exact⟨zU b7,.inl ⟨rfl,g3⟩,gn⟩) ?_;intro i s hi Q f;rw[hJ]at Q;obtain⟨F,M,sn⟩:=Q;have b6:s.tm 11=.agg (yt w):=by rw[f.t 11 zS];simp[Z]
 have sd:s.df=[]:=by rw[f.d];simp[gd]
 have sr:s.ro=ub:=by rw[f.r];simp[gr]
 clear f;by_cases H:i<8;have b0:=jc H zQ;have K:ja5 none 8 1 (.agg (yt w)) (.int .i64 (i:Int))=some (.int .u64 (if i=0 then w else 0:Nat)):=by have:=jmq (w:=w) H;have S:(i:Int)<8:=zO;simp[ja5,S,Xj,this]
 have S:(i:Int)<8:=zO;generalize D:(if i=0 then w else 0:Nat)=x0 at K;simp[F,b6,S,K];refine jf λo c=>?_;have t3:o.tm 3=s.tm 3:=by rw[c];simp
 have t4:o.tm 4=.int .i64 i:=by rw[c];simp[F]
 have t5:o.tm 5=.int .u64 x0:=by rw[c];simp
 have b5:o.tm 12=.int .i64 i:=by rw[c];simp[F]
 have td:o.df=[]:=by rw[c];simp[sd]
 have tr:o.ro=ub:=by rw[c];simp[sr]
 have to:o.ob=s.ob:=by rw[c];simp
 have tn:s.nx<=o.nx:=by rw[c];simp;omega
 clear c;obtain⟨J2,I⟩:∃J2:Nat->St->Prop,J2=λn s=>∃x L,n=(ym x).length/\x<512/\(x=0\/i=0)/\s.tm 5=.int .u64 (x:Nat)/\L++yp (ym x)=yp (ym w)/\IntsO s.ob (P s.nx) L (s.tm 3)/\ub<=s.nx:=⟨_,rfl⟩;refine YQ (n:=(ym x0).length) [(3,3),(5,5),(16,29)] J2 rfl rfl ?_ ?_;rw[I];by_cases v:i=0;rw[zb v]at D M;subst D;refine⟨w,[],rfl,hw,.inr v,t5,rfl,?_,zO⟩;rw[to,t3];exact M.frame (λ_ _=>rfl) λu j=>by rw[G]at j ⊢;exact⟨j.1,by have:=j.2;omega⟩
 rw[za v]at D M;subst D;refine⟨0,yp (ym w),rfl,zQ,.inl rfl,t5,by simp[jf4,yp],?_,zO⟩;rw[to,t3];exact M.frame (λ_ _=>rfl) λu j=>by rw[G]at j ⊢;exact⟨j.1,by have:=j.2;omega⟩
 intro n q hq f;rw[I]at hq;obtain⟨x,L,rfl,hx,b8,q5,T,qI,qn⟩:=hq;have q4:q.tm 4=.int .i64 i:=by rw[f.t 4 zS];simp[t4]
 have a0:q.tm 12=.int .i64 i:=by rw[f.t 12 zS];simp[b5]
 have qd:q.df=[]:=by rw[f.d];simp[td]
 have qr:q.ro=ub:=by rw[f.r];simp[tr]
 clear f;by_cases O:x=0;subst O;simp[q5,a0,b0,H];rw[hJ];rw[jf4,show yp []=[] from rfl,aU]at T;subst T;refine⟨zS,?_,by simp;omega⟩;simp;exact qI.frame (λ_ _=>rfl) λu j=>by rw[G]at j ⊢;exact⟨j.1,by have:=j.2;simp at this ⊢;omega⟩
 have v:i=0:=b8.resolve_left O;subst v;obtain⟨e1,e2⟩:=jly hx O;have ex:((x:Int) != 0)=true:=by simp;omega
 have b9:=low_lt hx O;have N:IntKind.u64.wrap ((x:Int)-1)=((x-1:Nat):Int):=by rw[IntKind.wrap_u64];omega
 have B:=jmi (a:=x) (b:=x-1) (m:=((x-1:Nat):Int)) rfl zO zO;generalize x&&&(x-1)=y at B e1 e2;rw[<- N]at B;have hz:IntKind.i64.wrap ((jwf x:Nat):Int)=((jwf x:Nat):Int):=ji zO zO;have c0:L.length<=9:=by have h1:=zg List.length T;have S:=Qv w;simp[yp]at h1;omega
 simp[q5,q4,ex];refine jQ (ev281 hx O) zS rfl zS ?_;simp[hz,show IntKind.i64.wrap 0=0 from rfl];refine JB (cs:=[.int .i64 ((jwf x:Nat):Int)]) (by simp[j2]) rfl rfl ?_;simp;refine Qn (p:=P q.nx) (l:=L) (z:=((jwf x:Nat):Int)) (X:=2*(q.nx+512)+1) (uX:=q.nx+512) zS (qI.frame (λu j=>?_) λ_ h=>h) (by simp[aG]) (by simp[aG]) (λu j=>by rw[G]at j;simp[qr];exact j.1) zO λkl c1=>?_;rw[G]at j;have:=j.2;simp(disch:=try exact zD)[yi];intro e;omega;simp[q5,B];refine⟨(ym y).length,by rw[e1];simp,?_⟩;rw[I];refine⟨y,L++[((jwf x:Nat):Int)],rfl,e2,.inr rfl,zS,by rw[<- T,e1];simp[yp],.inr ⟨zS,q.nx+576,by simp[aG],by simp[aG,jf6],?_⟩,by simp;omega⟩;rw[G];simp;omega;have:i=8:=zO;subst this;simp[F];exact WJ (by simp[sd]) zS M (λu j=>by rw[G]at j;simp[sr];exact j.1)
end
structure FN where
 kF:Nat
 uF:Nat
 kA:Nat
 uA:Nat
 kW:Nat
 uW:Nat
 kV:Nat
 uV:Nat
def jgf:Option (Nat×Nat)->V
 |none=>.nilptr
 |some p=>.ptr p.1 p.2 0
def fdC (g:Hist') (N:FN) (rv al ov:V) (most:Int) (sp:Bool):List V:=[yj g.sn Jj g.ss,yj g.kn Jj g.ks,yj g.tn jt g.ts,rv,.map N.kA N.uA,.map N.kW N.uW,al,.map N.kV N.uV,.int .i64 most,.bool sp,ov]
structure FixF (N:FN) (n0 key:Nat):Prop where
 f:key≠N.kF
 v:key≠N.kV
 o:Off n0 key
def RowF (N:FN) (n0:Nat) (ob:ZO) (v:V) (rs:List (Int×Int×Int)):Prop:=(v=.sl none true 0 []/\rs=[])\/∃l u,v=.osl l u 0 rs.length 3/\ob l=some ⟨u,.cells (rs.flatMap rdC)⟩/\FixF N n0 l
def SetsF (N:FN) (n0:Nat) (ob:ZO) (k u:Nat) (C:List Nat) (f:Nat->Nat):Prop :=
 FixF N n0 k/\∃ver m,ob k=some ⟨u,.mp ver (MK .i64 jgf m)⟩/\∀t∈C,∃l u,ja3 m (t:Int) none=some (l,u)/\ob l=some ⟨u,.cells (yt (f t))⟩/\FixF N n0 l
structure Fd (N:FN) (rv:V) (rs:List (Int×Int×Int)) (C:List Nat) (fA fW:Nat->Nat) (n0:Nat) (ob:ZO):Prop where
 r:RowF N n0 ob rv rs
 a:SetsF N n0 ob N.kA N.uA C fA
 w:SetsF N n0 ob N.kW N.uW C fW
def RowF.keep {N:FN}{n0:Nat}{ob ob':ZO}{v:V}{rs:List (Int×Int×Int)}(h:RowF N n0 ob v rs) (c:∀a,FixF N n0 a->ob' a=ob a):RowF N n0 ob' v rs:=by rcases h with h|⟨l,u,e,d,b⟩;exact .inl h;exact .inr ⟨l,u,e,(c _ b).trans d,b⟩
def SetsF.keep {N:FN}{n0:Nat}{ob ob':ZO}{k u:Nat}{C:List Nat}{f:Nat->Nat}(h:SetsF N n0 ob k u C f) (c:∀a,FixF N n0 a->ob' a=ob a):SetsF N n0 ob' k u C f:=by obtain⟨d,b,m,o,g⟩:=h;refine⟨d,b,m,(c _ d).trans o,λt j=>?_⟩;obtain⟨l,u,i,n,e⟩:=g t j;exact⟨l,u,i,(c _ e).trans n,e⟩
def Fd.keep {N:FN}{rv:V}{rs:List (Int×Int×Int)}{C:List Nat}{fA d:Nat->Nat}{n0:Nat}{ob ob':ZO}(h:Fd N rv rs C fA d n0 ob) (c:∀b,FixF N n0 b->ob' b=ob b):Fd N rv rs C fA d n0 ob' :=
 ⟨h.r.keep c,h.a.keep c,h.w.keep c⟩
def SetsF.at {N:FN}{n0:Nat}{ob:ZO}{k u:Nat}{C:List Nat}{f:Nat->Nat}(h:SetsF N n0 ob k u C f) {t:Nat}(g:t∈C):∃l v,(∀a:ZO,a k=ob k->YG a .int .nilptr false (.map k u) (.int .i64 (t:Int))=some (.ptr l v 0))/\ob l=some ⟨v,.cells (yt (f t))⟩/\FixF N n0 l:=by
 obtain⟨_,i,m,n,d⟩:=h;obtain⟨l,v,b,j,o⟩:=d t g;refine⟨l,v,λa e=>?_,j,o⟩;rw[jc2 (q:=.i64) (f:=jgf) m (by simp[jS,e,n])];unfold ja3 at b;cases c:jm m (t:Int) with
 |none=>rw[c]at b;cases b
 |some p=>rw[c]at b;simp only at b;simp[b,jgf]
def jcp (w:Nat) (x:Int):Bool:=decide (x<0)||w.testBit x.toNat
def barB (w t W:Nat) (r:Int×Int×Int):Bool:=if r.1=t then !jcp w r.2.1 else !w.testBit r.1.toNat&&(jcp w r.2.1&&W.testBit r.2.2.toNat)
def j0l (rs:List (Int×Int×Int)) (fA fW:Nat->Nat) (w t:Nat):Bool:=(ym (fA t)).all (λa=>w.testBit a) && !(rs.any (barB w t (fW t)))
def RdOk (r:Int×Int×Int):Prop:=(0<=r.1/\r.1<64)/\r.2.1<64/\0<=r.2.2/\r.2.2<64
section
variable {ob:ZO}{ub k u w:Nat}
def j3m (b:ob k=some ⟨u,.cells (yt w)⟩) (c:Off ub k) (a:w<2^64) {x:Int}(d:x<64) (tk:Nat->Bool) (base:Nat):EvO E 259 [.ptr k u 0,.int .i64 x] ob tk base ub (.bool (jcp w x)):=by
 refine jo rfl ?_;unfold jcp;by_cases h:x<0
 ·conv in(occs:=*)S259=>all_goals cbv
  simp[h];exact j4 zS zS rfl
 ·obtain⟨n,rfl⟩:∃n:Nat,x=n:=⟨x.toNat,zO⟩;conv in(occs:=*)S259=>all_goals cbv
  simp[h];refine jP (vs:=[.ptr k u 0,.int .i64 n]) zS rfl rfl (jfv b (c.up zO) zO a _ _) ?_;simp;exact j4 zS zS rfl
def evo256 {b c:Nat}(h:ob b=some ⟨c,.cells [.ptr k u 0]⟩) (e:ob k=some ⟨u,.cells (yt w)⟩) (fb:Off ub b) (f:Off ub k) (d:w<2^64) {a:Nat}(g:a<64) (tk:Nat->Bool) (base:Nat):EvO E 256 [.int .i64 (a:Int),.ptr b c 0] ob tk base ub (.bool (!w.testBit a)):=by
 refine jo rfl ?_;conv in(occs:=*)S256=>all_goals cbv
 simp[j0,h];refine jP (vs:=[.ptr k u 0,.int .i64 a]) zS rfl rfl (jfv e (f.up zO) g d _ _) ?_;simp;exact j4 zS zS rfl
def j7b {p:Int->Bool}{b:FuncId}{c1 l:Nat}(H:E.sh true b=false) {t:Option (Nat×Nat)}{nl:Bool}{L:List Int}(F:L.length<=1000000000)
 (hp:∀r∈L,∀(tk:Nat->Bool) (base e:Nat),ub<=e->EvO E b [.int .i64 r,.ptr c1 l 0] ob tk base e (.bool (p r))) (tk:Nat->Bool) (base:Nat):EvO E 147 [.sl t nl L.length (L.flatMap ye),.fn (.func b) [] [.ptr c1 l 0]] ob tk base ub (.int .i64 (Yj p L)):=by
 refine jo rfl ?_;conv in(occs:=*)S147=>all_goals cbv
 simp;refine j7 [(4,5),(8,18)] L.length (λi s=>s.tm 8=.int .i64 i/\s.ob=ob/\ub<=s.nx/\∀j (g:j<L.length),j<i->p L[j]=false) rfl rfl ⟨zS,zS,by simp;omega,λ_ _ h=>by omega⟩ ?_;rintro i s J ⟨n,z,K,o⟩ f;have G:s.tm 0=.sl t nl L.length (L.flatMap ye):=by rw[f.t 0 zS];simp
 have I:s.tm 1=.fn (.func b) [] [.ptr c1 l 0]:=by rw[f.t 1 zS];simp
 have B:s.tm 7=.int .i64 L.length:=by rw[f.t 7 zS];simp
 have y:s.df=[]:=by rw[f.d];simp
 clear f;by_cases a:i<L.length;have D:=jc a F;have m:=XA jA t nl L .i64 a;have q:=JL L a;simp[G,I,B,n,a,m,q];refine WH (f:=b) (first:=[]) (captured:=[.ptr c1 l 0]) zS H (by simp[V.strip,V.pureTop,V.pureLeaf]) (v:=.bool (p L[i])) (by simpa[z] using hp L[i] (av a) _ _ _ zO) ?_;cases c:p L[i];simp[n,D];refine⟨a,z,zO,?_⟩;intro j g x;rcases bz.1 x with h|rfl;exact o j g h;exact c;simp;refine j4 (zU y) ?_ rfl;simp;rw[YB a c o];have:i=L.length:=zO;subst this;simp[B,n];refine j4 (zU y) ?_ rfl;simp[Yi (λj g=>o j g g)]
def evo96 {p:Int->Bool}{b:FuncId}{c1 c:Nat}(f:E.sh true b=false) {t:Option (Nat×Nat)}{nl:Bool}{L:List Int}(d:L.length<=1000000000)
 (hp:∀r∈L,∀(tk:Nat->Bool) (base a:Nat),ub<=a->EvO E b [.int .i64 r,.ptr c1 c 0] ob tk base a (.bool (p r))) (tk:Nat->Bool) (base:Nat):EvO E 96 [.sl t nl L.length (L.flatMap ye),.fn (.func b) [] [.ptr c1 c 0]] ob tk base ub (.bool (L.any p)):=by
 refine jo rfl ?_;conv in(occs:=*)S96=>all_goals cbv
 simp;refine jP (vs:=[.sl t nl L.length (L.flatMap ye),.fn (.func b) [] [.ptr c1 c 0]]) zS rfl (by rw[bW,dt];exact .inr rfl) (j7b f d (λr e tk base a h=>hp r e tk base a zO) _ _) ?_;simp;exact j4 rfl (by simp[Qq]) rfl
variable {N:FN}{n0:Nat}
def evo292 {p:Int×Int×Int->Bool}{g:FuncId}{c1 o x B y z:Nat}(U:E.sh true g=false) {v:V}{rs:List (Int×Int×Int)}(O:RowF N n0 ob v rs) (T:rs.length<=1000000000)
 (hp:∀r∈rs,∀(tk:Nat->Bool) (base m:Nat),ub<=m->EvO E g [.agg (rdC r),.ptr c1 o 0,.ptr x B 0,.ptr y z 0] ob tk base m (.bool (p r))) (tk:Nat->Bool) (base:Nat):EvO E 292 [v,.fn (.func g) [] [.ptr c1 o 0,.ptr x B 0,.ptr y z 0]] ob tk base ub (.int .i64 (Yj p rs)):=by
 refine jo rfl ?_;have c:Ww v=some (.int .i64 rs.length):=by rcases O with⟨rfl,rfl⟩|⟨l,u,rfl,_⟩<;>rfl
 have G:∀i,(h:i<rs.length)->∃q,J0 3 v (.int .i64 (i:Int))=some q/\WG ob (some 3) q=some (.agg (rdC rs[i])):=by intro i h;rcases O with⟨rfl,rfl⟩|⟨l,u,rfl,e,_⟩;simp at h;refine⟨_,idx0 h,?_⟩;have:=Xs jmu rs i h;have I:=j3 jmu rs;simp only[WG,j0,e,zd,am,WB];rw[zb (by rw[I];omega),this]
 conv in(occs:=*)S292=>all_goals cbv
 simp[c];refine j7 [(4,5),(8,18)] rs.length (λi s=>s.tm 8=.int .i64 i/\s.ob=ob/\ub<=s.nx/\∀j (n:j<rs.length),j<i->p rs[j]=false) rfl rfl ⟨zS,zS,by simp;omega,λ_ _ h=>by omega⟩ ?_;rintro i s X ⟨J,e,Z,F⟩ f;have P:s.tm 0=v:=by rw[f.t 0 zS];simp
 have Q:s.tm 1=.fn (.func g) [] [.ptr c1 o 0,.ptr x B 0,.ptr y z 0]:=by rw[f.t 1 zS];simp
 have M:s.tm 7=.int .i64 rs.length:=by rw[f.t 7 zS];simp
 have L:s.df=[]:=by rw[f.d];simp
 clear f;by_cases a:i<rs.length;have S:=jc a T;obtain⟨q,D,K⟩:=G i a;simp[P,Q,M,J,a,D,e,K];refine WH (f:=g) (first:=[]) (captured:=[.ptr c1 o 0,.ptr x B 0,.ptr y z 0]) zS U (by simp[V.strip,V.pureTop,V.pureLeaf]) (v:=.bool (p rs[i])) (by simpa[e] using hp rs[i] (av a) _ _ _ zO) ?_;cases b:p rs[i];simp[J,S];refine⟨a,e,zO,?_⟩;intro j n H;rcases bz.1 H with h|rfl;exact F j n h;exact b;simp;refine j4 (zU L) ?_ rfl;simp;rw[YB a b F];have:i=rs.length:=zO;subst this;simp[M,J];refine j4 (zU L) ?_ rfl;simp[Yi (λj n=>F j n n)]
def evo257 {p:Int×Int×Int->Bool}{b:FuncId}{c1 c d g e f:Nat}(l:E.sh true b=false) {v:V}{rs:List (Int×Int×Int)}(m:RowF N n0 ob v rs) (i:rs.length<=1000000000)
 (hp:∀r∈rs,∀(tk:Nat->Bool) (base a:Nat),ub<=a->EvO E b [.agg (rdC r),.ptr c1 c 0,.ptr d g 0,.ptr e f 0] ob tk base a (.bool (p r))) (tk:Nat->Bool) (base:Nat):EvO E 257 [v,.fn (.func b) [] [.ptr c1 c 0,.ptr d g 0,.ptr e f 0]] ob tk base ub (.bool (rs.any p)):=by
 refine jo rfl ?_;conv in(occs:=*)S257=>all_goals cbv
 simp;refine jP (vs:=[v,.fn (.func b) [] [.ptr c1 c 0,.ptr d g 0,.ptr e f 0]]) zS rfl (by rw[bW,dt];exact .inr rfl) (evo292 (N:=N) (n0:=n0) l (m.keep (λ_ _=>rfl)) i (λr j tk base a h=>hp r j tk base a zO) _ _) ?_;simp;exact j4 rfl (by simp[Qq]) rfl
end
end Go.Pv.T
