/- Fronts hold: all orders. -/
import Derived.Test.YtphecmnehkdihaaGreatDoorGF
import Derived.Shelf.Sort.Plain
import Derived.Shelf.Slices.In.SortNone
import Derived.Test.YtphecmnehkdihaaGreatDoorRows
import Derived.WalkKit
import Derived.Test.YtphecmnehkdihaaGreatDoorTie
import Derived.ProofKit
import Derived.LaidMore
import Derived.OpenShut
import Derived.Stop.Joined
import Derived.SizedLaws
import Derived.Carry
import Derived.Handed
import Derived.ChangeSame
set_option maxRecDepth 100000
namespace Go.Pv.T
open Go Go.Pv
section
variable {E:Env}{st:St}{ub:Nat}{K:List FP→St→Prop}{d:Option Nat}{nm:Bool}{r:List AOpr}
theorem jua {α:Type}{f:α→List V}{sz bytes u n:Nat}{cs:List V}{l:List α}{s x:A}(hs:eval E st.tm s=.sl (some (u,sz)) false n cs) (hu:st.tk u=true) (hx:jM st.ob sz (eval E st.tm x)=some (l.flatMap f)) (hlen:cs.length=n*sz) (hf:∀a,(f a).length=sz) (h0:0<sz)
 (hp:(l.flatMap f).all V.pureLeaf=true) (hb:(n+l.length)*bytes≤140737488355328) (hb2:n+l.length≤140737488355328)
 (h:∀b:Bool,YT E r K (eval E st.tm) (.append false sz bytes s x) st d ub { v:=.sl (some (if b then u else ub,sz)) false (n+l.length) (cs++l.flatMap f),del:=if b then none else some u,add:=if b then [] else [ub] }):jG E (⟨d,.append false sz bytes s x,none,nm⟩::r) st ub K:=by
 cases l with
 | nil=>
  refine j23 hs hx hlen ?_
  have:=h true
  simpa using this
 | cons a l=>
  have h1:((a::l).flatMap f).length / sz=(a::l).length:=by rw[j8 hf];exact Nat.mul_div_cancel _ h0
  have hne:(a::l).flatMap f≠[]:=fun e=>by have:=congrArg List.length e;rw[j8 hf]at this;have:=Nat.mul_pos (show 0<(a::l).length by simp) h0;simp_all
  refine jt9 hs hu hx hne hlen h0 hp (by rw[h1];exact hb) (by rw[h1];exact hb2) ?_
  rw[h1]
  exact h false
theorem j0b {a b:Nat}(h:a≠b):Nat.beq a b=false:=by cases hb:Nat.beq a b;rfl;exact absurd (Nat.eq_of_beq_eq_true hb) h
theorem jzy {f:FuncId}{xs:List A}{args:List V}{n:Nat}{cs:List V}(hev:Ev E f args (.sl (some (0,1)) false n cs)) (hx:(xs.map fun x=>(eval E st.tm x).strip)=args) (hs:E.sh nm f=false) (hp:args.all V.pureTop=true)
 (h:∀u,u=ub→YT E r K (eval E st.tm) (.call f xs) st d ub { v:=.sl (some (u,1)) false n cs,add:=[u] }):jG E (⟨d,.call f xs,none,nm⟩::r) st ub K:=by
 refine X6 hev hx hs hp ?_
 rw[jm4]
 rw[jN]
 exact h ub rfl
end
section
variable {g:Hist'}{M:List Int}
set_option maxHeartbeats 4000000 in
theorem ev41 (hs:Small g) (hm:WX g M=true) {mn fn:Bool}(found:List Int) (hfl:found.length≤1000000):∀ (n:Nat) (head left:List Int) (hn ln:Bool),left.length=n→n≤5→head.length+n≤1000→(head++left).Perm (comL g) →
 Ev E 41 [.agg (j2 g),jH mn intC M,jH hn intC head,jH ln intC left,jH fn intC found] (.bool (YE (Jm g 3 M) found n head left))
 | 0,head,left,hn,ln,hl,h5,hh,hp=>by
  have:left=[]:=List.length_eq_zero_iff.1 hl
  subst this
  rw[List.append_nil]at hp
  have e24:=ev24 hs (nl:=mn) (on:=hn) 3 hm ((jec (Jt hm)).2 hp)
  have e85:=ev85 (an:=hn) (bn:=fn) head found (by omega)
  refine jT (af:=F41) rfl ?_
  simp[F41,j2,jH,j1]
  refine jU e24 (by simp[j2,jH]) rfl (by simp[j2,jH]) ?_
  rw[YE]
  cases hf:found.isEmpty
  ·have hf2:¬ (found.length:Int)=0:=by
    cases found with
    | nil=>cases hf
    | cons a l=>simp;omega
   have hf3:((found.length:Int) == 0)=false:=by simpa using hf2
   cases hc:Jm g 3 M head
   ·simp[hf3]
    exact j3 (by simp) (by simp) rfl
   ·simp[hf3]
    refine jU e85 (by simp[jH]) rfl (by simp[jH]) ?_
    simp
    exact j3 (by simp) (by simp) rfl
  ·have hf2:found=[]:=by simpa using hf
   subst hf2
   simp
   exact j3 (by simp) (by simp) rfl
 | n+1,head,left,hn,ln,hl,h5,hh,hp=>by
  have ih:=ev41 hs hm (mn:=mn) (fn:=fn) found hfl n
  refine jT (af:=F41) rfl ?_
  have hl0:((left.length:Int) == 0)=false:=by rw[hl];simp;omega
  simp[F41,j2,jH,hl0]
  have e0:YE (Jm g 3 M) found (n+1) head left=XX (fun i=>YE (Jm g 3 M) found n (head++[left.getD i 0]) (left.eraseIdx i)) left.length:=rfl
  rw[e0]
  obtain⟨P,hP⟩:∃P:Nat→Bool,P=fun i=>YE (Jm g 3 M) found n (head++[left.getD i 0]) (left.eraseIdx i):=⟨_,rfl⟩
  rw[← hP]
  refine jF [(10,10),(12,13),(34,62)] left.length (fun i s=>s.tm 12=.int .i64 i∧s.ob 10=some ⟨0,.cells (j2 g)⟩∧XX P i=true) rfl rfl ⟨by simp,by simp[j2,jH],rfl⟩ ?_
  rintro i s hi ⟨s12,sB,sA⟩ f
  have s1:s.tm 1=jH mn intC M:=by rw[f.t 1 (by simp)];simp[jH]
  have s2:s.tm 2=jH hn intC head:=by rw[f.t 2 (by simp)];simp[jH]
  have s3:s.tm 3=jH ln intC left:=by rw[f.t 3 (by simp)];simp[jH]
  have s4:s.tm 4=jH fn intC found:=by rw[f.t 4 (by simp)];simp[jH]
  have s5:s.tm 5=.ptr 10 0 0:=by rw[f.t 5 (by simp)];simp
  have sd:s.df=[]:=by rw[f.d];simp
  have sr:s.ro=0:=by rw[f.r];simp
  clear f
  by_cases hlt:i<left.length
  ·have hwk:=jv hlt (by omega)
   have hwk2:IntKind.i64.wrap ((i:Int)+1)=((i+1:Nat):Int):=by simpa using hwk
   have hh1:=jky jB none ln left (Nat.le_of_lt hlt)
   have ht1:Wu 1 (some (.int .i64 ((i:Int)+1))) none (.sl none ln left.length (left.flatMap intC))=some (.sl none ln (left.drop (i+1)).length ((left.drop (i+1)).flatMap intC)):=j04 jB none ln left (show i+1≤left.length from hlt)
   have ia:=JP left hlt
   have ec1:=ev25t ln (left.take i) (by rw[List.length_take];omega)
   have ec2:=ev25t hn head (by omega)
   have hP1:P i=YE (Jm g 3 M) found n (head++[left[i]]) (left.eraseIdx i):=by
    rw[hP]
    simp[List.getD_eq_getElem?_getD,List.getElem?_eq_getElem hlt]
   have hT:(left.take i).length≤1000:=by rw[List.length_take];omega
   have hD:(left.drop (i+1)).length≤1000:=by rw[List.length_drop];omega
   have hlen:(left.eraseIdx i).length=n:=by rw[List.length_eraseIdx_of_lt hlt];omega
   have e41:=ih (head++[left[i]]) (left.eraseIdx i) false false hlen (by omega) (by simp;omega) (by
    refine List.Perm.trans ?_ hp
    rw[List.append_assoc]
    exact List.Perm.append_left head (Wf left i hlt))
   rw[← hP1]at e41
   rw[List.eraseIdx_eq_take_drop_succ]at e41
   generalize left.take i=T at *
   generalize left.drop (i+1)=D at *
   have hx:(D.flatMap intC).all V.pureLeaf=true:=by simp[intC,V.pureLeaf]
   simp(disch:=first|(simp;done)|omega) [s12,s3,hlt,jH,hh1]
   refine jzy ec1 (by simp[jH]) rfl (by simp[jH]) fun u1 _=>?_
   simp(disch:=first|(simp;done)|omega) [s12,s3,hlt,jH,hwk2,ht1]
   refine jua (f:=intC) (l:=D) (u:=u1) (n:=T.length) (cs:=T.flatMap intC) (by simp) (by simp[JC]) (by simp[jM,j8 jB]) (by rw[j8 jB]) jB (by decide) hx (by omega) (by omega) fun b=>?_
   simp(disch:=first|(simp;done)|omega) [s1,s2,s4,s5,s3,j1,sB,j2]
   refine jzy ec2 (by simp[jH]) rfl (by simp[jH]) fun u2 hu2=>?_
   simp(disch:=first|(simp;done)|omega) [s12,s3,hlt,jH,Jx jB,ia]
   refine jpy (cs:=[.int .i64 left[i]]) (by simp[j7]) rfl rfl ?_
   simp
   refine jt9 (u:=u2) (n:=head.length) (cs:=head.flatMap intC) (ys:=[.int .i64 left[i]]) (by simp) (by simp[JC]) (by simp[jM]) (by simp) (by rw[j8 jB]) (by decide) rfl (by simp;omega) (by simp;omega) ?_
   simp(disch:=first|(simp;done)|omega) [s4]
   refine X6 e41 (by simp[j2,jH,intC]) rfl (by simp[j2,jH]) ?_
   cases hPi:P i
   ·simp
    refine⟨by simp[XP,jae,je2,jb4,rdOb,rdTk,lOf,uOf,Delta.wo,Delta.wt,s5];exact j0b (by omega),?_⟩
    refine j3 (by simp[sd]) ?_ rfl
    simp[Xn hlt hPi]
   ·simp
    refine⟨by simp[XP,jae,je2,jb4,rdOb,rdTk,lOf,uOf,Delta.wo,Delta.wt,s5];exact j0b (by omega),?_⟩
    simp(disch:=first|(simp;done)|omega) [s12,hwk2,hlt]
    exact⟨by simpa[j2,jH] using sB,by rw[XX,sA,hPi];rfl⟩
  ·have:i=left.length:=by omega
   subst this
   simp[s12,s3,jH]
   exact j3 (by simp[sd]) (by simp[sA]) rfl
end
theorem jl7 {g:Hist'}{M:List Int}{most:Int}{fo:List Int}{fn fe:Int}(h:jgr g M most=(fo,fn,fe)) :
 (fe≠0∧fe≠3∧fo=[])∨(WX g M=true∧(X8 g M most).2.1=false∧fn=((X8 g M most).2.2.length:Nat) ∧
  (fe=3∧(X8 g M most).1=none∧fo=[]∨fe=0∧∃L,(X8 g M most).1=some L∧fo=ints L)):=by
 unfold jgr at h
 cases hw:JT g
 ·simp[hw]at h
  obtain⟨rfl,rfl,rfl⟩:=h
  exact .inl ⟨by decide,by decide,rfl⟩
 cases hm:WX g M
 ·simp[hw,hm]at h
  obtain⟨rfl,rfl,rfl⟩:=h
  exact .inl ⟨by decide,by decide,rfl⟩
 by_cases hmo:most<0
 ·simp[hw,hm,hmo]at h
  obtain⟨rfl,rfl,rfl⟩:=h
  exact .inl ⟨by decide,by decide,rfl⟩
 rcases hf:X8 g M most with⟨o,sp,vis⟩
 cases sp with
 | true=>
  simp[hw,hm,hmo,hf]at h
  obtain⟨rfl,rfl,rfl⟩:=h
  exact .inl ⟨by decide,by decide,rfl⟩
 | false=>
  cases o with
  | none=>
   simp[hw,hm,hmo,hf]at h
   obtain⟨rfl,rfl,rfl⟩:=h
   exact .inr ⟨rfl,rfl,rfl,.inl ⟨rfl,rfl,rfl⟩⟩
  | some L=>
   simp[hw,hm,hmo,hf]at h
   obtain⟨rfl,rfl,rfl⟩:=h
   exact .inr ⟨rfl,rfl,rfl,.inr ⟨rfl,L,rfl,rfl⟩⟩
theorem jrn {n P:Nat}(h:n≤8) (hP:P=2 ^ n):Xx .shl (.int .i64 1) (.int .i64 (n:Int))=some (.int .i64 (P:Int)):=by
 subst hP
 have:n=0∨n=1∨n=2∨n=3∨n=4∨n=5∨n=6∨n=7∨n=8:=by omega
 rcases this with rfl|rfl|rfl|rfl|rfl|rfl|rfl|rfl|rfl <;> rfl
theorem ords {g:Hist'}{M:List Int}{most fe:Int}{fo:List Int}(hmr:WX g M=true) (hsp:(X8 g M most).2.1=false) (hcase:fe=3∧(X8 g M most).1=none∧fo=[]∨fe=0∧∃L,(X8 g M most).1=some L∧fo=ints L) (hbad:∀t∈comL g,badH g t=[]) (hne:(comL g).length≠0) :
 YE (Jm g 3 M) fo (comL g).length [] (comL g)=true:=by
 refine jga (C:=comL g) (fun O hO hold=>?_) _ [] _ rfl (by rw[List.nil_append])
 obtain⟨L',h1,h2⟩:=jl5 hmr hbad hsp ((jec (Jt hmr)).2 hO) hold
 rcases hcase with⟨_,h,_⟩|⟨_,L,h,rfl⟩
 ·rw[h]at h1
  cases h1
 ·rw[h]at h1
  cases h1
  refine⟨fun e=>hne ?_,h2⟩
  have:=(X1 (QW hmr h)).length_eq
  rw[e]at this
  exact this.symm
set_option maxHeartbeats 4000000 in
theorem ev11 (h:Hist') {nl:Bool}(M:List Int):Ev E 11 [.agg (j2 h),jH nl intC M] (.bool true):=by
 obtain⟨r,ev,hr⟩:=ev15 h
 have hs:=j5j h
 have h8:=j3k h
 generalize jdd h=g at *
 have hm1:jbr false [.int .i64 (M.length:Int),.int .i64 60]=some (.int .i64 ((min M.length 60:Nat):Int)):=jei M.length 60
 have hk1:min M.length 60≤M.length:=Nat.min_le_left _ _
 have hk3:min M.length 60≤60:=Nat.min_le_right _ _
 generalize min M.length 60=k1 at *
 have hs1:=jky jB none nl M hk1
 have l1:(M.take k1).length≤60:=by rw[List.length_take];omega
 generalize M.take k1=M' at *
 obtain⟨vm,evm,hvm⟩:=ev25 nl M' (by omega)
 obtain⟨v34,e34,hv34⟩:=ev34 hs h8 (mn:=false) (M:=M') (by omega) 1000
 have e39:=ev39 g (by omega)
 have hcl:=ja8 g
 rw[show numsTo JE g.ts g.ts.length=comL g from rfl]at e39
 obtain⟨P,hP⟩:∃P:Nat,P=2 ^ (comL g).length:=⟨_,rfl⟩
 have hsh:=jrn (by omega:(comL g).length≤8) hP
 have hfl:=juk g M' 1000
 rw[← hP]at hfl
 rcases hfr:jgr g M' 1000 with⟨fo,fn,fe⟩
 rw[hfr]at hv34
 obtain⟨fnl,hfn,hv34⟩:=hv34
 simp only at hfn hv34
 have hcase:=jl7 hfr
 clear hfr
 refine jT (af:=F11) rfl ?_
 simp[F11,j2,j1]
 refine jU ev36 (by simp) rfl (by simp) ?_
 simp[j1]
 refine X6 ev (by simp[j2,jH]) rfl (by simp[j2,jH]) ?_
 refine j1k hr fun a1 b1 c1 add1=>?_
 simp[hm1,hs1,jH]
 refine X6 evm (by simp[jH]) rfl (by simp[jH]) ?_
 refine Wx hvm fun a2 add2=>?_
 simp[j7,j1]
 refine jU e34 (by simp[jH,j2]) rfl (by simp[jH,j2]) ?_
 refine jrw hv34 rfl fun ws add hws=>?_
 obtain⟨x,y,z,rfl,h1,h2,h3⟩:=map3 hws
 obtain⟨t1,rfl⟩:=jal h1
 obtain rfl:=QK h2
 obtain rfl:=QK h3
 simp
 rcases hcase with⟨q1,q2,q3⟩|⟨hmr,hsp,hfnn,hcase⟩
 ·subst q3
  have q1':(fe != 0)=true:=by simpa using q1
  have q2':(fe != 3)=true:=by simpa using q2
  simp[q1',q2']
  exact j3 (by simp) (by simp) rfl
 obtain⟨ob0,gH⟩:∃o:Obj',o = { uid:=0,body:=OBody.cells [V.sl a1 g.sn g.ss.length (g.ss.flatMap JK),V.sl b1 g.kn g.ks.length (g.ks.flatMap JK),V.sl c1 g.tn g.ts.length (g.ts.flatMap ji)] }:=⟨_,rfl⟩
 have hfe:fe=3∨fe=0:=by
  rcases hcase with h|h
  ·exact .inl h.1
  ·exact .inr h.1
 have hf0:fe=0→(∀t∈comL g,badH g t=[])→JB g fo=true∧Jm g 3 M' fo=true:=fun e hb=>by
  rcases hcase with h|⟨_,L,hL,rfl⟩
  ·omega
  ·exact⟨QW hmr hL,jl6 hmr hb hL⟩
 have hgt:decide ((P:Int)<fn)=false:=by
  rw[hfnn]
  simp
  omega
 have hfol:fo.length≤1000000:=by
  rcases hcase with⟨_,_,rfl⟩|⟨_,L,hL,rfl⟩
  ·simp
  ·rw[(X1 (QW hmr hL)).length_eq]
   omega
 have hords:=ords hmr hsp hcase
 clear hcase hfnn hfl hsp
 rcases hfe with e|e
 all_goals have e':(fe != 0 && fe != 3)=false:=by rw[e];rfl
 all_goals simp[e,j1]
 all_goals refine jU e39 (by simp[jH,j2]) rfl (by simp[jH,j2]) ?_
 all_goals rw[jm4]
 all_goals simp
 all_goals refine JJ fun st1 hst=>?_
 all_goals have g1:st1.tm 1=.sl a2 false M'.length (M'.flatMap intC):=by rw[hst];simp
 all_goals have g2:st1.tm 2=.ptr 4 0 0:=by rw[hst];simp
 all_goals have g6:st1.tm 6=.int .i64 fn:=by rw[hst];simp
 all_goals have g9:st1.tm 9=.int .i64 0:=by rw[hst];simp
 all_goals have gB:st1.ob 4=some ob0:=by rw[hst,gH];simp
 all_goals have gd:st1.df=[]:=by rw[hst];simp
 all_goals have gr:st1.ro=0:=by rw[hst];simp
 all_goals obtain⟨t8,g8⟩:∃t,st1.tm 8=.sl t false (comL g).length ((comL g).flatMap intC):=⟨_,by rw[hst];simp;rfl⟩
 all_goals have g5:st1.tm 5=.sl t1 fnl fo.length (fo.flatMap intC):=by rw[hst];simp
 all_goals have g7:st1.tm 7=.int .i64 fe:=by rw[hst];simp[e]
 all_goals clear hst
 all_goals refine jF [(4,4),(9,9),(38,51)] (comL g).length (fun i s=>s.tm 9=.int .i64 i∧s.ob 4=some ob0∧∀j (h:j<(comL g).length),j<i→badH g (comL g)[j]=[]) rfl rfl ⟨by simpa using g9,gB,fun j _ h=>by omega⟩ ?_
 all_goals rintro i s hi ⟨s9,sB,hb⟩ f
 all_goals have s1:s.tm 1=.sl a2 false M'.length (M'.flatMap intC):=by rw[f.t 1 (by simp),g1]
 all_goals have s2:s.tm 2=.ptr 4 0 0:=by rw[f.t 2 (by simp),g2]
 all_goals have s5:s.tm 5=.sl t1 fnl fo.length (fo.flatMap intC):=by rw[f.t 5 (by simp),g5]
 all_goals have s6:s.tm 6=.int .i64 fn:=by rw[f.t 6 (by simp),g6]
 all_goals have s7:s.tm 7=.int .i64 fe:=by rw[f.t 7 (by simp),g7]
 all_goals have s8:s.tm 8=.sl t8 false (comL g).length ((comL g).flatMap intC):=by rw[f.t 8 (by simp),g8]
 all_goals have sd:s.df=[]:=by rw[f.d,gd]
 all_goals have sr:s.ro=0:=by rw[f.r,gr]
 all_goals clear f g1 g2 g5 g6 g7 g8 g9 gB gd gr
 all_goals
  by_cases hlt:i<(comL g).length
  ·have hwk:=jv hlt (by omega)
   have hix:=Jx jB t8 false (comL g) .i64 hlt
   have hia:=JP (comL g) hlt
   obtain⟨v40,e40,h40⟩:=ev40 hs (comL g)[i]
   generalize hx:(comL g)[i]=x at *
   simp(disch:=first|(simp;done)|omega) [s9,s8,s2,hlt,j1,sB,gH,hix,hia]
   refine X6 e40 (by simp[j2,jH]) rfl (by simp[j2,jH]) ?_
   refine Wx h40 fun a6 add6=>?_
   cases hbad:badH g x with
   | nil=>
    simp(disch:=first|(simp;done)|omega) [s9,hwk,hlt]
    refine⟨by rw[← gH];exact sB,fun j hj hji=>?_⟩
    by_cases he:j=i
    ·subst he
     rw[hx]
     exact hbad
    ·exact hb j hj (by omega)
   | cons b l=>
    simp
    exact j3 (by simp[sd]) (by simp) rfl
  have e1:i=(comL g).length:=by omega
  subst e1
  have hbad:∀t∈comL g,badH g t=[]:=fun t ht=>by
   obtain⟨j,hj,rfl⟩:=List.getElem_of_mem ht
   exact hb j hj hj
  have hor:=hords hbad
  clear hb
  simp(disch:=first|(simp;done)|omega) [s9,s8,s6,s7,hsh,hgt,e]
 rotate_left
 obtain⟨q1,q2⟩:=hf0 e hbad
 have e24:=ev24 hs (nl:=false) (on:=fnl) 3 hmr q1
 rw[q2]at e24
 simp(disch:=first|(simp;done)|omega) [s1,s2,s5,j1,sB,gH]
 refine jU e24 (by simp[j2,jH]) rfl (by simp[j2,jH]) ?_
 simp(disch:=first|(simp;done)|omega) [s8]
 all_goals
  by_cases h5:5<(comL g).length
  ·have h5':decide ((5:Int)<(comL g).length)=true:=by simp;omega
   simp(disch:=first|(simp;done)|omega) [h5']
   exact j3 (by simp[sd]) (by simp) rfl
  have h5':decide ((5:Int)<(comL g).length)=false:=by simp;omega
  by_cases h0:(comL g).length=0
  ·have h0':(((comL g).length:Int) == 0)=true:=by simp[h0]
   simp(disch:=first|(simp;done)|omega) [h5',h0',s8]
   exact j3 (by simp[sd]) (by simp) rfl
  have h0':(((comL g).length:Int) == 0)=false:=by simpa using h0
  have e41:=ev41 hs hmr (mn:=false) (fn:=fnl) fo hfol (comL g).length [] (comL g) true false rfl (by omega) (by simp;omega) (by rw[List.nil_append])
  rw[hor h0]at e41
  simp(disch:=first|(simp;done)|omega) [h5',h0',s8,s1,s2,s5,j1,sB,gH]
  refine jU e41 (by simp[j2,jH]) rfl (by simp[j2,jH]) ?_
  simp
  exact j3 (by simp[sd]) (by simp) rfl
end Go.Pv.T
namespace Go.Pv.T
open Go Go.Pv Go.Proofs Go.Shelf
def renS:Ren where
 f:=fun x=>match x with
  | 189=>69
  | 125=>118
  | 257=>117
  | 128=>187
  | 129=>188
  | 294=>178
  | 295=>179
  | 296=>180
  | 297=>181
  | 298=>182
  | 299=>183
  | 216=>184
  | 300=>185
  | 301=>186
  | 328=>238
  | 329=>239
  | 330=>240
  | 331=>241
  | 332=>242
  | 215=>243
  | 343=>275
  | n=>n
 t:=fun x=>match x with
  | 28=>26
  | 3=>3
  | 46=>160
  | 0=>0
  | 51=>236
  | 53=>165
  | 4=>4
  | 183=>230
  | 182=>229
  | 131=>157
  | 5=>5
  | 9=>9
  | 218=>275
  | 222=>279
  | 228=>307
  | 229=>304
  | n=>n
 g:=fun x=>x
theorem j9l:Lays.n189 Tryz.prog renS where
 mixed:=by kernel_rfl
 f125:=Tryz.func118.trans (congrArg some (by kernel_rfl))
 f128:=Tryz.func187.trans (congrArg some (by kernel_rfl))
 f129:=Tryz.func188.trans (congrArg some (by kernel_rfl))
 f189:=Tryz.func69.trans (congrArg some (by kernel_rfl))
 f215:=Tryz.func243.trans (congrArg some (by kernel_rfl))
 f216:=Tryz.func184.trans (congrArg some (by kernel_rfl))
 f257:=Tryz.func117.trans (congrArg some (by kernel_rfl))
 f294:=Tryz.func178.trans (congrArg some (by kernel_rfl))
 f295:=Tryz.func179.trans (congrArg some (by kernel_rfl))
 f296:=Tryz.func180.trans (congrArg some (by kernel_rfl))
 f297:=Tryz.func181.trans (congrArg some (by kernel_rfl))
 f298:=Tryz.func182.trans (congrArg some (by kernel_rfl))
 f299:=Tryz.func183.trans (congrArg some (by kernel_rfl))
 f300:=Tryz.func185.trans (congrArg some (by kernel_rfl))
 f301:=Tryz.func186.trans (congrArg some (by kernel_rfl))
 f328:=Tryz.func238.trans (congrArg some (by kernel_rfl))
 f329:=Tryz.func239.trans (congrArg some (by kernel_rfl))
 f330:=Tryz.func240.trans (congrArg some (by kernel_rfl))
 f331:=Tryz.func241.trans (congrArg some (by kernel_rfl))
 f332:=Tryz.func242.trans (congrArg some (by kernel_rfl))
 f343:=Tryz.func275.trans (congrArg some (by kernel_rfl))
 t0:=Tryz.underlying0
 a0:=Tryz.isAgg0
 z0:=Tryz.sizeOf0
 v0:=Tryz.zeroValue0
 t3:=Tryz.underlying3
 a3:=Tryz.isAgg3
 z3:=Tryz.sizeOf3
 v3:=Tryz.zeroValue3
 t4:=Tryz.underlying4
 a4:=Tryz.isAgg4
 z4:=Tryz.sizeOf4
 v4:=Tryz.zeroValue4
 t5:=Tryz.underlying5
 a5:=Tryz.isAgg5
 z5:=Tryz.sizeOf5
 v5:=Tryz.zeroValue5
 t9:=Tryz.underlying9
 a9:=Tryz.isAgg9
 z9:=Tryz.sizeOf9
 v9:=Tryz.zeroValue9
 t28:=Tryz.underlying26
 a28:=Tryz.isAgg26
 z28:=Tryz.sizeOf26
 v28:=Tryz.zeroValue26
 t46:=Tryz.underlying160
 a46:=Tryz.isAgg160
 z46:=Tryz.sizeOf160
 v46:=Tryz.zeroValue160
 t51:=Tryz.underlying236
 a51:=Tryz.isAgg236
 z51:=Tryz.sizeOf236
 v51:=Tryz.zeroValue236
 t53:=Tryz.underlying165
 a53:=Tryz.isAgg165
 z53:=Tryz.sizeOf165
 v53:=Tryz.zeroValue165
 t131:=Tryz.underlying157
 a131:=Tryz.isAgg157
 z131:=Tryz.sizeOf157
 v131:=Tryz.zeroValue157
 t182:=Tryz.underlying229
 a182:=Tryz.isAgg229
 z182:=Tryz.sizeOf229
 v182:=Tryz.zeroValue229
 t183:=Tryz.underlying230
 a183:=Tryz.isAgg230
 z183:=Tryz.sizeOf230
 v183:=Tryz.zeroValue230
 t218:=Tryz.underlying275
 a218:=Tryz.isAgg275
 z218:=Tryz.sizeOf275
 v218:=Tryz.zeroValue275
 t222:=Tryz.underlying279
 a222:=Tryz.isAgg279
 z222:=Tryz.sizeOf279
 v222:=Tryz.zeroValue279
 t228:=Tryz.underlying307
 a228:=Tryz.isAgg307
 z228:=Tryz.sizeOf307
 v228:=Tryz.zeroValue307
 t229:=Tryz.underlying304
 a229:=Tryz.isAgg304
 z229:=Tryz.sizeOf304
 v229:=Tryz.zeroValue304
theorem jrh:jmp Tryz.prog 69:=by
 refine⟨⟨Tryz.f69,_,Tryz.func69,rfl,by kernel_rfl⟩,fun p cap w=>?_,fun blk off cap zs w h1 h2 h3=>?_⟩
 ·exact Any.slices_Sort_int_none j9l p cap w
 ·exact Any.slices_Sort_int j9l blk off cap zs w h1 h2 h3
end Go.Pv.T
namespace Go.Pv.T
open Go Go.Pv Go.Proofs
theorem j19 (p:Option Addr) (cap:Nat) (w:World):Calls Tryz.prog 78 #[.slice p 0 cap] w fun e w'=>e=.returned (.pointer (some ⟨w.heap.size,0,none⟩))∧∃t,w'=w.alloc (.cells #[.int .u64 0,.int .u64 0,.int .u64 0,.int .u64 0,.int .u64 0,.int .u64 0,.int .u64 0,.int .u64 0] t):=by
 go_enter Tryz.func78,Tryz.ntmps78
 go_wp2
 refine wp_loop_rounds 1 ?_
 rw[rounds_succ]
 go_wp2
 go_ret
 exact⟨rfl,_,rfl⟩
theorem mkLaw:j4h Tryz.prog 78 j5p:=by
 refine⟨⟨_,_,Tryz.func78,rfl,by kernel_rfl⟩,fun p cap w=>(j19 p cap w).mono ?_⟩
 rintro e w' ⟨rfl,t,rfl⟩
 refine⟨rfl,_,t,rfl,rfl,fun j x v hx hv=>?_⟩
 match j with
 | 0|1|2|3|4|5|6|7=>
  simp[j5p]at hx hv
  subst hx hv
  exact⟨rfl,fun I=>.int _ _⟩
 | j+8=>simp[j5p]at hv
abbrev Jzz:=jZ Tryz.prog false
theorem j4 {P:Program} {r:Bool} {f:FuncId} {fn:Func} {af:AF} (h1:P.funcs[f]? = some fn) (m:Bool:=false) (h2:j3w P m r fn=some af:=by kernel_rfl) (h3:(fn.name == "runtime.NumGoroutine")=false:=by kernel_rfl) (h4:af.body.dstOk fn.ntmps=true:=by kernel_rfl):jZ P r f af:=by
  unfold j3w at h2
  cases hb:fn.body with
  | none=>rw[hb]at h2;cases h2
  | some c=>
    rw[hb,Option.bind_some]at h2
    cases hc:comp P m r c with
    | none=>rw[hc]at h2;cases h2
    | some b=>
      rw[hc,Option.bind_some]at h2
      cases hr:fn.results.toList.mapM (YO P) with
      | none=>rw[hr]at h2;cases h2
      | some res=>
        rw[hr]at h2
        cases h2
        exact⟨m,fn,c,h1,hb,hc,hr,h3,h4⟩
theorem j65:Jzz 307 F307:=j4 Tryz.func307
theorem j64:Jzz 320 F320:=j4 Tryz.func320
theorem j8j:Jzz 172 F172:=j4 Tryz.func172
theorem j8i:Jzz 173 F173:=j4 Tryz.func173
theorem j8h:Jzz 174 F174:=j4 Tryz.func174
theorem j8g:Jzz 176 F176:=j4 Tryz.func176
theorem j8f:Jzz 177 F177:=j4 Tryz.func177
theorem j8e:Jzz 188 F188:=j4 Tryz.func188
theorem j8d:Jzz 189 F189:=j4 Tryz.func189
theorem j8c:Jzz 190 F190:=j4 Tryz.func190
theorem j8b:Jzz 212 F212:=j4 Tryz.func212
theorem j8a:Jzz 214 F214:=j4 Tryz.func214
theorem j79:Jzz 216 F216:=j4 Tryz.func216
theorem j78:Jzz 217 F217:=j4 (m:=true) Tryz.func217
theorem j77:Jzz 223 F223:=j4 Tryz.func223
theorem j76:Jzz 224 F224:=j4 Tryz.func224
theorem j75:Jzz 225 F225:=j4 Tryz.func225
theorem j74:Jzz 226 F226:=j4 Tryz.func226
theorem j73:Jzz 227 F227:=j4 Tryz.func227
theorem j72:Jzz 228 F228:=j4 Tryz.func228
theorem j71:Jzz 229 F229:=j4 Tryz.func229
theorem j70:Jzz 230 F230:=j4 Tryz.func230
theorem j7z:Jzz 233 F233:=j4 Tryz.func233
theorem j7y:Jzz 234 F234:=j4 Tryz.func234
theorem j7x:Jzz 235 F235:=j4 Tryz.func235
theorem j7w:Jzz 236 F236:=j4 Tryz.func236
theorem j7v:Jzz 251 F251:=j4 Tryz.func251
theorem j7u:Jzz 252 F252:=j4 Tryz.func252
theorem j7t:Jzz 253 F253:=j4 Tryz.func253
theorem j7s:Jzz 254 F254:=j4 Tryz.func254
theorem j7r:Jzz 258 F258:=j4 Tryz.func258
theorem j7q:Jzz 259 F259:=j4 Tryz.func259
theorem j7p:Jzz 261 F261:=j4 Tryz.func261
theorem j7o:Jzz 262 F262:=j4 Tryz.func262
theorem j7n:Jzz 263 F263:=j4 Tryz.func263
theorem j7m:Jzz 264 F264:=j4 Tryz.func264
theorem j7l:Jzz 265 F265:=j4 Tryz.func265
theorem j7k:Jzz 266 F266:=j4 Tryz.func266
theorem j7j:Jzz 267 F267:=j4 Tryz.func267
theorem j7i:Jzz 268 F268:=j4 Tryz.func268
theorem j7h:Jzz 269 F269:=j4 Tryz.func269
theorem j7g:Jzz 273 F273:=j4 Tryz.func273
theorem j7f:Jzz 280 F280:=j4 Tryz.func280
theorem j7e:Jzz 281 F281:=j4 Tryz.func281
theorem j7d:Jzz 284 F284:=j4 Tryz.func284
theorem j7c:Jzz 285 F285:=j4 Tryz.func285
theorem j7b:Jzz 286 F286:=j4 Tryz.func286
theorem j7a:Jzz 288 F288:=j4 Tryz.func288
theorem j69:Jzz 289 F289:=j4 Tryz.func289
theorem j68:Jzz 293 F293:=j4 Tryz.func293
theorem j67:Jzz 300 F300:=j4 Tryz.func300
theorem j66:Jzz 304 F304:=j4 Tryz.func304
theorem okc11:Jzz 11 F11:=j4 Tryz.func11
theorem okc15:Jzz 15 F15:=j4 (m:=true) Tryz.func15
theorem okc24:Jzz 24 F24:=j4 Tryz.func24
theorem okc25:Jzz 25 F25:=j4 Tryz.func25
theorem okc31:Jzz 31 F31:=j4 Tryz.func31
theorem okc32:Jzz 32 F32:=j4 Tryz.func32
theorem okc33:Jzz 33 F33:=j4 Tryz.func33
theorem okc34:Jzz 34 F34:=j4 (m:=true) Tryz.func34
theorem okc36:Jzz 36 F36:=j4 Tryz.func36
theorem okc37:Jzz 37 F37:=j4 (m:=true) Tryz.func37
theorem okc39:Jzz 39 F39:=j4 Tryz.func39
theorem okc40:Jzz 40 F40:=j4 Tryz.func40
theorem okc41:Jzz 41 F41:=j4 Tryz.func41
theorem okc52:Jzz 52 F52:=j4 Tryz.func52
theorem okc53:Jzz 53 F53:=j4 Tryz.func53
theorem okc57:Jzz 57 F57:=j4 Tryz.func57
theorem okc58:Jzz 58 F58:=j4 (m:=true) Tryz.func58
theorem okc63:Jzz 63 F63:=j4 Tryz.func63
theorem okc64:Jzz 64 F64:=j4 Tryz.func64
theorem okc71:Jzz 71 F71:=j4 Tryz.func71
theorem okc74:Jzz 74 F74:=j4 Tryz.func74
theorem okc75:Jzz 75 F75:=j4 Tryz.func75
theorem okc80:Jzz 80 F80:=j4 Tryz.func80
theorem okc84:Jzz 84 F84:=j4 Tryz.func84
theorem okc85:Jzz 85 F85:=j4 Tryz.func85
theorem okc86:Jzz 86 F86:=j4 Tryz.func86
theorem j87:Jzz 103 F103:=j4 Tryz.func103
theorem j86:Jzz 104 F104:=j4 Tryz.func104
theorem j85:Jzz 105 F105:=j4 Tryz.func105
theorem j84:Jzz 106 F106:=j4 (m:=true) Tryz.func106
theorem j83:Jzz 108 F108:=j4 Tryz.func108
theorem j82:Jzz 109 F109:=j4 (m:=true) Tryz.func109
theorem j81:Jzz 110 F110:=j4 Tryz.func110
theorem j80:Jzz 116 F116:=j4 Tryz.func116
theorem j8z:Jzz 118 F118:=j4 Tryz.func118
theorem j8y:Jzz 120 F120:=j4 Tryz.func120
theorem j8x:Jzz 121 F121:=j4 Tryz.func121
theorem j8w:Jzz 122 F122:=j4 Tryz.func122
theorem j8v:Jzz 127 F127:=j4 Tryz.func127
theorem j8u:Jzz 136 F136:=j4 Tryz.func136
theorem j8t:Jzz 152 F152:=j4 Tryz.func152
theorem j8s:Jzz 155 F155:=j4 Tryz.func155
theorem j8r:Jzz 157 F157:=j4 Tryz.func157
theorem j8q:Jzz 158 F158:=j4 Tryz.func158
theorem j8p:Jzz 159 F159:=j4 Tryz.func159
theorem j8o:Jzz 160 F160:=j4 Tryz.func160
theorem j8n:Jzz 161 F161:=j4 Tryz.func161
theorem j8m:Jzz 166 F166:=j4 Tryz.func166
theorem j8l:Jzz 167 F167:=j4 Tryz.func167
theorem j8k:Jzz 170 F170:=j4 Tryz.func170
theorem j95 {f:FuncId}{af:AF}(h:fc_2 f=some af):Jzz f af:=by
  unfold fc_2 at h
  split at h
  · cases h;exact j65
  · cases h;exact j64
  · cases h
theorem j96 {f:FuncId}{af:AF}(h:fc_1 f=some af):Jzz f af:=by
  unfold fc_1 at h
  split at h
  · cases h;exact j8j
  · cases h;exact j8i
  · cases h;exact j8h
  · cases h;exact j8g
  · cases h;exact j8f
  · cases h;exact j8e
  · cases h;exact j8d
  · cases h;exact j8c
  · cases h;exact j8b
  · cases h;exact j8a
  · cases h;exact j79
  · cases h;exact j78
  · cases h;exact j77
  · cases h;exact j76
  · cases h;exact j75
  · cases h;exact j74
  · cases h;exact j73
  · cases h;exact j72
  · cases h;exact j71
  · cases h;exact j70
  · cases h;exact j7z
  · cases h;exact j7y
  · cases h;exact j7x
  · cases h;exact j7w
  · cases h;exact j7v
  · cases h;exact j7u
  · cases h;exact j7t
  · cases h;exact j7s
  · cases h;exact j7r
  · cases h;exact j7q
  · cases h;exact j7p
  · cases h;exact j7o
  · cases h;exact j7n
  · cases h;exact j7m
  · cases h;exact j7l
  · cases h;exact j7k
  · cases h;exact j7j
  · cases h;exact j7i
  · cases h;exact j7h
  · cases h;exact j7g
  · cases h;exact j7f
  · cases h;exact j7e
  · cases h;exact j7d
  · cases h;exact j7c
  · cases h;exact j7b
  · cases h;exact j7a
  · cases h;exact j69
  · cases h;exact j68
  · cases h;exact j67
  · cases h;exact j66
  · exact j95 h
theorem fcOk {f:FuncId}{af:AF}(h:fc f=some af):Jzz f af:=by
  unfold fc at h
  split at h
  · cases h;exact okc11
  · cases h;exact okc15
  · cases h;exact okc24
  · cases h;exact okc25
  · cases h;exact okc31
  · cases h;exact okc32
  · cases h;exact okc33
  · cases h;exact okc34
  · cases h;exact okc36
  · cases h;exact okc37
  · cases h;exact okc39
  · cases h;exact okc40
  · cases h;exact okc41
  · cases h;exact okc52
  · cases h;exact okc53
  · cases h;exact okc57
  · cases h;exact okc58
  · cases h;exact okc63
  · cases h;exact okc64
  · cases h;exact okc71
  · cases h;exact okc74
  · cases h;exact okc75
  · cases h;exact okc80
  · cases h;exact okc84
  · cases h;exact okc85
  · cases h;exact okc86
  · cases h;exact j87
  · cases h;exact j86
  · cases h;exact j85
  · cases h;exact j84
  · cases h;exact j83
  · cases h;exact j82
  · cases h;exact j81
  · cases h;exact j80
  · cases h;exact j8z
  · cases h;exact j8y
  · cases h;exact j8x
  · cases h;exact j8w
  · cases h;exact j8v
  · cases h;exact j8u
  · cases h;exact j8t
  · cases h;exact j8s
  · cases h;exact j8r
  · cases h;exact j8q
  · cases h;exact j8p
  · cases h;exact j8o
  · cases h;exact j8n
  · cases h;exact j8m
  · cases h;exact j8l
  · cases h;exact j8k
  · exact j96 h
theorem oks51:jZ Tryz.prog true 51 S51:=j4 (m:=true) Tryz.func51
theorem oks76:jZ Tryz.prog true 76 S76:=j4 (m:=true) Tryz.func76
theorem oks77:jZ Tryz.prog true 77 S77:=j4 (m:=true) Tryz.func77
theorem oks78:jZ Tryz.prog true 78 S78:=j4 (m:=true) Tryz.func78
theorem oks81:jZ Tryz.prog true 81 S81:=j4 (m:=true) Tryz.func81
theorem oks82:jZ Tryz.prog true 82 S82:=j4 (m:=true) Tryz.func82
theorem j63:jZ Tryz.prog true 111 S111:=j4 (m:=true) Tryz.func111
theorem j62:jZ Tryz.prog true 123 S123:=j4 (m:=true) Tryz.func123
theorem j61:jZ Tryz.prog true 124 S124:=j4 (m:=true) Tryz.func124
theorem j60:jZ Tryz.prog true 125 S125:=j4 (m:=true) Tryz.func125
theorem j6z:jZ Tryz.prog true 128 S128:=j4 (m:=true) Tryz.func128
theorem j6y:jZ Tryz.prog true 129 S129:=j4 (m:=true) Tryz.func129
theorem j6x:jZ Tryz.prog true 130 S130:=j4 (m:=true) Tryz.func130
theorem j6w:jZ Tryz.prog true 131 S131:=j4 (m:=true) Tryz.func131
theorem j6v:jZ Tryz.prog true 132 S132:=j4 (m:=true) Tryz.func132
theorem j6u:jZ Tryz.prog true 133 S133:=j4 (m:=true) Tryz.func133
theorem j6t:jZ Tryz.prog true 134 S134:=j4 (m:=true) Tryz.func134
theorem j6s:jZ Tryz.prog true 147 S147:=j4 (m:=true) Tryz.func147
theorem j6r:jZ Tryz.prog true 153 S153:=j4 (m:=true) Tryz.func153
theorem j6q:jZ Tryz.prog true 154 S154:=j4 (m:=true) Tryz.func154
theorem j6p:jZ Tryz.prog true 156 S156:=j4 (m:=true) Tryz.func156
theorem j6o:jZ Tryz.prog true 168 S168:=j4 (m:=true) Tryz.func168
theorem j6n:jZ Tryz.prog true 169 S169:=j4 (m:=true) Tryz.func169
theorem j6m:jZ Tryz.prog true 171 S171:=j4 (m:=true) Tryz.func171
theorem j6l:jZ Tryz.prog true 191 S191:=j4 (m:=true) Tryz.func191
theorem j6k:jZ Tryz.prog true 213 S213:=j4 (m:=true) Tryz.func213
theorem j6j:jZ Tryz.prog true 215 S215:=j4 (m:=true) Tryz.func215
theorem j6i:jZ Tryz.prog true 231 S231:=j4 (m:=true) Tryz.func231
theorem j6h:jZ Tryz.prog true 232 S232:=j4 (m:=true) Tryz.func232
theorem j6g:jZ Tryz.prog true 237 S237:=j4 (m:=true) Tryz.func237
theorem j6f:jZ Tryz.prog true 255 S255:=j4 (m:=true) Tryz.func255
theorem j6e:jZ Tryz.prog true 270 S270:=j4 (m:=true) Tryz.func270
theorem j6d:jZ Tryz.prog true 271 S271:=j4 (m:=true) Tryz.func271
theorem j6c:jZ Tryz.prog true 272 S272:=j4 (m:=true) Tryz.func272
theorem j6b:jZ Tryz.prog true 274 S274:=j4 (m:=true) Tryz.func274
theorem j6a:jZ Tryz.prog true 291 S291:=j4 (m:=true) Tryz.func291
theorem j59:jZ Tryz.prog true 292 S292:=j4 (m:=true) Tryz.func292
theorem j58:jZ Tryz.prog true 294 S294:=j4 (m:=true) Tryz.func294
theorem j57:jZ Tryz.prog true 295 S295:=j4 (m:=true) Tryz.func295
theorem j56:jZ Tryz.prog true 296 S296:=j4 (m:=true) Tryz.func296
theorem j55:jZ Tryz.prog true 303 S303:=j4 (m:=true) Tryz.func303
theorem j54:jZ Tryz.prog true 305 S305:=j4 (m:=true) Tryz.func305
theorem j53:jZ Tryz.prog true 312 S312:=j4 (m:=true) Tryz.func312
theorem fsOk {f:FuncId}{af:AF}(h:fs f=some af):jZ Tryz.prog true f af:=by
  unfold fs at h
  split at h
  · cases h;exact oks51
  · cases h;exact oks76
  · cases h;exact oks77
  · cases h;exact oks78
  · cases h;exact oks81
  · cases h;exact oks82
  · cases h;exact j63
  · cases h;exact j62
  · cases h;exact j61
  · cases h;exact j60
  · cases h;exact j6z
  · cases h;exact j6y
  · cases h;exact j6x
  · cases h;exact j6w
  · cases h;exact j6v
  · cases h;exact j6u
  · cases h;exact j6t
  · cases h;exact j6s
  · cases h;exact j6r
  · cases h;exact j6q
  · cases h;exact j6p
  · cases h;exact j6o
  · cases h;exact j6n
  · cases h;exact j6m
  · cases h;exact j6l
  · cases h;exact j6k
  · cases h;exact j6j
  · cases h;exact j6i
  · cases h;exact j6h
  · cases h;exact j6g
  · cases h;exact j6f
  · cases h;exact j6e
  · cases h;exact j6d
  · cases h;exact j6c
  · cases h;exact j6b
  · cases h;exact j6a
  · cases h;exact j59
  · cases h;exact j58
  · cases h;exact j57
  · cases h;exact j56
  · cases h;exact j55
  · cases h;exact j54
  · cases h;exact j53
  · cases h
theorem envOk:EnvOk Tryz.prog E:=⟨fun _ _ h=>fcOk h,fun _ _ h=>fsOk h,fun f h=>by
  have e:f=69:=by simpa[E,srl] using h
  subst e;exact jrh,fun f cs h=>by
  simp only[E]at h
  split at h
  · cases h;exact mkLaw
  · cases h⟩
end Go.Pv.T
namespace Go.Pv.T
open Go Go.Pv Go.Proofs Go.ChangeShapes Go.WideShapes Go.ChangeAt Go.RowKit Go.Proofs.YtphecmnehkdihaaGreatDoor
theorem own:ownKnob Tryz.prog.godebug=none:=by kernel_rfl
theorem jtk:laidOutB Tryz.prog=true:=by kernel_rfl
theorem mixed:Tryz.prog.follows .mixedOrders=true:=by kernel_rfl
def jpr:List (String × DataW Unit):=[("math/bits.deBruijn64tab",Rows.laid_math_bits_deBruijn64tab),("unicode/utf8.acceptRanges",Rows.laid_unicode_utf8_acceptRanges),("deemster/event.words",Rows.laid_deemster_event_words),("unicode/utf8.first",Rows.laid_unicode_utf8_first)]
def jte:V→Value
  | .int k n=>.int k n
  | .str s=>.string ⟨s.toArray⟩
  | _=>.nilFunc
def putCells (h:Array Obj) (g:Nat) (cs:Array Value):Array Obj:=h.modify g fun
    | .cells _ t frozen=>.cells cs t frozen
    | o=>o
def jmo:Array Value:=#[.int .u8 128,.int .u8 191,.int .u8 160,.int .u8 191,.int .u8 128,.int .u8 159,.int .u8 144,.int .u8 191,.int .u8 128,.int .u8 143,.int .u8 0,.int .u8 0,.int .u8 0,.int .u8 0,.int .u8 0,.int .u8 0,.int .u8 0,.int .u8 0,.int .u8 0,.int .u8 0,.int .u8 0,.int .u8 0,.int .u8 0,.int .u8 0,.int .u8 0,.int .u8 0,.int .u8 0,.int .u8 0,.int .u8 0,.int .u8 0,.int .u8 0,.int .u8 0]
noncomputable def laidWorld (os:Os):World :=
  let w0:=World.holding Tryz.prog os ⟨#[],#[],[]⟩
  { w0 with heap:=putCells (putCells (putCells (putCells w0.heap 0 (bruij.map jte).toArray) 1 (words.map jte).toArray) 2 (utf8first.map jte).toArray) 3 jmo }
theorem jyu (os:Os) (args:Array Value):laidMetH Tryz.prog jpr ((laidWorld os).forCall (fun _ _=>0) ⟨#[],args,[]⟩).memory:=by
  rw[MakeChecks.laidMetH_plain _ _ _ (by kernel_rfl)]
  exact laidMet_of_run' 8 (by kernel_rfl) (by kernel_rfl)
theorem gWords:Tryz.prog.globalNamed "deemster/event.words" = some 1:=by kernel_rfl
theorem gFirst:Tryz.prog.globalNamed "unicode/utf8.first" = some 2:=by kernel_rfl
theorem gBruij:Tryz.prog.globalNamed "math/bits.deBruijn64tab" = some 0:=by kernel_rfl
theorem tBruij:(Tryz.prog.globals[0]?).map (·.type)=some 281:=by kernel_rfl
theorem tWords:(Tryz.prog.globals[1]?).map (·.type)=some 300:=by kernel_rfl
theorem tFirst:(Tryz.prog.globals[2]?).map (·.type)=some 319:=by kernel_rfl
def Y6 (W:World):IMap:=fun b o=>W.cell? ⟨b,o,none⟩
theorem juw (W:World):jkk (Y6 W) W:=fun _ _ _ h=>h
def jkn:DataW Unit→V
  | .lit (.int k n)=>.int k n
  | .lit (.string s)=>.str s
  | _=>.undef
theorem jmh     {W:World} {t e:TypeId} {n fuel:Nat} {cs:List Value} {ds:List (DataW Unit)} {p:List MemPlace} (ht:Tryz.prog.underlying t=some (.array n e)) (hc:Tryz.prog.cellsOf e=1)
    (he:Tryz.prog.underlying e=some .string∨∃k,Tryz.prog.underlying e=some (.int k)) (h:DataW.trod (fun _=>()) Tryz.prog W 0 (fun _=>true) false fuel t cs=some (.agg ds,p)) (I:IMap) :
    ∀ (j:Nat) (d:DataW Unit),ds[j]? = some d→∃x,cs[j]? = some x∧RepP I x (jkn d):=by
  obtain⟨xs,m,rfl,hx,hlen,hn,hel⟩:=DataW.trod_array ht h
  intro j d hd
  simp only[Prod.mk.injEq,DataW.agg.injEq]at hx
  rw[hx.1,List.getElem?_map]at hd
  cases hy:xs[j]? with
  | none=>simp[hy]at hd
  | some y=>
    rw[hy]at hd
    simp only[Option.map_some,Option.some.injEq]at hd
    have hj:j<n:=by rw[← hn];exact(List.getElem?_eq_some_iff.1 hy).1
    have:=hel j hj
    rw[hc,Nat.mul_one,hy]at this
    have one:∀c,(cs.drop j).take 1=[c]→cs[j]? = some c:=by
      intro c hcc
      have:=congrArg List.head? hcc
      simpa[List.head?_take,List.head?_drop] using this
    rcases he with he|⟨k,he⟩
    · obtain⟨s,e1,e2,_⟩:=DataW.trod_string he this
      refine⟨_,one _ e1,?_⟩
      rw[← hd,e2]
      exact RepP.str s
    · obtain⟨s,e1,e2,_⟩:=DataW.trod_int he this
      refine⟨_,one _ e1,?_⟩
      rw[← hd,e2]
      exact RepP.int k s
theorem jn3    {W:World} {nm:String} {g:Nat} {cs:Array Value} {ds:List (DataW Unit)} (hg:Tryz.prog.globalNamed nm=some g) (hv:W.var? Tryz.prog nm=some cs) (hp:(ds.map jkn ).all V.pureLeaf=true)
    (h:∀ (j:Nat) (d:DataW Unit),ds[j]? = some d→∃x,cs.toList[j]? = some x∧RepP (Y6 W) x (jkn d)):RepP (Y6 W) (.pointer (some ⟨g,0,none⟩)) (.eptr (ds.map jkn) 0):=by
  have hc:=World.var?_cell hg hv
  refine RepP.eptr g 0 0 (ds.map jkn) (fun j=>(cs[j]?).getD .nilFunc) (fun j hj=>?_) (fun j v hj=>?_) (fun j v hj=>?_)
  · rw[List.length_map]at hj
    obtain⟨x,hx,_⟩:=h j ds[j] (List.getElem?_eq_getElem hj)
    have hx':cs[j]? = some x:=by simpa using hx
    show W.cell? ⟨g,0+j,none⟩=_
    rw[Nat.zero_add,hc j,hx']
    rfl
  · exact List.all_eq_true.1 hp v (List.mem_of_getElem? hj)
  · rw[List.getElem?_map]at hj
    cases hd:ds[j]? with
    | none=>rw[hd]at hj;cases hj
    | some d=>
      rw[hd]at hj
      cases hj
      obtain⟨x,hx,hr⟩:=h j d hd
      have hx':cs[j]? = some x:=by simpa using hx
      rw[hx']
      exact hr
def aggOf:DataW Unit→List (DataW Unit)
  | .agg l=>l
  | _=>[]
theorem jvw:(aggOf Rows.laid_deemster_event_words).map jkn=words:=by kernel_rfl
theorem jyz:(aggOf Rows.laid_math_bits_deBruijn64tab).map jkn=bruij:=by kernel_rfl
theorem ju0:Rows.laid_math_bits_deBruijn64tab=.agg (aggOf Rows.laid_math_bits_deBruijn64tab):=by kernel_rfl
theorem jqh:((aggOf Rows.laid_math_bits_deBruijn64tab).map jkn).all V.pureLeaf=true:=by kernel_rfl
theorem jyk:(aggOf Rows.laid_unicode_utf8_first).map jkn=utf8first:=by kernel_rfl
theorem jul:Rows.laid_unicode_utf8_first=.agg (aggOf Rows.laid_unicode_utf8_first):=by kernel_rfl
theorem jor:((aggOf Rows.laid_deemster_event_words).map jkn).all V.pureLeaf=true:=by kernel_rfl
theorem jp6:((aggOf Rows.laid_unicode_utf8_first).map jkn).all V.pureLeaf=true:=by kernel_rfl
theorem jke       {H:Type} {enc:TypeId × Value→H} {W W':World} (hb:Below W.heap.size W W'):∀ {ts:List TypeId} {vs:List Value} {ds:List (DataW H)} {ps:List MemPlace},
    (∀t∈ts,Tryz.prog.readableRec t=true∧t<Tryz.prog.types.size)→(∀x∈ps,x.block<W.heap.size) →
    DataW.TrodAll enc Tryz.prog W 0 (fun _=>true) true ts vs ds ps→DataW.TrodAll enc Tryz.prog W' 0 (fun b=>decide (b<W.heap.size)) true ts vs ds ps
  | [],[],[],_,_,_,h=>h
  | t::ts,v::vs,d::ds,_,ht,hlt,⟨p,q,h1,h2,e⟩=>by
    subst e
    exact⟨p,q,Below.trod jtk (ht t (List.mem_cons_self ..)).1 (ht t (List.mem_cons_self ..)).2 h1 hb (fun x hx=>hlt x (List.mem_append_left _ hx)),
      jke hb (fun t' h'=>ht t' (List.mem_cons_of_mem _ h')) (fun x hx=>hlt x (List.mem_append_right _ hx)) h2,rfl⟩
  | [],_::_,_,_,_,_,h=>h.elim
  | [],[],_::_,_,_,_,h=>h.elim
  | _::_,[],_,_,_,_,h=>h.elim
  | _::_,_::_,[],_,_,_,h=>h.elim
theorem jr3       {H:Type} {enc:TypeId × Value→H} {fn:Func} {s:ChangeSpec} {W W':World} {args:Array Value} {ds gs:List (DataW H)} {before:List MemPlace} (hW:DataW.Whole enc Tryz.prog fn.params.toList s.vars false W args.toList ds gs before)
    (hv:s.vars=[]) (hr:fn.resultTypes = #[4]) (hs:(s.fn H ds).results=[.lit (.bool true)]) (ha:(s.fn H ds).args=ds) (hvs:(s.fn H ds).vars=[])
    (ht:∀t∈fn.params.toList,Tryz.prog.readableRec t=true∧t<Tryz.prog.types.size) (hg:W.grownBy W' none):s.post enc Tryz.prog fn false true false false W args (.bool true) W':=by
  have hb:Below W.heap.size W W':=(Below.refl _ W).grown hg (Nat.le_refl _) (fun _ h=>by cases h)
  have hW':=hW
  obtain⟨p,q,hA,hV,rfl,_,_⟩:=hW
  rw[hv]at hV
  obtain⟨rfl,rfl⟩:=trodVars_none hV
  have hlt:∀x∈p,x.block<W.heap.size:=fun x hx=>by simpa using hW'.lt x (List.mem_append_left _ hx)
  refine⟨ds,[],_,[],p,[],hW',?_,?_,?_,hb.frame _,fun h=>by cases h⟩
  · rw[List.append_nil,hs,hr]
    exact trodAll_mk1 (shut_bool Tryz.underlying4 _)
  · rw[List.append_nil,ha]
    exact jke hb ht hlt hA
  · rw[List.append_nil,hvs,hv]
    rfl
end Go.Pv.T
namespace Go.Pv.T
open Go Go.Pv Go.Proofs Go.ChangeShapes Go.WideShapes Go.ChangeAt Go.RowKit
inductive Ty where
 | bool
 | int (k:IntKind)
 | str
 | unit
 | pair (a b:Ty)
 | slice (t:Ty)
def Ty.cells:Ty→Nat
 | .unit=>0
 | .pair a b=>a.cells+b.cells
 | _=>1
inductive Sh:Ty→List V→Prop where
 | bool (b:Bool):Sh .bool [.bool b]
 | int (k:IntKind) (n:Int):Sh (.int k) [.int k n]
 | str (s:List UInt8):Sh .str [.str s]
 | unit:Sh .unit []
 | pair {a b:Ty}{va vb:List V}(ha:Sh a va) (hb:Sh b vb):Sh (.pair a b) (va++vb)
 | nil {t:Ty}:Sh (.slice t) [.sl none true 0 []]
 | slice {t:Ty}(es:List (List V)) (hn:es.length≤maxLen) (h:∀e∈es,Sh t e):Sh (.slice t) [.sl none false es.length es.flatten]
def We (P:Program) (g:TypeId→Option Ty):List Field→Nat→Option Ty
 | [],_=>some .unit
 | f::r,off=>if f.offset=off then (g f.type).bind fun a=>if P.cellsOf f.type=a.cells then (We P g r (off+a.cells)).map (.pair a) else none else none
def jza (P:Program):Nat→TypeId→Option Ty
 | 0,_=>none
 | n+1,t=>match P.underlying t with
  | some .bool=>some .bool
  | some (.int k)=>some (.int k)
  | some .string=>some .str
  | some (.slice e)=>(jza P n e).bind fun ty=>if P.cellsOf e=ty.cells then some (.slice ty) else none
  | some (.struct fs)=>(We P (jza P n) fs.toList 0).bind fun ty=>if P.cellsOf t=ty.cells then some ty else none
  | _=>none
theorem Sh.len {t:Ty}{vs:List V}(h:Sh t vs):vs.length=t.cells:=by
 induction h with
 | pair _ _ iha ihb=>simp[Ty.cells,iha,ihb]
 | _=>rfl
theorem Sh.pure {t:Ty}{vs:List V}(h:Sh t vs):∀v∈vs,v.pureLeaf=true:=by
 induction h with
 | pair _ _ iha ihb=>intro v hv;rcases List.mem_append.1 hv with h|h;exact iha v h;exact ihb v h
 | unit=>intro v hv;cases hv
 | _=>intro v hv;rw[List.mem_singleton]at hv;subst hv;rfl
def Reps (I:IMap) (cs:List Value) (vs:List V):Prop:=cs.length=vs.length∧∀ (j:Nat) (x:Value) (v:V),cs[j]? = some x→vs[j]? = some v→RepP I x v
theorem Reps.one {I:IMap}{x:Value}{v:V}(h:RepP I x v):Reps I [x] [v] :=
 ⟨rfl,fun j y u hj hu=>by
  match j,hj,hu with
  | 0,hj,hu=>cases hj;cases hu;exact h
  | j+1,hj,_=>simp at hj⟩
theorem jhw {α:Type}{sz:Nat}(hs:0<sz):∀ (es:List (List α)),(∀e∈es,e.length=sz)→∀j,es.flatten[j]? = (es[j / sz]?).bind fun e=>e[j % sz]?
 | [],_,j=>by simp
 | e::es,h,j=>by
  have he:=h e (List.mem_cons_self ..)
  rw[List.flatten_cons,List.getElem?_append,he]
  split
  ·rename_i hlt
   rw[Nat.div_eq_of_lt hlt,Nat.mod_eq_of_lt hlt]
   rfl
  ·rename_i hge
   have hj:j=(j - sz)+sz:=by omega
   rw[jhw hs es (fun e he=>h e (List.mem_cons_of_mem _ he)) (j - sz)]
   conv=>rhs;rw[hj,Nat.add_div_right _ hs,Nat.add_mod_right]
   rfl
theorem jn7 {α:Type}{sz:Nat}:∀ (es:List (List α)),(∀e∈es,e.length=sz)→es.flatten.length=es.length*sz
 | [],_=>by simp
 | e::es,h=>by
  rw[List.flatten_cons,List.length_append,h e (List.mem_cons_self ..),jn7 es (fun e he=>h e (List.mem_cons_of_mem _ he)),List.length_cons,Nat.succ_mul]
  omega
section
variable {H:Type}{enc:TypeId × Value→H}{W:World}{P:Program}
theorem ji1 {α:Type}{p:Nat→α→Prop}:∀ (n:Nat),(∀i,i<n→∃a,p i a)→∃l:List α,l.length=n∧∀i a,l[i]? = some a→p i a
 | 0,_=>⟨[],rfl,fun i a h=>by simp at h⟩
 | n+1,h=>by
  obtain⟨l,h1,h2⟩:=ji1 n (fun i hi=>h i (by omega))
  obtain⟨a,ha⟩:=h n (by omega)
  refine⟨l++[a],by simp[h1],fun i b hb=>?_⟩
  rw[List.getElem?_append]at hb
  split at hb
  ·exact h2 i b hb
  ·rename_i hge
   have:i=n:=by
    have:=(List.getElem?_eq_some_iff.1 hb).1
    simp at this
    omega
   subst this
   simp[h1]at hb
   subst hb
   exact ha
theorem jgs {g:TypeId→Option Ty}{n:Nat}{cs:List Value}(ih:∀t ty,g t=some ty→∀cs x,DataW.trod enc P W 0 (fun _=>true) true n t cs=some x→∃vs,Sh ty vs∧Reps (Y6 W) cs vs) :
 ∀ (fs:List Field) (off:Nat) (ty:Ty),We P g fs off=some ty→(∀f∈fs,∃x,DataW.trod enc P W 0 (fun _=>true) true n f.type ((cs.drop f.offset).take (P.cellsOf f.type))=some x)→cs.length=off+ty.cells →
  ∃vs,Sh ty vs∧Reps (Y6 W) (cs.drop off) vs
 | [],off,ty,h,_,hl=>by
  simp only[We,Option.some.injEq]at h
  subst h
  simp only[Ty.cells,Nat.add_zero]at hl
  exact⟨[],.unit,by simp[hl],fun j x v _ hv=>by simp at hv⟩
 | f::r,off,ty,h,hx,hl=>by
  simp only[We]at h
  split at h
  ·rename_i hoff
   cases hg:g f.type with
   | none=>rw[hg]at h;cases h
   | some a=>
    rw[hg,Option.bind_some]at h
    split at h
    ·rename_i hc
     cases hr:We P g r (off+a.cells) with
     | none=>rw[hr]at h;cases h
     | some b=>
      rw[hr]at h
      cases h
      simp only[Ty.cells]at hl
      obtain⟨x,hx0⟩:=hx f (List.mem_cons_self ..)
      obtain⟨va,ha,hra⟩:=ih f.type a hg _ _ hx0
      obtain⟨vb,hb,hrb⟩:=jgs ih r (off+a.cells) b hr (fun f' hf=>hx f' (List.mem_cons_of_mem _ hf)) (by omega)
      refine⟨va++vb,.pair ha hb,?_,fun j y u hj hu=>?_⟩
      ·have:=ha.len;have:=hb.len
       simp only[List.length_drop,List.length_append]
       omega
      ·rw[hoff,hc]at hra
       rw[List.getElem?_append]at hu
       rw[ha.len]at hu
       rw[List.getElem?_drop]at hj
       split at hu
       ·rename_i hlt
        exact hra.2 j y u (by rw[List.getElem?_take,if_pos hlt,List.getElem?_drop];exact hj) hu
       ·rename_i hge
        exact hrb.2 (j - a.cells) y u (by rw[List.getElem?_drop,show off+a.cells+(j - a.cells)=off+j from by omega];exact hj) hu
    ·cases h
  ·cases h
theorem jm8:∀ (n:Nat) (t:TypeId) (ty:Ty),jza P n t=some ty→∀ (fuel:Nat) (cs:List Value) (x:DataW H × List MemPlace),DataW.trod enc P W 0 (fun _=>true) true fuel t cs=some x→∃vs,Sh ty vs∧Reps (Y6 W) cs vs
 | 0,_,_,h,_,_,_,_=>by cases h
 | n+1,t,ty,h,fuel,cs,x,hx=>by
  simp only[jza]at h
  split at h
  ·rename_i ht
   cases h
   obtain⟨b,rfl,_⟩:=DataW.trod_bool ht hx
   exact⟨_,.bool b,Reps.one (.bool b)⟩
  ·rename_i k ht
   cases h
   obtain⟨b,rfl,_⟩:=DataW.trod_int ht hx
   exact⟨_,.int k b,Reps.one (.int k b)⟩
  ·rename_i ht
   cases h
   obtain⟨s,rfl,_⟩:=DataW.trod_string ht hx
   exact⟨_,.str s.data.toList,Reps.one (.str s)⟩
  ·rename_i e ht
   cases he:jza P n e with
   | none=>rw[he]at h;cases h
   | some te=>
    rw[he,Option.bind_some]at h
    split at h
    ·rename_i hc
     cases h
     rcases DataW.trod_slice ht hx with⟨rfl,_⟩|⟨a,len,cap,elems,rest,m,_,rfl,_,_,hl,hm,hlen,hel,_,_⟩
     ·exact⟨_,.nil,Reps.one .slnil⟩
     ·have each:∀i,i<len→∃vs,Sh te vs∧∃c,W.cells? 0 (a.add (i*te.cells)) te.cells=some c∧Reps (Y6 W) c vs:=by
       intro i hi
       have h1:=hel i hi
       rw[List.getElem?_eq_getElem (by omega),hc]at h1
       obtain⟨c,hc1,hc2⟩:=Option.bind_eq_some_iff.1 h1
       obtain⟨vs,h3,h4⟩:=jm8 n e te he m c _ hc2
       exact⟨vs,h3,c,hc1,h4⟩
      obtain⟨es,h1,h2⟩:=ji1 len each
      have hsh:∀e∈es,Sh te e:=fun e he=>by
       obtain⟨i,hi⟩:=List.getElem?_of_mem he
       exact(h2 i e hi).1
      have hsz:∀e∈es,e.length=te.cells:=fun e he=>(hsh e he).len
      have key:∀ (j:Nat) (v:V),es.flatten[j]? = some v→0<te.cells∧j / te.cells<len∧∃y,W.cell? ((a.add (j / te.cells*te.cells)).add (j % te.cells))=some y∧RepP (Y6 W) y v∧v.pureLeaf=true:=by
       intro j v hj
       have h0:0<te.cells:=by
        rcases Nat.eq_zero_or_pos te.cells with h|h
        ·have:=jn7 es hsz
         rw[h,Nat.mul_zero]at this
         rw[List.length_eq_zero_iff.1 this]at hj
         simp at hj
        ·exact h
       rw[jhw h0 es hsz]at hj
       cases hee:es[j / te.cells]? with
       | none=>rw[hee]at hj;cases hj
       | some e=>
        rw[hee,Option.bind_some]at hj
        have hlt:j / te.cells<len:=by rw[← h1];exact(List.getElem?_eq_some_iff.1 hee).1
        obtain⟨hse,c,hcc,hrr⟩:=h2 _ e hee
        have hme:=Nat.mod_lt j h0
        have hcell:=(World.cells?_some hcc).2.2 _ hme
        have hclen:c.length=te.cells:=by rw[hrr.1,hse.len]
        rw[List.getElem?_eq_getElem (by omega)]at hcell
        exact⟨h0,hlt,_,hcell,hrr.2 _ _ v (List.getElem?_eq_getElem (by omega)) hj,hse.pure v (List.mem_of_getElem? hj)⟩
      have spot:es.flatten≠[]→a.spot=none:=by
       intro hne
       obtain⟨v,hv⟩:∃v,es.flatten[0]? = some v:=by
        cases hf:es.flatten with
        | nil=>exact absurd hf hne
        | cons v l=>exact⟨v,rfl⟩
       obtain⟨h0,_,y,hy,_⟩:=key 0 v hv
       rw[Nat.zero_div,Nat.zero_mod,Nat.zero_mul]at hy
       simpa[Addr.add] using World.cell?_spot hy
      have cellAt:∀ (j:Nat) (v:V),es.flatten[j]? = some v→∃y,W.cell? ⟨a.block,a.off+j,none⟩=some y∧RepP (Y6 W) y v:=by
       intro j v hj
       obtain⟨h0,_,y,hy,hr,_⟩:=key j v hj
       have hs:=spot (fun h=>by rw[h]at hj;simp at hj)
       obtain⟨b,off,sp⟩:=a
       simp only at hs
       subst hs
       rw[add_plain,add_plain]at hy
       refine⟨y,?_,hr⟩
       rw[← hy,Nat.add_assoc,Nat.div_add_mod']
      rw[← h1]at hl
      refine⟨_,.slice es (Nat.le_trans hl hm) hsh,Reps.one ?_⟩
      rw[h1]at hl ⊢
      refine RepP.sl a len cap es.flatten (fun j=>(W.cell? ⟨a.block,a.off+j,none⟩).getD .nilFunc) spot hl hm (fun j hj=>?_) (fun j v hj=>?_) (fun j v hj=>?_)
      ·obtain⟨y,hy,_⟩:=cellAt j _ (List.getElem?_eq_getElem hj)
       show W.cell? _=some ((W.cell? _).getD _)
       rw[hy]
       rfl
      ·exact(key j v hj).2.2.choose_spec.2.2
      ·obtain⟨y,hy,hr⟩:=cellAt j v hj
       show RepP _ ((W.cell? _).getD _) v
       rw[hy]
       exact hr
    ·cases h
  ·rename_i fs ht
   cases hf:We P (jza P n) fs.toList 0 with
   | none=>rw[hf]at h;cases h
   | some b=>
    rw[hf,Option.bind_some]at h
    split at h
    ·rename_i hc
     cases h
     obtain⟨xs,m,rfl,_,hl,hn,hel⟩:=DataW.trod_struct ht hx
     have:=jgs (n:=m) (cs:=cs) (fun t ty h cs x hx=>jm8 n t ty h m cs x hx) fs.toList 0 ty hf (fun f hfm=>by
      obtain⟨i,hi⟩:=List.getElem?_of_mem hfm
      have hi':fs[i]? = some f:=by simpa using hi
      have h1:=hel i f hi'
      have hlt:i<xs.length:=by rw[hn];exact(Array.getElem?_eq_some_iff.1 hi').1
      rw[List.getElem?_eq_getElem hlt]at h1
      exact⟨_,h1⟩) (by rw[Nat.zero_add,hl,hc])
     simpa using this
    ·cases h
  ·cases h
end
end Go.Pv.T
namespace Go.Pv.T
open Go Go.Pv Go.Proofs Go.ChangeShapes Go.WideShapes Go.ChangeAt Go.RowKit Go.Proofs.YtphecmnehkdihaaGreatDoor
theorem jy1      {W:World} {t e:TypeId} {n fuel:Nat} {cs:List Value} {ds:List (DataW Unit)} {p:List MemPlace} {f0 f1:Field} {k0 k1:IntKind} (ht:Tryz.prog.underlying t=some (.array n e)) (hc:Tryz.prog.cellsOf e=2)
    (he:Tryz.prog.underlying e=some (.struct #[f0,f1])) (o0:f0.offset=0) (o1:f1.offset=1) (c0:Tryz.prog.cellsOf f0.type=1) (c1:Tryz.prog.cellsOf f1.type=1)
    (u0:Tryz.prog.underlying f0.type=some (.int k0)) (u1:Tryz.prog.underlying f1.type=some (.int k1)) (h:DataW.trod (fun _=>()) Tryz.prog W 0 (fun _=>true) false fuel t cs=some (.agg ds,p)) (I:IMap) :
    ∀ (j:Nat) (d:DataW Unit),(ds.map aggOf).flatten[j]? = some d→∃x,cs[j]? = some x∧RepP I x (jkn d):=by
  obtain⟨xs,m,rfl,hx,hlen,hn,hel⟩:=DataW.trod_array ht h
  simp only[Prod.mk.injEq,DataW.agg.injEq]at hx
  have one:∀ (l:List Value) (j:Nat) c,(l.drop j).take 1=[c]→l[j]? = some c:=by
    intro l j c hcc
    have:=congrArg List.head? hcc
    simpa[List.head?_take,List.head?_drop] using this
  have each:∀ (j:Nat) (y:DataW Unit × List MemPlace),xs[j]? = some y→∃d0 d1 x0 x1,y.1=.agg [d0,d1]∧cs[j*2]? = some x0∧RepP I x0 (jkn d0)∧cs[j*2+1]? = some x1∧RepP I x1 (jkn d1):=by
    intro j y hy
    have hj:j<n:=by rw[← hn];exact(List.getElem?_eq_some_iff.1 hy).1
    have h2:=hel j hj
    rw[hc,hy]at h2
    obtain⟨y0,y1,m',e1,hl2,g0,g1⟩:=trod_struct2 he h2
    rw[o0,c0]at g0
    rw[o1,c1]at g1
    obtain⟨z0,a0,b0,_⟩:=DataW.trod_int u0 g0
    obtain⟨z1,a1,b1,_⟩:=DataW.trod_int u1 g1
    have q0:=one _ _ _ a0
    have q1:=one _ _ _ a1
    rw[List.getElem?_take,if_pos (by omega),List.getElem?_drop]at q0 q1
    refine⟨y0.1,y1.1,_,_,by rw[e1],by simpa using q0,?_,q1,?_⟩
    · rw[b0];exact RepP.int k0 z0
    · rw[b1];exact RepP.int k1 z1
  have hds:ds=xs.map (·.1):=hx.1
  have len2:∀e∈ds.map aggOf,e.length=2:=by
    intro e he
    rw[hds,List.map_map]at he
    obtain⟨y,hy,rfl⟩:=List.mem_map.1 he
    obtain⟨j,hj⟩:=List.getElem?_of_mem hy
    obtain⟨d0,d1,x0,x1,e,_⟩:=each j y hj
    simp only[Function.comp,e,aggOf,List.length_cons,List.length_nil]
  intro k d hd
  rw[jhw (by decide) _ len2]at hd
  rw[hds,List.map_map,List.getElem?_map]at hd
  cases hy:xs[k / 2]? with
  | none=>rw[hy]at hd;cases hd
  | some y=>
    rw[hy]at hd
    obtain⟨d0,d1,x0,x1,e,g0,r0,g1,r1⟩:=each _ y hy
    simp only[Option.map_some,Option.bind_some,Function.comp,e,aggOf]at hd
    rcases Nat.mod_two_eq_zero_or_one k with hk|hk
    · rw[hk]at hd
      cases hd
      rw[show k / 2*2=k from by omega]at g0
      exact⟨x0,g0,r0⟩
    · rw[hk]at hd
      cases hd
      rw[show k / 2*2+1=k from by omega]at g1
      exact⟨x1,g1,r1⟩
def accD:List (DataW Unit):=((aggOf Rows.laid_unicode_utf8_acceptRanges).map aggOf).flatten
theorem gAcc:Tryz.prog.globalNamed "unicode/utf8.acceptRanges" = some 3:=by kernel_rfl
theorem acc_eq:accD.map jkn=accR:=by kernel_rfl
theorem j4b:Rows.laid_unicode_utf8_acceptRanges=.agg (aggOf Rows.laid_unicode_utf8_acceptRanges):=by kernel_rfl
theorem jy4:(accD.map jkn).all V.pureLeaf=true:=by kernel_rfl
theorem tAcc:(Tryz.prog.globals[3]?).map (·.type)=some 322:=by kernel_rfl
theorem glOk {W:World}(h:laidMetH Tryz.prog jpr W):GlOk E (Y6 W):=by
  rw[MakeChecks.laidMetH_plain _ _ _ (by kernel_rfl)]at h
  obtain⟨ps,⟨g3,t3,cs3,f3,p3,q3,hg3,ht3,hv3,hd3,⟨g2,t2,cs2,f2,p2,q2,hg2,ht2,hv2,hd2,⟨g0,t0,cs0,f0,p0,q0,hg0,ht0,hv0,hd0,⟨g1,t1,cs1,f1,p1,q1,hg1,ht1,hv1,hd1,_,_⟩,_⟩,_⟩,_⟩,_,_⟩:=h
  obtain rfl:=Option.some.inj (gWords.symm.trans hg0)
  obtain rfl:=Option.some.inj (gFirst.symm.trans hg1)
  obtain rfl:=Option.some.inj (tWords.symm.trans ht0)
  obtain rfl:=Option.some.inj (tFirst.symm.trans ht1)
  obtain rfl:=Option.some.inj (gBruij.symm.trans hg3)
  obtain rfl:=Option.some.inj (tBruij.symm.trans ht3)
  obtain rfl:=Option.some.inj (gAcc.symm.trans hg2)
  obtain rfl:=Option.some.inj (tAcc.symm.trans ht2)
  intro g cs hcs
  simp only[E]at hcs
  split at hcs
  · cases hcs
    rw[← jyz]
    rw[ju0]at hd3
    exact jn3 gBruij hv3 jqh (jmh Tryz.underlying281 (by kernel_rfl) (Or.inr ⟨.u8,by kernel_rfl⟩) hd3 _)
  · cases hcs
    rw[← jvw]
    exact jn3 gWords hv0 jor (jmh Tryz.underlying300 (by kernel_rfl) (Or.inl (by kernel_rfl)) hd0 _)
  · cases hcs
    rw[← jyk]
    rw[jul]at hd1
    exact jn3 gFirst hv1 jp6 (jmh Tryz.underlying319 (by kernel_rfl) (Or.inr ⟨.u8,by kernel_rfl⟩) hd1 _)
  · cases hcs
    rw[← acc_eq]
    rw[j4b]at hd2
    exact jn3 gAcc hv2 jy4 (jy1 (k0:=.u8) (k1:=.u8) Tryz.underlying322 (by kernel_rfl) Tryz.underlying321 rfl rfl (by kernel_rfl) (by kernel_rfl) (by kernel_rfl) (by kernel_rfl) hd2 _)
  · cases hcs
theorem jqg        {f:FuncId} {W:World} {args:Array Value} {vs:List V} (hL:laidMetH Tryz.prog jpr   W) (hlen:args.size=vs.length) (hr:∀ (j:Nat) (x:Value) (v:V),args[j]? = some x→vs[j]? = some v→RepP (Y6     W) x v)
    (he:Ev E f vs (.bool true)):Calls Tryz.prog f args W fun e w'=>e=.returned (.bool true)∧W.grownBy w' none:=by
  refine(Ev.sound mixed envOk he W (Y6 W) args (juw W) (glOk hL) hlen hr).mono fun e W' ⟨x,τ,I',h1,h2,_,_,_,h3,_⟩=>⟨?_,h2⟩
  rw[h1]
  have h4:RepP I' x (.bool true):=h3
  cases h4
  rfl
abbrev j46:Ty:=.pair (.int .i64) (.pair (.int .i64) .unit)
abbrev opTy:Ty:=.pair .bool (.pair (.int .i64) (.pair j46 .unit))
abbrev j49:Ty:=.pair (.int .i64) (.pair (.int .i64) (.pair (.slice opTy) .unit))
abbrev jz1:Ty:=.pair (.slice .str) (.pair (.slice .str) (.pair (.slice j49) .unit))
theorem jao {α:Type}{t:Ty}{f:α→List V}(hf:∀e,Sh t e→∃a,e=f a) {vs:List V}(h:Sh (.slice t) vs):∃nl l,vs=[jH nl f l]:=by
 cases h with
 | nil=>exact⟨true,[],rfl⟩
 | slice es hn h=>
  have all:∀es:List (List V),(∀e∈es,Sh t e)→∃l:List α,es=l.map f:=by
   intro es
   induction es with
   | nil=>intro _;exact⟨[],rfl⟩
   | cons e es ih=>
    intro h
    obtain⟨a,rfl⟩:=hf e (h e (List.mem_cons_self ..))
    obtain⟨l,rfl⟩:=ih (fun e he=>h e (List.mem_cons_of_mem _ he))
    exact⟨a::l,rfl⟩
  obtain⟨l,rfl⟩:=all es h
  exact⟨false,l,by simp[jH,List.flatMap]⟩
theorem j5n {vs:List V}(h:Sh j46 vs):∃v:Val',vs=jz v:=by
 cases h with
 | pair ha hb=>cases ha with
  | int _ k=>cases hb with
   | pair hc hd=>cases hc with
    | int _ n=>cases hd;exact⟨⟨k,n⟩,rfl⟩
theorem sh_op {vs:List V}(h:Sh opTy vs):∃o:Op',vs=opC o:=by
 cases h with
 | pair ha hb=>cases ha with
  | bool w=>cases hb with
   | pair hc hd=>cases hc with
    | int _ k=>cases hd with
     | pair he hf=>
      obtain⟨v,rfl⟩:=j5n he
      cases hf
      exact⟨⟨w,k,v⟩,rfl⟩
theorem j5o {vs:List V}(h:Sh j49 vs):∃t:Txn',vs=ji t:=by
 cases h with
 | pair ha hb=>cases ha with
  | int _ s=>cases hb with
   | pair hc hd=>cases hc with
    | int _ f=>cases hd with
     | pair he hf=>
      obtain⟨nl,l,rfl⟩:=jao (f:=opC) (fun e=>sh_op) he
      cases hf
      exact⟨⟨s,f,nl,l⟩,rfl⟩
theorem jzg {vs:List V}(h:Sh .str vs):∃s:List UInt8,vs=JK s:=by
 cases h with
 | str s=>exact⟨s,rfl⟩
theorem j07 {vs:List V}(h:Sh jz1 vs):∃g:Hist',vs=j2 g:=by
 cases h with
 | pair ha hb=>cases hb with
  | pair hc hd=>cases hd with
   | pair he hf=>
    obtain⟨n0,l0,rfl⟩:=jao (f:=JK) (fun e=>jzg) ha
    obtain⟨n1,l1,rfl⟩:=jao (f:=JK) (fun e=>jzg) hc
    obtain⟨n2,l2,rfl⟩:=jao (f:=ji) (fun e=>j5o) he
    cases hf
    exact⟨⟨n0,l0,n1,l1,n2,l2⟩,rfl⟩
theorem jjp {v:V}(h:v.pureLeaf=true):v.leaf=true:=by cases v <;> first|rfl|cases h
section
variable {H:Type}{enc:TypeId × Value→H}{W:World}{v:Value}{d:DataW H}{p:List MemPlace}{base:Nat}
theorem jou {t:TypeId}{fs:Array Field}{n:Nat}{ty:Ty}(ht:Tryz.prog.underlying t=some (.struct fs)) (hty:jza Tryz.prog n t=some ty) (hval:Value.okWide Tryz.prog W .any base t v)
 (h:DataW.Trod enc Tryz.prog W 0 (fun _=>true) true t v d p):∃vs,Sh ty vs∧RepP (Y6 W) v (.agg vs):=by
 obtain⟨cs,rfl,_⟩:=okWide_struct ht hval
 obtain⟨fuel,hf⟩:=h
 obtain⟨vs,hs,hr⟩:=jm8 n t ty hty fuel _ _ hf
 refine⟨vs,hs,RepP.agg cs vs (by simpa[Value.cells] using hr.1) (fun j v hj=>jjp (hs.pure v (List.mem_of_getElem? hj))) (fun j x v hx hv=>hr.2 j x v (by simpa[Value.cells] using hx) hv)⟩
theorem jyy {t:TypeId}{n:Nat}{ty:Ty}(hc:v.cells.toList=[v]) (hty:jza Tryz.prog n t=some ty)
 (h:DataW.Trod enc Tryz.prog W 0 (fun _=>true) true t v d p):∃vs,Sh ty vs∧Reps (Y6 W) [v] vs:=by
 obtain⟨fuel,hf⟩:=h
 rw[hc]at hf
 exact jm8 n t ty hty fuel _ _ hf
theorem j1n (ts:List TypeId) (h:(ts.all fun t=>Tryz.prog.readableRec t && decide (t<Tryz.prog.types.size))=true) (t:TypeId) (ht:t∈ts):Tryz.prog.readableRec t=true∧t<Tryz.prog.types.size:=by
 have:=List.all_eq_true.1 h t ht
 simpa using this
theorem jye (hval:Value.okWide Tryz.prog W .any base 25 v) (h:DataW.Trod enc Tryz.prog W 0 (fun _=>true) true 25 v d p):∃g:Hist',RepP (Y6 W) v (.agg (j2 g)):=by
 obtain⟨vs,hs,hr⟩:=jou (n:=8) (ty:=jz1) Tryz.underlying25 (by kernel_rfl) hval h
 obtain⟨g,rfl⟩:=j07 hs
 exact⟨g,hr⟩
theorem jyb (hval:Value.okWide Tryz.prog W .any base 26 v) (h:DataW.Trod enc Tryz.prog W 0 (fun _=>true) true 26 v d p):∃ (nl:Bool) (l:List Int),RepP (Y6 W) v (jH nl intC l):=by
 obtain⟨a0,len,cap,rfl⟩:=okWide_slice Tryz.underlying26 hval
 obtain⟨vs,hs,hr⟩:=jyy (n:=4) (ty:=.slice (.int .i64)) rfl (by kernel_rfl) h
 obtain⟨nl,l,rfl⟩:=jao (f:=intC) (fun e he=>by cases he with|int _ k=>exact⟨k,rfl⟩) hs
 exact⟨nl,l,hr.2 0 _ _ rfl rfl⟩
end
section
variable {H:Type}{enc:TypeId × Value→H}{W:World}{v:Value}{d:DataW H}{p:List MemPlace}{base:Nat}
end
end Go.Pv.T
