/- The knower: what is known. -/
import Derived.Test.YtopjfnbonjmnjaaGreatDoorUaE
import Derived.Test.YtopjfnbonjmnjaaGreatDoorRows
import Derived.Test.YtopjfnbonjmnjaaGreatDoorTie
import Derived.ProofKit
import Derived.LaidMore
import Derived.OpenShut
import Derived.Stop.Joined
import Derived.SizedLaws
import Derived.Carry
import Derived.Handed
import Derived.ChangeSame
namespace Go.Pv.T
open Go Go.Pv
structure KnRun (g:Hist') (ub:Nat) (ob:Nat→Option Obj') (ro:Nat) (uK um un:Nat) (s:KnS) (st:St):Prop where
 kn:Kn g uK um un s st.ob st.nx
 t1:st.tm 1 = .ptr (2 * ub+1) ub 0
 t3:st.tm 3 = .ptr (2 * uK+1) uK 0
 df:st.df=[]
 ro:st.ro=ro
 h:st.ob (2 * ub+1)=some ⟨ub,.cells (histC g)⟩
 old:∀ key,(∀ m,ub≤m→key≠2 * m+1)→st.ob key=ob key
theorem KnRun.up {g:Hist'} {ub:Nat} {ob:Nat→Option Obj'} {ro uK um un:Nat} {s:KnS} {st st':St} (k:KnRun g ub ob ro uK um un s st) (ho:st'.ob=st.ob) (hn:st.nx≤st'.nx) (h1:st'.tm 1=st.tm 1) (h3:st'.tm 3=st.tm 3) (hd:st'.df=st.df) (hr:st'.ro=st.ro):KnRun g ub ob ro uK um un s st' :=
 ⟨k.kn.up ho hn,h1.trans k.t1,h3.trans k.t3,hd.trans k.df,hr.trans k.ro,by rw [ho];exact k.h,by rw [ho];exact k.old⟩
theorem known_free (g:Hist'):(KnS.init g g.ts.length).free g.ts.length+(if (KnS.init g g.ts.length).more then 1 else 0)≤2 * g.ts.length+1:=by
 have h1:=freeM_le (KnS.init g g.ts.length).m g.ts.length
 have h2:=freeM_le (KnS.init g g.ts.length).n g.ts.length
 unfold KnS.free
 split <;> omega
set_option maxRecDepth 100000 in
theorem sv91 {Yf:YF} {g:Hist'} (hs:Small g) {ob:Nat→Option Obj'} {tk:Nat→Bool} {ro base ub:Nat} (hro:ro≤ub) :
 ∃ r,EvS E Yf.y 91 [.agg (histC g)] ob tk ro base ub r∧(r.1 = .ptr (2 * (ub+384)+1) (ub+384) 0∧Kn g (ub+384) (ub+192) (ub+256) (KnS.known g) r.2.1 r.2.2.2∧(∀ key,(∀ m,ub≤m→key≠2 * m+1)→r.2.1 key=ob key)∧ub≤r.2.2.2):=by
 have hts:=hs.ts
 refine EvS_wp (af:=S91) rfl (by decide) ?_
 show wpC E Yf S91.body _ (kEndS S91.res _)
 obtain ⟨um,hum⟩:∃ um,ub+64+64+64=um:=⟨_,rfl⟩
 obtain ⟨un,hun⟩:∃ un,um+64=un:=⟨_,rfl⟩
 obtain ⟨uK,huK⟩:∃ uK,un+64+64=uK:=⟨_,rfl⟩
 have e6:ub+384=uK:=by omega
 have e4:ub+256=un:=by omega
 have e3:ub+192=um:=by omega
 rw [e6,e4,e3]
 have m1:¬ 2 * ub=2 * uK:=by omega
 have m2:¬ 2 * ub=2 * um:=by omega
 have m3:¬ 2 * ub=2 * un:=by omega
 have m4:¬ 2 * um=2 * un:=by omega
 have m5:¬ 2 * um=2 * uK:=by omega
 have m6:¬ 2 * un=2 * uK:=by omega
 simp [S91,objCells,histC,splice,hum,hun,huK,m1,m2,m3]
 generalize hK1:kSeq E Yf (C.seq _ _) _=K1
 have rest:∀ st1:St,KnRun g ub ob ro uK um un (KnS.init g g.ts.length) st1→K1 .nrm st1:=by
  intro st1 k1
  rw [← hK1]
  simp
  generalize hK2:kSeq E Yf (C.seq _ _) _=K2
  have rest2:∀ st2:St,KnRun g ub ob ro uK um un (KnS.iter g (2 * g.ts.length+1) (KnS.init g g.ts.length)) st2→K2 .nrm st2:=by
   intro st2 k2
   rw [← hK2]
   obtain ⟨s,hs2⟩:∃ s,KnS.iter g (2 * g.ts.length+1) (KnS.init g g.ts.length)=s:=⟨_,rfl⟩
   rw [hs2] at k2
   have hkn:KnS.known g = { s with hop:=s.hopTo g.ts.length }:=by rw [← hs2];rfl
   rw [hkn]
   clear hK2 hK1 k1 hkn hs2
   have hh:=k2.h
   simp [k2.t1,objCells,hh,histC]
   refine wp_loopUp [(7,7),(62,90)] g.ts.length (fun i st=>st.tm 62 = .int .i64 i∧KnRun g ub ob ro uK um un { s with hop:=s.hopTo i } st) rfl rfl ⟨by simp,k2.up (by simp) (by simp;omega) (by simp) (by simp) (by simp) (by simp)⟩ ?_
   rintro i w hi ⟨h62,kw⟩ f
   have f60:w.tm 60=slOf g.tn txnC g.ts:=by rw [f.t 60 (by simp)];simp
   have f61:w.tm 61 = .int .i64 g.ts.length:=by rw [f.t 61 (by simp)];simp
   clear f
   have w3:=kw.t3
   have wr:=kw.ro
   by_cases hlt:i<g.ts.length
   ·have hwk:=wrapU hlt (by omega)
    obtain ⟨⟨⟨l1,l2,l3⟩,hk,⟨vm,hm⟩,⟨vn,hn⟩⟩,w1,_,hdf,_,wh,hold⟩:=kw
    have hlm:=lookupV_MI (ob:=w.ob) (l:=2 * um+1) (u:=um) (k:=(i:Int)) s.m (by simp [objMap,hm])
    have hln:=lookupV_MI (ob:=w.ob) (l:=2 * un+1) (u:=un) (k:=(i:Int)) s.n (by simp [objMap,hn])
    have r1:ro≤uK:=by omega
    have hstep:s.hopTo (i+1)=(s.hopTo i || s.both i):=rfl
    have fin1:∀ (b:Bool) (st':St),s.hopTo (i+1)=b→st'.ob (2 * uK+1)=some ⟨uK,.cells [slOf g.sn strC g.ss,slOf g.kn strC g.ks,slOf g.tn txnC g.ts,.map (2 * um+1) um,.map (2 * un+1) un,.bool b,.bool s.more]⟩→(∀ key,key≠2 * uK+1→st'.ob key=w.ob key)→w.nx≤st'.nx→st'.tm 1=w.tm 1→st'.tm 3=w.tm 3→st'.df=w.df→st'.ro=w.ro→KnRun g ub ob ro uK um un { s with hop:=s.hopTo (i+1) } st':=by
     intro b st' hb ho ho2 hnx h1 h3 hd hr'
     rw [hb]
     refine ⟨⟨⟨l1,l2,by omega⟩,ho,⟨vm,(ho2 _ (by omega)).trans hm⟩,⟨vn,(ho2 _ (by omega)).trans hn⟩⟩,h1.trans w1,h3.trans w3,hd.trans hdf,hr'.trans wr,(ho2 _ (by omega)).trans wh,fun key hkk=>?_⟩
     rw [ho2 _ (hkk uK (by omega))]
     exact hold key hkk
    unfold KnS.both at hstep
    cases hh1:s.hopTo i
    ·by_cases c1:0<mcnt s.m i
     ·by_cases c2:0<mcnt s.n i
      ·simp only [hh1,c1,c2,decide_true,Bool.and_self,Bool.or_true] at hstep
       simp [h62,f60,f61,hlt,w3,objCells,hk,hh1,hlm,hln,c1,c2,wr,r1,splice,hwk]
       exact fin1 true _ hstep (by simp) (fun key hne=>by simp [hne]) (by simp;omega) (by simp) (by simp) (by simp) (by simp)
      ·simp only [hh1,c1,c2,decide_true,decide_false,Bool.and_false,Bool.or_false] at hstep
       simp [h62,f60,f61,hlt,w3,objCells,hk,hh1,hlm,hln,c1,c2,wr,r1,splice,hwk]
       exact fin1 false _ hstep (by simp) (fun key hne=>by simp [hne]) (by simp;omega) (by simp) (by simp) (by simp) (by simp)
     ·simp only [hh1,c1,decide_false,Bool.false_and,Bool.or_false] at hstep
      simp [h62,f60,f61,hlt,w3,objCells,hk,hh1,hlm,hln,c1,wr,r1,splice,hwk]
      exact fin1 false _ hstep (by simp) (fun key hne=>by simp [hne]) (by simp;omega) (by simp) (by simp) (by simp) (by simp)
    ·simp only [hh1,Bool.true_or] at hstep
     simp [h62,f60,f61,hlt,w3,objCells,hk,hh1,wr,r1,splice,hwk]
     exact fin1 true _ hstep (by simp) (fun key hne=>by simp [hne]) (by simp;omega) (by simp) (by simp) (by simp) (by simp)
   ·have:i=g.ts.length:=by omega
    subst this
    simp [h62,f61]
    refine endS_1 (by simp [kw.df]) ⟨by simp [w3],kw.kn.up (by simp) (by simp;omega),by simpa using kw.old,?_⟩
    have:=kw.kn.lt
    simp
    omega
  clear hK2 hK1
  have hfree:(KnS.init g g.ts.length).free g.ts.length+(if (KnS.init g g.ts.length).more then 1 else 0)≤2 * g.ts.length+1:=known_free g
  obtain ⟨fin,hfin⟩:∃ fin,KnS.iter g (2 * g.ts.length+1) (KnS.init g g.ts.length)=fin:=⟨_,rfl⟩
  rw [hfin] at rest2
  generalize KnS.init g g.ts.length=s0 at *
  refine wp_loopK (n:=2 * g.ts.length+1) (fun k st=>∃ s,KnRun g ub ob ro uK um un s st∧KnS.iter g k s=fin∧s.free g.ts.length+(if s.more then 1 else 0)≤k) ⟨s0,k1,hfin,hfree⟩ ?_
  rintro n st ⟨s,k,hit,hfr⟩
  have hk:=k.kn.k
  have hr:=k.ro
  have t3:=k.t3
  have t1:=k.t1
  obtain ⟨l1,l2,l3⟩:=k.kn.lt
  have hh:=k.h
  have r1:ro≤uK:=by omega
  cases hmo:s.more
  ·have hsf:fin=s:=by
    rw [← hit]
    cases n <;> simp [KnS.iter,hmo]
   simp [t3,objCells,hk,hmo]
   exact rest2 _ (hsf ▸ k.up (by simp) (by simp;omega) (by simp) (by simp) (by simp) (by simp))
  ·rw [hmo] at hfr
   simp only [if_true] at hfr
   obtain ⟨n',rfl⟩:∃ n',n=n'+1:=⟨n - 1,by omega⟩
   simp only [KnS.iter,hmo,if_true] at hit
   simp [t3,t1,objCells,hk,hmo,hr,r1,hh,m1,histC,splice]
   refine wp_loopUp [(6,6),(52,58)] g.ts.length (fun i st=>st.tm 52 = .int .i64 i∧KnRun g ub ob ro uK um un (s.round g i) st) rfl rfl ⟨by simp,?_⟩ ?_
   ·obtain ⟨⟨_,hk,⟨vm,hm⟩,⟨vn,hn⟩⟩,_,_,hdf,_,hh,hold⟩:=k
    refine ⟨⟨⟨l1,l2,by simp;omega⟩,by simp [KnS.round],⟨vm,by simp [KnS.round,m5,hm]⟩,⟨vn,by simp [KnS.round,m6,hn]⟩⟩,by simp [t1],by simp [t3],by simp [hdf],by simp [hr],by simp [m1,hh],fun key hkk=>?_⟩
    simp [hkk uK (by omega),hold key hkk]
   rintro i w hi ⟨h52,kw⟩ f
   have f50:w.tm 50=slOf g.tn txnC g.ts:=by rw [f.t 50 (by simp)];simp
   have f51:w.tm 51 = .int .i64 g.ts.length:=by rw [f.t 51 (by simp)];simp
   clear f
   have w3:=kw.t3
   have w1:=kw.t1
   have wr:=kw.ro
   have hwl:=kw.kn.lt
   by_cases hlt:i<g.ts.length
   ·have hwk:=wrapU hlt (by omega)
    simp [h52,f50,f51,hlt,w3]
    refine kS_callP (vs:=[.ptr (2 * uK+1) uK 0,.int .i64 (i:Int)]) (by simp [w3]) rfl (sv133 (g:=g) (uK:=uK) (um:=um) (un:=un) (s:=s.round g i) leftOk hs hlt (kw.kn.up (by simp) (by omega)) (by simp [wr];omega)) ?_
    rintro v ob1 tk1 ub1 ⟨p1,p2,p3⟩
    simp only at p1 p2 p3
    have hstep:s.round g (i+1)=(s.round g i).txn g i (g.ts[i]).f (g.ts[i]).ops:=by simp only [KnS.round,List.getElem?_eq_getElem hlt]
    simp [h52,hwk,hlt]
    rw [hstep]
    have hkp:∀ key,key≠2 * uK+1→key≠2 * um+1→key≠2 * un+1→(∀ m,w.nx≤m→key≠2 * m+1)→ob1 key=w.ob key:=fun key h1 h2 h3 h4=>by
     rw [p2 key h1 h2 h3 (fun m hm=>h4 m (by omega))];simp
    refine ⟨p1.up (by simp) (by simp;omega),by simp [w1],by simp [w3],by simp [kw.df],by simp [wr],?_,fun key hkk=>?_⟩
    ·simp [hkp (2 * ub+1) (by omega) (by omega) (by omega) (fun m hm=>by omega),kw.h]
    ·simp [hkp key (hkk uK (by omega)) (hkk um (by omega)) (hkk un (by omega)) (fun m hm=>hkk m (by omega)),kw.old key hkk]
   ·have:i=g.ts.length:=by omega
    subst this
    simp [h52,f51]
    refine ⟨n',by omega,s.round g g.ts.length,kw.up (by simp) (by simp) (by simp) (by simp) (by simp) (by simp),hit,?_⟩
    have hround:=Less.round (g:=g) (s:=s) g.ts.length (Nat.le_refl _)
    have h1:({ s with more:=false }:KnS).free g.ts.length=s.free g.ts.length:=rfl
    cases hm2:(s.round g g.ts.length).more
    ·have:=hround.1
     rw [h1] at this
     simp
     omega
    ·rcases hround.2.1 hm2 with h2 | h2
     ·cases h2
     ·rw [h1] at h2
      simp
      omega
 clear hK1
 refine wp_loopUp [(4,5),(16,41)] g.ts.length (fun i st=>st.tm 16 = .int .i64 i∧KnRun g ub ob ro uK um un (KnS.init g i) st) rfl rfl ⟨by simp,?_⟩ ?_
 ·refine ⟨⟨⟨by omega,by omega,by simp;omega⟩,?_,⟨0,?_⟩,⟨0,?_⟩⟩,by simp,by simp,by simp,by simp,?_,fun key hk=>?_⟩
  ·simp [KnS.init]
  ·simp [KnS.init,m4,m5,MP]
  ·simp [KnS.init,m6,MP]
  ·simp [m1,m2,m3,histC]
  ·have h1:=hk ub (by omega)
   have h2:=hk um (by omega)
   have h3:=hk un (by omega)
   have h4:=hk uK (by omega)
   simp [h1,h2,h3,h4]
 rintro i st hi ⟨h16,k⟩ f
 have f14:st.tm 14=slOf g.tn txnC g.ts:=by rw [f.t 14 (by simp)];simp
 have f15:st.tm 15 = .int .i64 g.ts.length:=by rw [f.t 15 (by simp)];simp
 clear f
 by_cases hlt:i<g.ts.length
 ·have hwk:=wrapU hlt (by omega)
  have hload:loadV st.ob (some 3) (.eptr (g.ts.flatMap txnC) (i * 3))=some (.agg (txnC g.ts[i])):=load_slOf txnC_len st.ob g.ts hlt
  obtain ⟨t,ht⟩:∃ t,g.ts[i]=t:=⟨_,rfl⟩
  rw [ht] at hload
  obtain ⟨s,hs0⟩:∃ s,KnS.init g i=s:=⟨_,rfl⟩
  have hmc:=mcnt_init g i i (Int.le_refl _)
  have hstep:KnS.init g (i+1)=if t.f=1 then { s with m:=mset s.m i 1 } else if t.f=2 then { s with n:=mset s.n i 1 } else s:=by simp only [KnS.init,List.getElem?_eq_getElem hlt,ht,hs0]
  rw [hs0] at k hmc
  clear hs0
  obtain ⟨⟨⟨l1,l2,l3⟩,hk,⟨vm,hm⟩,⟨vn,hn⟩⟩,t1,t3,hdf,hr,hh,hold⟩:=k
  have q1:¬ 2 * uK=2 * (st.nx+64+64+64+64):=by omega
  have q2:¬ 2 * um=2 * (st.nx+64+64+64+64):=by omega
  have q3:¬ 2 * un=2 * (st.nx+64+64+64+64):=by omega
  have q4:ro≤st.nx+64+64+64+64:=by omega
  simp [h16,f14,f15,hlt,idx_slOf txnC_len,hload,objCells,txnC,splice,hr,t3,hk,q1,q2,q3,q4]
  have q5:¬ 2 * ub=2 * (st.nx+64+64+64+64):=by omega
  have w1:IntKind.i64.wrap 1=1:=by decide
  have m4':¬ 2 * un=2 * um:=by omega
  have m5':¬ 2 * uK=2 * um:=by omega
  have m6':¬ 2 * uK=2 * un:=by omega
  by_cases hf1:t.f=1
  ·simp [hf1,t3,objCells,hk,q1]
   rw [if_pos hf1] at hstep
   rw [lookupV_MI (k:=(i:Int)) s.m (by simp [objMap,hm,q2]),hmc.1]
   simp [w1,t3]
   refine kS_mapSet (f:=intV) (l:=2 * um+1) (u:=um) (ver:=vm) (k:=(i:Int)) (a:=1) s.m (by simp) (by simp) (by simp [V.strip,intV]) (by simp [hm,q2]) (by simp [hr];omega) ?_
   simp [h16,hwk,hlt]
   rw [hstep]
   refine ⟨⟨⟨l1,l2,by simp;omega⟩,by simp [m5',q1,hk],⟨vm+1,by simp⟩,⟨vn,by simp [m4',q3,hn]⟩⟩,by simp [t1],by simp [t3],by simp [hdf],by simp [hr],by simp [m2,q5,hh],fun key hkk=>?_⟩
   simp [hkk um (by omega),hkk (st.nx+64+64+64+64) (by omega),hold key hkk]
  ·by_cases hf2:t.f=2
   ·have e1:(t.f == 1)=false:=by simpa using hf1
    simp [e1,hf2,t3,objCells,hk,q1]
    rw [if_neg hf1,if_pos hf2] at hstep
    rw [lookupV_MI (k:=(i:Int)) s.n (by simp [objMap,hn,q3]),hmc.2]
    simp [w1,t3]
    refine kS_mapSet (f:=intV) (l:=2 * un+1) (u:=un) (ver:=vn) (k:=(i:Int)) (a:=1) s.n (by simp) (by simp) (by simp [V.strip,intV]) (by simp [hn,q3]) (by simp [hr];omega) ?_
    simp [h16,hwk,hlt]
    rw [hstep]
    refine ⟨⟨⟨l1,l2,by simp;omega⟩,by simp [m6',q1,hk],⟨vm,by simp [m4,q2,hm]⟩,⟨vn+1,by simp⟩⟩,by simp [t1],by simp [t3],by simp [hdf],by simp [hr],by simp [m3,q5,hh],fun key hkk=>?_⟩
    simp [hkk un (by omega),hkk (st.nx+64+64+64+64) (by omega),hold key hkk]
   ·have e1:(t.f == 1)=false:=by simpa using hf1
    have e2:(t.f == 2)=false:=by simpa using hf2
    simp [e1,e2,h16,hwk,hlt]
    rw [if_neg hf1,if_neg hf2] at hstep
    rw [hstep]
    refine ⟨⟨⟨l1,l2,by simp;omega⟩,by simp [q1,hk],⟨vm,by simp [q2,hm]⟩,⟨vn,by simp [q3,hn]⟩⟩,by simp [t1],by simp [t3],by simp [hdf],by simp [hr],by simp [q5,hh],fun key hkk=>?_⟩
    simp [hkk (st.nx+64+64+64+64) (by omega),hold key hkk]
 ·have:i=g.ts.length:=by omega
  subst this
  simp [h16,f15]
  exact rest _ (k.up (by simp) (by simp) (by simp) (by simp) (by simp) (by simp))
end Go.Pv.T

/- Infos as a list that may be made one's own. -/
namespace Go.Pv.T
open Go Go.Pv
theorem endV_grow {st:St} {n lo hi:Nat} {l:List Int} {v:V} (hd:st.df=[]) (hv:st.tm n=v) (h:Grow st.tk lo hi intC 1 l v):endV [.t n] (.ret,st)=some (intsV l):=by
 rcases h with ⟨rfl,rfl⟩ | ⟨hne,u,rfl,htk,_⟩
 ·exact endV_1 hd (by rw [hv];rfl) rfl
 ·have hemp:l.isEmpty=false:=by cases l with | nil=>exact absurd rfl hne | cons=>rfl
  have hto:outTop st true 0 (.sl (some (u,1)) false l.length (l.flatMap intC))=some (.sl (some (0,1)) false l.length (l.flatMap intC)):=by
   simp only [outTop,outLeaf,htk,Bool.and_self,if_true]
  have hr:[ARes.t n].mapM (resOf st)=some [.sl (some (u,1)) false l.length (l.flatMap intC)]:=by simp [resOf,hv]
  simp only [endV,dfOk_of hd,noDf_of hd,if_true,hr,Option.bind_some,outRes]
  have hn:nodup ([V.sl (some (u,1)) false l.length (l.flatMap intC)].flatMap V.toks)=true:=rfl
  rw [hn]
  simp only [outTops,hto,Option.bind_some,Option.map_some]
  rw [intsV,hemp]
  rfl
theorem ev100i {g:Hist'} (hs:Small g) (hm:mayH g=true):Ev E 100 [.agg (histC g),.fn (.func 101) [] []] (intsV (infosH g)):=by
 have e70:=ev70 hs
 rw [may_err hm] at e70
 have hts:=hs.ts
 refine Ev_wpK (af:=F100) rfl ?_
 simp [F100,histC,objCells]
 refine kS_ev e70 (by simp [histC]) rfl (by simp [histC]) ?_
 simp [objCells]
 refine wp_loopUp [(4,7),(14,26)] g.ts.length (fun i s=>s.tm 14 = .int .i64 i∧Grow s.tk 0 s.nx intC 1 (numsTo isInfo g.ts i) (s.tm 5)) rfl rfl ⟨by simp,by simp [numsTo];exact Grow.nil _ _ _ _ _⟩ ?_
 rintro i s hi ⟨h14,hG⟩ f
 have f1:s.tm 1 = .fn (.func 101) [] []:=by rw [f.t 1 (by simp)];simp
 have f12:s.tm 12=slOf g.tn txnC g.ts:=by rw [f.t 12 (by simp)];simp
 have f13:s.tm 13 = .int .i64 g.ts.length:=by rw [f.t 13 (by simp)];simp
 have fd:s.df=[]:=by rw [f.d];simp
 have fb:s.fb=0:=by rw [f.b];simp
 have fr:s.ro=0:=by rw [f.r];simp
 clear f
 by_cases hlt:i<g.ts.length
 ·have hw:=wrapU hlt (by omega)
  have hsn:=numsTo_succ (p:=isInfo) hlt
  obtain ⟨t,ht⟩:∃ t,g.ts[i]=t:=⟨_,rfl⟩
  rw [ht] at hsn
  have hll:=numsTo_len isInfo g.ts i
  simp [h14,f12,f13,hlt,idx_slOf txnC_len,load_slOf txnC_len,ht,txnC,objCells,fb,fr,splice,f1]
  refine kS_evV (f:=101) (first:=[]) (captured:=[]) (ev101 t) (by simp) (by simp [txnC]) rfl (by simp [txnC]) ?_
  cases hi:isInfo t
  ·rw [hi] at hsn
   simp only [Bool.false_eq_true,if_false,List.append_nil] at hsn
   simp [h14,hw]
   exact ⟨hlt,by rw [hsn];exact hG.mono (fun u _ _ h=>by simpa [app_tk0] using h) (by omega)⟩
  ·rw [hi] at hsn
   simp only [if_true] at hsn
   simp
   refine kS_buildSl (cs:=[.int .i64 i]) (by simp [splice]) rfl rfl ?_
   simp
   refine kS_appendG (f:=intC) (lo:=0) (hi:=s.nx) (l:=numsTo isInfo g.ts i) (a:=(i:Int)) (v:=s.tm 5) (hG.mono (fun u _ _ h=>by simp [app_tk,h]) (Nat.le_refl _)) (by simp) (by simp [slCells,intC]) intC_len (by decide) rfl (by omega) (by omega) (fun del hdel=>?_)
   have hne:numsTo isInfo g.ts (i+1)≠[]:=by rw [hsn];simp
   have hlen:(numsTo isInfo g.ts i).length+1=(numsTo isInfo g.ts (i+1)).length:=by rw [hsn];simp
   rw [← hsn,hlen]
   simp [h14,hw]
   exact ⟨hlt,.inr ⟨hne,_,rfl,by simp [app_tk],Nat.zero_le _,by omega⟩⟩
 ·have:i=g.ts.length:=by omega
  subst this
  simp [h14,f13]
  show endV [.t 4] (.ret,_)=some (intsV (infosH g))
  exact endV_grow (lo:=0) (hi:=s.nx) (by simp [fd]) rfl (by simpa [infosH] using hG)
theorem ev61i {g:Hist'} (hs:Small g) (hm:mayH g=true):Ev E 61 [.agg (histC g)] (intsV (infosH g)):=by
 refine Ev_wpK (af:=F61) rfl ?_
 simp [F61,histC,objCells]
 refine kS_ev (ev100i hs hm) (by simp [histC]) rfl (by simp [histC]) ?_
 obtain ⟨l,hl⟩:∃ l,infosH g=l:=⟨_,rfl⟩
 rw [hl]
 cases l with
 | nil =>
  have hr:retA 192 (intsV [])=some { v:=.sl none true 0 [] }:=rfl
  rw [hr]
  simp
  show endV [.t 2] (.ret,_)=some (intsV [])
  exact endV_grow (lo:=0) (hi:=400) rfl rfl (.inl ⟨rfl,by simp⟩)
 | cons x r =>
  have hr:retA 192 (intsV (x::r))=some { v:=.sl (some (192,1)) false (x::r).length ((x::r).flatMap intC),add:=[192] }:=by
   rw [retA,if_pos (by simp [intsV,toksRes,V.toks,V.tok])]
   rfl
  rw [hr]
  simp
  show endV [.t 2] (.ret,_)=some (intsV (x::r))
  exact endV_grow (lo:=0) (hi:=400) rfl rfl (.inr ⟨by simp,192,by simp,by simp [app_tk],by omega,by omega⟩)
end Go.Pv.T

/- The knower: what of the infos is known (an observer). -/
namespace Go.Pv.T
open Go Go.Pv
theorem sv61 {Yf:YF} {g:Hist'} (hs:Small g) (hm:mayH g=true) {ob:Nat→Option Obj'} {tk:Nat→Bool} {ro base ub:Nat}:∃ r,EvS E Yf.y 61 [.agg (histC g)] ob tk ro base ub r ∧
 (((infosH g=[]∧r.1 = .sl none true 0 [])∨(r.1 = .osl (2 * ub+1) ub 0 (infosH g).length 1∧r.2.1 (2 * ub+1)=some ⟨ub,.cells ((infosH g).flatMap intC)⟩))∧(∀ key,key≠2 * ub+1→r.2.1 key=ob key)∧r.2.2.2=ub+64):=by
 have e61:=ev61i hs hm
 obtain ⟨l,hl⟩:∃ l,infosH g=l:=⟨_,rfl⟩
 rw [hl] at e61 ⊢
 cases l with
 | nil=>exact ⟨(.sl none true 0 [],ob,tk,ub+64),EvS_tw rfl (args':=[.agg (histC g)]) rfl e61 rfl,.inl ⟨rfl,rfl⟩,fun _ _=>rfl,rfl⟩
 | cons x T =>
  have hc:((x::T).flatMap intC).all V.scal=true:=by
   rw [List.all_eq_true]
   intro v hv
   obtain ⟨n,_,hn⟩:=List.mem_flatMap.1 hv
   simp only [intC,List.mem_singleton] at hn
   rw [hn];rfl
  refine ⟨(.osl (2 * ub+1) ub 0 (x::T).length 1,upd ob (2 * ub+1) (some ⟨ub,.cells ((x::T).flatMap intC)⟩),tk,ub+64),EvS_tw rfl (args':=[.agg (histC g)]) rfl e61 ?_,.inr ⟨rfl,?_⟩,fun key h=>?_,rfl⟩
  ·simp only [intsV,List.isEmpty_cons,Bool.false_eq_true,if_false,thawR,hc,if_true]
  ·simp [upd]
  ·have hb:key.beq (2 * ub+1)=false:=by
    cases e:key.beq (2 * ub+1)
    ·rfl
    ·exact absurd (Nat.eq_of_beq_eq_true e) h
   simp [upd,hb]
theorem EvO_wpE {f:FuncId} {af:AF} {args:List V} {ob:Nat→Option Obj'} {tk:Nat→Bool} {base ub:Nat} {P:V→Prop} (hf:E.fs f=some af) (h1:af.body.one=true) (h:wpC E noYF af.body (startS args ob (fun _=>false) ub base ub) (kEndE af.res P)) (hz:E.fz f=false:=by rfl):∃ r,EvO E f args ob tk base ub r∧P r:=by
 obtain ⟨n,x,hx,r,hr,hP⟩:=one_of h1 h
 refine ⟨r,⟨n+1,?_⟩,hP⟩
 simp only [callers,hf,Option.bind_some,hz,Bool.false_eq_true,if_false]
 rw [show codeL E (callers E n) noY n af.body (startS args ob (fun _=>false) ub base ub)=some [x] from hx]
 exact one1_of (List.cons_ne_nil _ _) (fun y hy=>by rw [List.mem_singleton] at hy;subst hy;exact hr)
theorem own_end {st:St} {n:Nat} {l:List Int} {v:V} {ub:Nat} {P:V→Prop} (hP:∀ r,NumR l r→P r) (hd:st.df=[]) (hv:st.tm n=v) (h:OwnI st.ob v l) (hu:v = .sl none true 0 []∨∃ L u n,v = .osl L u 0 n 1∧ub≤u) (hr:st.ro=ub):kEndE [.t n] P .ret st:=by
 rcases h with ⟨rfl,rfl⟩ | ⟨L,u,cs,rfl,hob,hlen,htk⟩
 ·exact ⟨_,endV_1 hd (by rw [hv];rfl) rfl,hP _ ⟨true,none,rfl,by simp⟩⟩
 ·have hub:ub≤u:=by
   rcases hu with h | ⟨L',u',n',h,h'⟩
   ·cases h
   ·cases h;exact h'
  have hoc:objCells st.ob L u=some cs:=by simp [objCells,hob]
  have hs:solid st 6 (.osl L u 0 l.length 1)=some (.sl none false l.length (l.flatMap intC)):=by
   show ((objCells st.ob L u).bind fun cs=>if Nat.ble st.ro u=true∧0+l.length * 1≤cs.length then (((cs.drop 0).take (l.length * 1)).mapM (solid st 5)).map fun cs'=>V.sl none false l.length cs' else none)=_
   rw [hoc,Option.bind_some,if_pos ⟨Nat.ble_eq ▸ (by omega),by omega⟩,List.drop_zero,Nat.mul_one,htk,solid_ints]
   rfl
  have ho:∃ t:Option (Nat × Nat),outLeaf st true 0 (.osl L u 0 l.length 1)=some (.sl t false l.length (l.flatMap intC))∧∀ p∈t.toList,p.1<64:=by
   simp only [outLeaf,hs,Option.bind_some,hoc,Option.map_some]
   refine ⟨_,rfl,fun p hp=>?_⟩
   split at hp
   ·simp at hp;subst hp;decide
   ·simp at hp
  obtain ⟨t,hto,htt⟩:=ho
  have hr':[ARes.t n].mapM (resOf st)=some [.osl L u 0 l.length 1]:=by simp [resOf,hv]
  refine ⟨.sl t false l.length (l.flatMap intC),?_,hP _ ⟨false,t,rfl,htt⟩⟩
  simp only [endV,dfOk_of hd,noDf_of hd,if_true,hr',Option.bind_some,outRes]
  have hn:nodup ([V.osl L u 0 l.length 1].flatMap V.toks)=true:=rfl
  rw [hn]
  have hto':outTop st true 0 (.osl L u 0 l.length 1)=some (.sl t false l.length (l.flatMap intC)):=hto
  simp only [outTops,hto',Option.bind_some,Option.map_some]
  cases t <;> rfl
theorem evo92 {g:Hist'} (hs:Small g) (hm:mayH g=true) {uK um un ux:Nat} {s:KnS} {m:List (Int × Int)} {ob:Nat→Option Obj'} {tk:Nat→Bool} {base ub:Nat} (hK:Kn g uK um un s ob ub) (hx:∃ ver,ob (2 * ux+1)=some ⟨ux,.mp ver (MP intV m)⟩) (hxl:ux<ub) :
 ∃ v,EvO E 92 [.ptr (2 * uK+1) uK 0,.map (2 * ux+1) ux] ob tk base ub v∧NumR ((infosH g).filter fun t=>!(mcnt m t == 0)) v:=by
 refine EvO_wpE (af:=S92) rfl (by decide) ?_
 have hk:=hK.k
 obtain ⟨l1,l2,l3⟩:=hK.lt
 have m1:¬ 2 * uK=2 * ub:=by omega
 simp [S92,objCells,hk,m1]
 refine kS_callP (vs:=[.agg (histC g)]) (by simp [histC]) rfl (sv61 (g:=g) hs hm) ?_
 rintro v ob1 tk1 ub1 ⟨hv,hoth,hub⟩
 simp only at hv hoth hub
 have hlen:(infosH g).length≤1000000:=by
  have:=numsTo_len isInfo g.ts g.ts.length
  have:=hs.ts
  unfold infosH
  omega
 obtain ⟨z,hz⟩:∃ z,ub+64+64+64+64+64+64=z:=⟨_,rfl⟩
 rw [hz] at hv hoth hub
 have hbox:ob1 (2 * ub+1)=some ⟨ub,.cells [.map (2 * ux+1) ux]⟩:=by
  rw [hoth _ (by omega)];simp
 have hmap:∃ ver,ob1 (2 * ux+1)=some ⟨ux,.mp ver (MP intV m)⟩:=by
  obtain ⟨ver,hx⟩:=hx
  have n1:¬ 2 * ux=2 * ub:=by omega
  exact ⟨ver,by rw [hoth _ (by omega)];simp [n1,hx]⟩
 simp
 generalize infosH g=l at *
 rcases hv with ⟨rfl,rfl⟩ | ⟨rfl,hobl⟩
 ·refine kS_callP (vs:=[.sl none true 0 [],.fn (.func 135) [] [.ptr (2 * ub+1) ub 0]]) (by simp) rfl (sv134n (L:=0) (u:=ub)) ?_
  rintro v2 ob2 tk2 ub2 ⟨hown,_,_,_,hvv⟩
  simp only at hown hvv
  simp
  refine own_end (l:=[]) (ub:=ub) (fun r h=>h) (by simp) rfl (by simpa using hown) ?_ (by simp)
  rcases hvv with h | ⟨n,h⟩
  ·exact .inl (by simpa using h)
  ·exact .inr ⟨0,ub,n,by simpa using h,Nat.le_refl _⟩
 ·refine kS_callP (vs:=[.osl (2 * z+1) z 0 l.length 1,.fn (.func 135) [] [.ptr (2 * ub+1) ub 0]]) (by simp) rfl
   (sv134 (p:=fun t=>mcnt m t == 0) rfl hlen (by simpa using hobl) (by simp;omega) fun ob' hob'=>pred135 (m:=m) (lm:=2 * ux+1) (um:=ux) (ub0:=ub) ?_ ?_) ?_
  ·obtain ⟨ver,hm⟩:=hmap
   exact ⟨ver,by rw [hob' _ (by omega)];simpa using hm⟩
  ·rw [hob' _ (by omega)];simpa using hbox
  rintro v2 ob2 tk2 ub2 ⟨hown,_,_,_,hvv⟩
  simp only at hown hvv
  simp
  refine own_end (ub:=ub) (fun r h=>h) (by simp) rfl (by simpa using hown) ?_ (by simp)
  rcases hvv with h | ⟨n,h⟩
  ·exact .inl (by simpa using h)
  ·exact .inr ⟨_,z,n,by simpa using h,by omega⟩
end Go.Pv.T

/- Several results, some of them slices; slices that are made; a copy of numbers. -/
namespace Go.Pv.T
open Go Go.Pv
def TupS (l:List V) (v:V):Prop:=∃ vs,v = .tup vs∧vs.map V.strip1=l∧∀ p∈vs.flatMap V.toks,p<64
def noAgg:V→Bool
 | .agg _=>false
 | _=>true
theorem retTup {ub:Nat} {v:V} {l:List V} {K:Delta→Prop} (hv:TupS l v) (hl:l.all noAgg=true) (h:∀ ws add,ws.map V.strip1=l→K { v:=.tup ws,add:=add }):wpD (retA ub v) K:=by
 obtain ⟨vs,rfl,hs,ht⟩:=hv
 have e:retA ub (.tup vs)=some { v:=.tup (vs.map (inTop ub)),add:=(vs.flatMap V.toks).map (ub + ·) }:=by
  rw [retA,if_pos (by simpa only [toksRes,List.all_eq_true,Nat.blt_eq] using ht)]
  rfl
 rw [e,wpD_some]
 refine h _ _ ?_
 rw [← hs,List.map_map]
 refine List.map_congr_left fun w hw=>?_
 have hn:noAgg w.strip1=true:=List.all_eq_true.1 hl _ (by rw [← hs];exact List.mem_map.2 ⟨w,hw,rfl⟩)
 cases w with
 | agg=>cases hn
 | sl t nl n cs=>cases t <;> rfl
 | _=>rfl
theorem strip1_sl {w:V} {nl:Bool} {n:Nat} {cs:List V} (h:w.strip1 = .sl none nl n cs):∃ t,w = .sl t nl n cs:=by
 cases w <;> simp [V.strip1] at h
 obtain ⟨rfl,rfl,rfl⟩:=h
 exact ⟨_,rfl⟩
theorem strip1_bool {w:V} {b:Bool} (h:w.strip1 = .bool b):w = .bool b:=by cases w <;> simp [V.strip1] at h;subst h;rfl
theorem strip1_int {w:V} {k:IntKind} {b:Int} (h:w.strip1 = .int k b):w = .int k b:=by cases w <;> simp [V.strip1] at h;obtain ⟨rfl,rfl⟩:=h;rfl
theorem map2 {α β:Type} {f:α→β} {ws:List α} {a b:β} (h:ws.map f=[a,b]):∃ x y,ws=[x,y]∧f x=a∧f y=b:=by
 match ws with
 | [x,y]=>simp only [List.map_cons,List.map_nil,List.cons.injEq,and_true] at h;exact ⟨x,y,rfl,h.1,h.2⟩
 | []=>simp at h
 | [_]=>simp at h
 | _::_::_::_=>simp at h
theorem map3 {α β:Type} {f:α→β} {ws:List α} {a b c:β} (h:ws.map f=[a,b,c]):∃ x y z,ws=[x,y,z]∧f x=a∧f y=b∧f z=c:=by
 match ws with
 | [x,y,z]=>simp only [List.map_cons,List.map_nil,List.cons.injEq,and_true] at h;exact ⟨x,y,z,rfl,h.1,h.2.1,h.2.2⟩
 | []=>simp at h
 | [_]=>simp at h
 | [_,_]=>simp at h
 | _::_::_::_::_=>simp at h
theorem retSSB {ub:Nat} {v:V} {a1 a2 b:Bool} {n1 n2:Nat} {c1 c2:List V} {K:Delta→Prop} (hv:TupS [.sl none a1 n1 c1,.sl none a2 n2 c2,.bool b] v)
 (h:∀ t1 t2 add,K { v:=.tup [.sl t1 a1 n1 c1,.sl t2 a2 n2 c2,.bool b],add:=add }):wpD (retA ub v) K:=by
 refine retTup hv rfl fun ws add hw=>?_
 obtain ⟨x,y,z,rfl,h1,h2,h3⟩:=map3 hw
 obtain ⟨t1,rfl⟩:=strip1_sl h1
 obtain ⟨t2,rfl⟩:=strip1_sl h2
 obtain rfl:=strip1_bool h3
 exact h t1 t2 add
def OutOk (st:St) (v w:V):Prop:=∀ keep i,∃ a,outTop st keep i v=some a∧a.strip1=w∧(a.toks=[]∨a.toks=[i])
def OutAll (st:St):List V→List V→Prop
 | [],[]=>True
 | v::vs,w::ws=>OutOk st v w∧OutAll st vs ws
 | _,_=>False
theorem outOk_pure {st:St} {v:V} (h:v.pureLeaf=true):OutOk st v v:=by
 intro keep i
 refine ⟨v,?_,strip1_of_pure h,.inl ?_⟩
 ·cases v with
  | agg=>cases h
  | fn=>cases h
  | _=>exact outLeaf_pure (st:=st) (keep:=keep) (i:=i) h
 ·cases v with
  | agg=>cases h
  | _=>exact tok_pure h
theorem outOk_sl {st:St} {v:V} {nl:Bool} {n:Nat} {cs:List V} (hv:v.leaf=true) (h:SlOut st v nl n cs):OutOk st v (.sl none nl n cs):=by
 intro keep i
 obtain ⟨a,ha,ht⟩:=h keep i
 refine ⟨.sl a nl n cs,?_,rfl,?_⟩
 ·rw [← ha]
  cases v with
  | agg=>cases hv
  | fn=>simp only [outLeaf,solid] at ha;split at ha <;> cases ha
  | _=>rfl
 ·rcases ht with rfl | ⟨z,rfl⟩
  ·exact .inl rfl
  ·exact .inr rfl
theorem outTops_ok {st:St} {keep:Bool}:∀ {vs ls:List V} {i:Nat},OutAll st vs ls→∃ as1,outTops st keep i vs=some as1∧as1.map V.strip1=ls∧(∀ p∈as1.flatMap V.toks,i≤p∧p<i+16 * vs.length)∧nodup (as1.flatMap V.toks)=true
 | [],[],i,_=>⟨[],rfl,rfl,by simp,rfl⟩
 | v::vs,w::ws,i,h=>by
  obtain ⟨a,h1,h2,h3⟩:=h.1 keep i
  obtain ⟨as1,k1,k2,k3,k4⟩:=outTops_ok (keep:=keep) (i:=i+16) h.2
  refine ⟨a::as1,by simp only [outTops,h1,Option.bind_some,k1,Option.map_some],by rw [List.map_cons,h2,k2],fun p hp=>?_,?_⟩
  ·rw [List.flatMap_cons,List.mem_append] at hp
   simp only [List.length_cons]
   rcases hp with hp | hp
   ·rcases h3 with h3 | h3 <;> rw [h3] at hp <;> simp at hp
    omega
   ·have:=k3 p hp;omega
  ·rw [List.flatMap_cons]
   rcases h3 with h3 | h3 <;> rw [h3]
   ·exact k4
   ·simp only [List.singleton_append,nodup,Bool.and_eq_true,k4,and_true,Bool.not_eq_true']
    rw [Bool.eq_false_iff]
    intro hc
    obtain ⟨p,hp,he⟩:=List.any_eq_true.1 hc
    have:=Nat.eq_of_beq_eq_true he
    have:=k3 p hp
    omega
 | [],_::_,_,h=>h.elim
 | _::_,[],_,h=>h.elim
theorem resOf_ts (st:St):∀ ns:List Nat,(ns.map ARes.t).mapM (resOf st)=some (ns.map st.tm)
 | []=>rfl
 | n::ns=>by rw [List.map_cons,List.mapM_cons,resOf_ts st ns];rfl
theorem tupE {ns:List Nat} {st:St} {vs ls:List V} {P:V→Prop} (hP:∀ r,TupS ls r→P r) (hd:st.df=[]) (h:ns.map st.tm=vs) (h2:2≤vs.length) (h4:vs.length≤4) (ho:OutAll st vs ls):kEndE (ns.map .t) P .ret st:=by
 obtain ⟨as1,k1,k2,k3,k4⟩:=outTops_ok (keep:=nodup (vs.flatMap V.toks)) (i:=0) ho
 have hal:2≤as1.length:=by
  have e1:=congrArg List.length k2
  have:∀ {vs ls:List V},OutAll st vs ls→vs.length=ls.length:=by
   intro vs
   induction vs with
   | nil=>intro ls h;cases ls with | nil=>rfl | cons=>exact h.elim
   | cons v vs ih=>intro ls h;cases ls with | nil=>exact h.elim | cons w ws=>rw [List.length_cons,List.length_cons,ih h.2]
  have:=this ho
  simp only [List.length_map] at e1
  omega
 refine ⟨.tup as1,?_,hP _ ⟨as1,rfl,k2,fun p hp=>by have:=k3 p hp;omega⟩⟩
 simp only [endV,dfOk_of hd,noDf_of hd,if_true,resOf_ts,h,Option.bind_some,outRes,k1,k4]
 match as1,hal with
 | a::b::r,_=>rfl
section
variable {E:Env} {Yf:YF} {st:St} {ub:Nat} {K:St→Nat→Prop} {d:Option Nat} {nm:Bool}
end
def Upto (n i:Nat) (J:List Int) (cs:List V):Prop:=cs.length=n∧(∀ j,j<i→cs[j]? = (J.flatMap intC)[j]?)∧cs.all V.pureLeaf=true
theorem Upto.set {n i:Nat} {J:List Int} {cs:List V} (h:Upto n i J cs) (hi:i<n) {x:Int} (hx:J[i]? = some x):Upto n (i+1) J (splice cs i [.int .i64 x]):=by
 obtain ⟨h1,h2,h3⟩:=h
 have hs:splice cs i [.int .i64 x]=cs.set i (.int .i64 x):=by
  unfold splice
  rw [List.set_eq_take_append_cons_drop,if_pos (by omega),List.append_assoc]
  rfl
 rw [hs]
 refine ⟨by rw [List.length_set];exact h1,fun j hj=>?_,?_⟩
 ·by_cases hji:j=i
  ·subst hji
   have hJ:=(List.getElem?_eq_some_iff.1 hx)
   rw [List.getElem?_set_self (by omega),int_at J hJ.1,hJ.2]
  ·rw [List.getElem?_set_ne (fun e=>hji e.symm)]
   exact h2 j (by omega)
 ·refine List.all_eq_true.2 fun y hy=>?_
  rcases List.mem_or_eq_of_mem_set hy with hy | rfl
  ·exact List.all_eq_true.1 h3 y hy
  ·rfl
theorem Upto.whole {n:Nat} {J:List Int} {cs:List V} (h:Upto n n J cs) (hJ:J.length=n):cs=J.flatMap intC:=by
 apply List.ext_getElem?
 intro j
 by_cases hj:j<n
 ·exact h.2.1 j hj
 ·rw [List.getElem?_eq_none (by rw [h.1];omega),List.getElem?_eq_none (by rw [flatMap_len intC_len];omega)]
theorem Upto.zero (n:Nat) (J:List Int):Upto n 0 J (repl n [.int .i64 0]):=by
 refine ⟨by simp [repl],fun j hj=>by omega,?_⟩
 refine List.all_eq_true.2 fun y hy=>?_
 simp only [repl,List.mem_map] at hy
 obtain ⟨i,_,rfl⟩:=hy
 simp [V.pureLeaf,Nat.mod_one]
end Go.Pv.T

/- Must, as it is given. -/
namespace Go.Pv.T
open Go Go.Pv
theorem kD_obs {st:St} {ub:Nat} {K:List FP→St→Prop} {d:Option Nat} {nm:Bool} {r:List AOpr} {f:FuncId} {xs:List A} {vs:List V} {v:V} {δ:Delta} (hx:xs.map (eval E st.tm)=vs) (hs:E.sh nm f=false) (hp:(vs.all fun v=>v.strip.pureTop)=false)
 (hev:EvO E f vs st.ob st.tk ((st.fb+d.getD 0+1) * 1024) (ub+64 * (r.length+1)) v) (hδ:retA ub v=some δ)
 (h:wpDraw E r (st.app d δ) (ub+64) (kFp { wt:=δ.wt,all:=true,seen:=fun l=>(st.ob l).isSome } K)):wpDraw E (⟨d,.call f xs,none,nm⟩::r) st ub K:=by
 have hp':(xs.all fun x=>(eval E st.tm x).strip.pureTop)=false:=by
  rw [← hx,List.all_map] at hp
  exact hp
 have hsh:sharedCall E nm (eval E st.tm) (.call f xs)=some (f,vs):=by simp only [sharedCall,hs,hx,hp',Bool.not_false,Bool.and_false,Bool.false_eq_true,if_false]
 simp only [wpDraw,wanted,hsh]
 exact .inl ⟨hs,v,hev,δ,hδ,h⟩
theorem kD_obsP {st:St} {ub:Nat} {K:List FP→St→Prop} {d:Option Nat} {nm:Bool} {r:List AOpr} {f:FuncId} {xs:List A} {vs:List V} {l:List Int} (hx:xs.map (eval E st.tm)=vs) (hs:E.sh nm f=false) (hp:(vs.all fun v=>v.strip.pureTop)=false)
 (he:∃ v,EvO E f vs st.ob st.tk ((st.fb+d.getD 0+1) * 1024) (ub+64 * (r.length+1)) v∧NumR l v)
 (h:∀ t nl add,wpDraw E r (st.app d { v:=.sl t nl l.length (l.flatMap intC),add:=add }) (ub+64) (kFp { wt:=add,all:=true,seen:=fun l=>(st.ob l).isSome } K)):wpDraw E (⟨d,.call f xs,none,nm⟩::r) st ub K:=by
 obtain ⟨v,ev,nl,hv⟩:=he
 obtain ⟨t,add,hr⟩:=retA_sl (ub:=ub) hv
 exact kD_obs hx hs hp ev hr (h t nl add)
def MustR (g:Hist') (v:V):Prop :=
 if mayH g then (if (KnS.known g).hop then TupS [.sl none true 0 [],.sl none true 0 [],.bool true,.int .i64 0] v
  else ∃ a b,TupS [.sl none a ((infosH g).filter fun t=>!(mcnt (KnS.known g).m t == 0)).length (((infosH g).filter fun t=>!(mcnt (KnS.known g).m t == 0)).flatMap intC),
   .sl none b ((infosH g).filter fun t=>!(mcnt (KnS.known g).n t == 0)).length (((infosH g).filter fun t=>!(mcnt (KnS.known g).n t == 0)).flatMap intC),.bool false,.int .i64 0] v)
 else TupS [.sl none true 0 [],.sl none true 0 [],.bool false,.int .i64 4] v
theorem ev48 {g:Hist'} (hs:Small g):∃ v,Ev E 48 [.agg (histC g)] v∧MustR g v:=by
 have e70:=ev70 hs
 have p0:mayH g=false→∀ v,TupS [.sl none true 0 [],.sl none true 0 [],.bool false,.int .i64 4] v→MustR g v:=fun h v hv=>by
  unfold MustR;rw [h];exact hv
 have p1:mayH g=true→(KnS.known g).hop=true→∀ v,TupS [.sl none true 0 [],.sl none true 0 [],.bool true,.int .i64 0] v→MustR g v:=fun h h' v hv=>by
  unfold MustR;rw [h,h'];exact hv
 have p2:mayH g=true→(KnS.known g).hop=false→∀ a b v,TupS [.sl none a ((infosH g).filter fun t=>!(mcnt (KnS.known g).m t == 0)).length (((infosH g).filter fun t=>!(mcnt (KnS.known g).m t == 0)).flatMap intC),
  .sl none b ((infosH g).filter fun t=>!(mcnt (KnS.known g).n t == 0)).length (((infosH g).filter fun t=>!(mcnt (KnS.known g).n t == 0)).flatMap intC),.bool false,.int .i64 0] v→MustR g v:=fun h h' a b v hv=>by
  unfold MustR;rw [h,h'];exact ⟨a,b,hv⟩
 generalize MustR g=P at *
 refine Ev_wpE (af:=F48) rfl (by decide) ?_
 simp [F48,histC,objCells]
 refine kS_ev e70 (by simp [histC]) rfl (by simp [histC]) ?_
 cases hm:mayH g
 ·rw [may_bad hm]
  simp
  refine tupE (ns:=[2,3,4,5]) (vs:=[.sl none true 0 [],.sl none true 0 [],.bool false,.int .i64 4]) (p0 hm) rfl (by simp) (by decide) (by decide) ?_
  exact ⟨outOk_pure rfl,outOk_pure rfl,outOk_pure rfl,outOk_pure rfl,trivial⟩
 rw [may_err hm]
 simp [objCells]
 refine kS_callP (vs:=[.agg (histC g)]) (by simp [histC]) rfl (sv91 (g:=g) hs (Nat.zero_le _)) ?_
 rintro v ob1 tk1 ub1 ⟨hv,hK,hold,hub⟩
 simp only at hv hK hold hub
 subst hv
 have hk:=hK.k
 cases hh:(KnS.known g).hop
 ·rw [hh] at hk
  simp [objCells,hk]
  obtain ⟨vm,hmm⟩:=hK.m
  obtain ⟨vn,hmn⟩:=hK.n
  have hlt:=hK.lt
  refine kD_obsP (vs:=[.ptr (2 * (704+384)+1) (704+384) 0,.map (2 * (704+192)+1) (704+192)]) (by simp) rfl rfl (evo92 hs hm (hK.up (by simp) (by simp;omega)) ⟨vm,by simpa using hmm⟩ (by omega)) ?_
  intro ta nla adda
  simp [objCells,hk]
  refine kD_obsP (vs:=[.ptr (2 * (704+384)+1) (704+384) 0,.map (2 * (704+256)+1) (704+256)]) (by simp) rfl rfl (evo92 hs hm (hK.up (by simp) (by simp;omega)) ⟨vn,by simpa using hmn⟩ (by omega)) ?_
  intro tb nlb addb
  simp
  exact tupE (ns:=[2,3,4,5]) (vs:=[.sl ta nla ((infosH g).filter fun t=>!(mcnt (KnS.known g).m t == 0)).length (((infosH g).filter fun t=>!(mcnt (KnS.known g).m t == 0)).flatMap intC),
   .sl tb nlb ((infosH g).filter fun t=>!(mcnt (KnS.known g).n t == 0)).length (((infosH g).filter fun t=>!(mcnt (KnS.known g).n t == 0)).flatMap intC),.bool false,.int .i64 0]) (p2 hm hh nla nlb) (by simp) (by simp) (by simp) (by simp)
   ⟨outOk_sl rfl (slOut_sl _ ta nla _ _),outOk_sl rfl (slOut_sl _ tb nlb _ _),outOk_pure rfl,outOk_pure rfl,trivial⟩
 ·rw [hh] at hk
  simp [objCells,hk]
  refine tupE (ns:=[2,3,4,5]) (vs:=[.sl none true 0 [],.sl none true 0 [],.bool true,.int .i64 0]) (p1 hm hh) (by simp) (by simp) (by decide) (by decide) ⟨outOk_pure rfl,outOk_pure rfl,outOk_pure rfl,outOk_pure rfl,trivial⟩
end Go.Pv.T

/- Against, as it is given. -/
namespace Go.Pv.T
open Go Go.Pv
def blC (b:Bool):List V:=[.bool b]
@[simp] theorem blC_len (b:Bool):(blC b).length=1:=rfl
theorem bl_at (l:List Bool) {i:Nat} (h:i<l.length):(l.flatMap blC)[i]? = some (.bool l[i]):=by
 have:=fld_at blC_len l h (by decide:0<1)
 simpa [blC] using this
def KnS.ag (s:KnS) (x:Int) (b:Bool):Bool:=(b && decide (0<mcnt s.n x)) || (!b && decide (0<mcnt s.m x))
def KnS.agTo (s:KnS) (l:List Int) (bs:List Bool):Nat→Bool
 | 0=>false
 | i+1=>s.agTo l bs i || s.ag (l.getD i 0) (bs.getD i false)
theorem agTo_mono {s:KnS} {l:List Int} {bs:List Bool} {i:Nat} (h:s.agTo l bs i=true):∀ n,i≤n→s.agTo l bs n=true
 | 0,hn=>by
  have:i=0:=by omega
  rw [this] at h;exact h
 | n+1,hn=>by
  rcases Nat.lt_or_ge n i with h1 | h1
  ·have:i=n+1:=by omega
   rw [← this];exact h
  ·simp only [KnS.agTo,agTo_mono h n h1,Bool.true_or]
def againstH (g:Hist') (bs:List Bool):Bool × Int :=
 if mayH g then (if bs.length=(infosH g).length then ((KnS.known g).agTo (infosH g) bs bs.length || (KnS.known g).hop,0) else (false,2)) else (false,4)
set_option maxRecDepth 100000 in
theorem ev51 {g:Hist'} (hs:Small g) {nl:Bool} (bs:List Bool) (hb:bs.length≤1000000):Ev E 51 [.agg (histC g),slOf nl blC bs] (.tup [.bool (againstH g bs).1,.int .i64 (againstH g bs).2]):=by
 have e70:=ev70 hs
 have hts:=hs.ts
 refine Ev_wpK (af:=F51) rfl ?_
 obtain ⟨A,hA⟩:∃ A,againstH g bs=A:=⟨_,rfl⟩
 rw [hA]
 unfold againstH at hA
 simp [F51,histC,objCells]
 refine kS_ev e70 (by simp [histC]) rfl (by simp [histC]) ?_
 cases hm:mayH g
 ·rw [may_bad hm]
  rw [hm] at hA
  subst hA
  simp
  refine endV_2 rfl (by simp) (by simp) rfl rfl
 obtain ⟨vi,evi,nli,hvi⟩:=ev61 hs hm
 rw [may_err hm]
 rw [hm] at hA
 simp only [if_true] at hA
 simp [objCells]
 refine kS_ev evi (by simp [histC]) rfl (by simp [histC]) ?_
 refine retSl hvi fun ti addi=>?_
 obtain ⟨l,hl⟩:∃ l,infosH g=l:=⟨_,rfl⟩
 have hll:l.length≤1000:=by
  have:=numsTo_len isInfo g.ts g.ts.length
  rw [← hl]
  unfold infosH
  omega
 rw [hl] at hA ⊢
 simp
 by_cases hne:bs.length=l.length
 ·rw [if_pos hne] at hA
  simp [hne,objCells]
  refine kS_callP (vs:=[.agg (histC g)]) (by simp [histC]) rfl (sv91 (g:=g) hs (Nat.zero_le _)) ?_
  rintro v ob1 tk1 ub1 ⟨hv,hK,hold,hub⟩
  simp only at hv hK hold hub
  subst hv
  have hk:=hK.k
  obtain ⟨vm,hmm⟩:=hK.m
  obtain ⟨vn,hmn⟩:=hK.n
  obtain ⟨s,hs0⟩:∃ s,KnS.known g=s:=⟨_,rfl⟩
  rw [hs0] at hA hk hmm hmn
  simp
  refine wp_loopUp [(4,5),(9,10),(27,61)] l.length (fun i st=>st.tm 27 = .int .i64 i∧st.ob=ob1∧s.agTo l bs i=false) rfl rfl ⟨by simp,by simp,rfl⟩ ?_
  rintro i st hi ⟨h27,hob,hag⟩ f
  have f1:st.tm 1=slOf nl blC bs:=by rw [f.t 1 (by simp)];simp
  have f8:st.tm 8 = .ptr (2 * (1088+384)+1) (1088+384) 0:=by rw [f.t 8 (by simp)];simp
  have f25:st.tm 25 = .sl ti nli l.length (l.flatMap intC):=by rw [f.t 25 (by simp)];simp
  have f26:st.tm 26 = .int .i64 l.length:=by rw [f.t 26 (by simp)];simp
  have fd:st.df=[]:=by rw [f.d];simp
  clear f
  rw [← hob] at hk hmm hmn
  have hlm:=lookupV_MI (ob:=st.ob) (l:=2 * (1088+192)+1) (u:=1088+192) (k:=(l.getD i 0)) s.m (by simp [objMap,hmm])
  have hln:=lookupV_MI (ob:=st.ob) (l:=2 * (1088+256)+1) (u:=1088+256) (k:=(l.getD i 0)) s.n (by simp [objMap,hmn])
  by_cases hlt:i<l.length
  ·have hlb:i<bs.length:=by omega
   have hwk:=wrapU hlt (by omega)
   have hst:s.agTo l bs (i+1)=s.ag l[i] bs[i]:=by
    simp only [KnS.agTo,hag,Bool.false_or,List.getD_eq_getElem?_getD,List.getElem?_eq_getElem hlt,List.getElem?_eq_getElem hlb,Option.getD_some]
   have hia:=int_at l hlt
   have hba:=bl_at bs hlb
   have hgx:l.getD i 0=l[i]:=by simp [List.getD_eq_getElem?_getD,List.getElem?_eq_getElem hlt]
   rw [hgx] at hlm hln
   have hon:s.agTo l bs (i+1)=true→A=(true,0):=fun h=>by
    rw [← hA,agTo_mono h bs.length (by omega)];rfl
   unfold KnS.ag at hst
   generalize l[i]=x at *
   simp at hk hlm hln
   cases hbb:bs[i]
   ·by_cases c:0<mcnt s.m x
    ·rw [hbb] at hba hst
     simp only [c,decide_true,Bool.not_false,Bool.and_self,Bool.or_true] at hst
     simp [h27,f1,f8,f25,f26,hlt,hlb,idx_slT intC_len,idx_slOf blC_len,hia,hba,objCells,hk,hlm,hln,c]
     rw [hon hst]
     refine endV_2 (by simp [fd]) (by simp) (by simp) rfl rfl
    ·rw [hbb] at hba hst
     simp only [c,decide_false,Bool.and_false,Bool.false_and,Bool.or_false] at hst
     simp [h27,f1,f8,f25,f26,hlt,hlb,idx_slT intC_len,idx_slOf blC_len,hia,hba,objCells,hk,hlm,hln,c,hwk]
     exact ⟨hob,hst⟩
   ·by_cases c:0<mcnt s.n x
    ·rw [hbb] at hba hst
     simp only [c,decide_true,Bool.and_self,Bool.true_or] at hst
     simp [h27,f1,f8,f25,f26,hlt,hlb,idx_slT intC_len,idx_slOf blC_len,hia,hba,objCells,hk,hlm,hln,c]
     rw [hon hst]
     refine endV_2 (by simp [fd]) (by simp) (by simp) rfl rfl
    ·rw [hbb] at hba hst
     simp only [c,decide_false,Bool.and_false,Bool.not_true,Bool.false_and,Bool.or_false] at hst
     simp [h27,f1,f8,f25,f26,hlt,hlb,idx_slT intC_len,idx_slOf blC_len,hia,hba,objCells,hk,hlm,hln,c,hwk]
     exact ⟨hob,hst⟩
  ·have:i=l.length:=by omega
   subst this
   rw [hne,hag,Bool.false_or] at hA
   subst hA
   simp at hk
   simp [h27,f26,f8,objCells,hk]
   refine endV_2 (by simp [fd]) (by simp) (by simp) rfl rfl
 ·rw [if_neg hne] at hA
  subst hA
  have hbn:((bs.length:Int) != l.length)=true:=by
   rw [bne_iff_ne]
   omega
  simp [hbn]
  refine endV_2 rfl (by simp) (by simp) rfl rfl
end Go.Pv.T

/- The reference's Raw, plain. -/
namespace Go.Pv.T
open Go Go.Pv
structure RwS where
 c:List Bool
 d:List Bool
 hop:Bool
 more:Bool
def RwS.left (r:RwS) (g:Hist') (t k:Nat):List Int:=(ofH g t k).filter fun x=>decide (x<0) || !(r.d.getD x.toNat false)
def RwS.sole (r:RwS) (g:Hist') (t:Nat) (l:List Op'):Nat→Bool × List Int
 | 0=>(false,[])
 | k+1=>match l[k]? with
  | some o =>
   if !outerB g t k || o.v.kind == 2 then r.sole g t l k else
   ((r.sole g t l k).1 || (r.left g t k).length == 0,
    if (r.left g t k).length == 1 && decide (0≤(r.left g t k).headD 0) then (r.sole g t l k).2++[(r.left g t k).headD 0] else (r.sole g t l k).2)
  | none=>r.sole g t l k
def RwS.learn (r:RwS) (t:Nat):List Int→RwS
 | []=>r
 | x::xs=>if r.c.getD t false then (if r.c.getD x.toNat false then r.learn t xs else { r with c:=r.c.set x.toNat true,more:=true }.learn t xs) else r
def RwS.fails (r:RwS) (f:Int) (t:Nat):RwS :=
 if f=1 then { r with hop:=true } else if f=3 then (if r.d.getD t false then r else { r with d:=r.d.set t true,more:=true }) else r
def RwS.txn (r:RwS) (g:Hist') (t:Nat) (f:Int) (l:List Op'):RwS :=
 (if (r.sole g t l l.length).1 || !(badH g t).isEmpty then r.fails f t else r).learn t (r.sole g t l l.length).2
def Alike (n:Nat) (s:KnS) (r:RwS):Prop :=
 r.c.length=n∧r.d.length=n∧(∀ i,i<n→r.c.getD i false=decide (0<mcnt s.m i))∧(∀ i,i<n→r.d.getD i false=decide (0<mcnt s.n i))∧s.hop=r.hop∧s.more=r.more∧∀ x:Int,x<0→mcnt s.n x=0
theorem ofH_ne {g:Hist'} {t:Nat} {b x:Int} (h:x∈ofH g t b):x≠t:=by
 unfold ofH at h
 split at h
 ·split at h
  ·simp at h
  ·rename_i o _ _
   unfold ofL ofStart at h
   rcases List.mem_append.1 h with h | h
   ·split at h
    ·simp at h
    ·simp at h;omega
   ·have:=(List.mem_filter.1 h).2
    simp only [Bool.and_eq_true,Bool.not_eq_true',beq_eq_false_iff_ne,ne_eq] at this
    exact this.1
 ·simp at h
theorem left_alike {g:Hist'} {s:KnS} {r:RwS} {t k:Nat} (hd:∀ i,i<g.ts.length→i≠t→r.d.getD i false=decide (0<mcnt s.n i)) (hn:∀ x:Int,x<0→mcnt s.n x=0):s.left g t k=r.left g t k:=by
 unfold KnS.left RwS.left
 refine List.filter_congr fun x hx=>?_
 have hlt:=ofH_lt hx
 have hne:=ofH_ne hx
 by_cases h0:x<0
 ·simp [hn x h0,h0]
 ·obtain ⟨i,rfl⟩:∃ i:Nat,x=i:=⟨x.toNat,by omega⟩
  have:=hd i (by omega) (by omega)
  simp only [Int.toNat_natCast,this,h0,decide_false,Bool.false_or]
theorem Alike.fails {n:Nat} {s:KnS} {r:RwS} (h:Alike n s r) {f:Int} {t:Nat} (ht:t<n) (hp:0≤mcnt s.n t):Alike n (s.fails f t) (r.fails f t):=by
 obtain ⟨h1,h2,h3,h4,h5,h6,h7⟩:=h
 unfold KnS.fails RwS.fails
 by_cases f1:f=1
 ·simp only [f1,if_true]
  exact ⟨h1,h2,h3,h4,rfl,h6,h7⟩
 ·by_cases f3:f=3
  ·rw [if_neg f1,if_neg f1,if_pos f3,if_pos f3]
   unfold KnS.learnN
   by_cases h0:mcnt s.n t=0
   ·have hr:r.d.getD t false=false:=by rw [h4 t ht,h0];rfl
    rw [if_pos h0,hr]
    simp only [Bool.false_eq_true,if_false]
    refine ⟨h1,by simp [h2],h3,fun i hi=>?_,h5,rfl,fun x hx=>?_⟩
    ·simp only [mcnt_set]
     by_cases e:i=t
     ·subst e
      simp [List.getD_eq_getElem?_getD,List.getElem?_set,h2,hi]
     ·have e':¬ (i:Int)=t:=by omega
      have e2:¬ (t:Int)=i:=by omega
      have:=h4 i hi
      simp [e',e2,List.getD_eq_getElem?_getD,List.getElem?_set,Ne.symm e] at this ⊢
      exact this
    ·simp only [mcnt_set]
     rw [if_neg (by omega)]
     exact h7 x hx
   ·have hr:r.d.getD t false=true:=by rw [h4 t ht];simp;omega
    rw [if_neg h0,hr]
    simp only [if_true]
    exact ⟨h1,h2,h3,h4,h5,h6,h7⟩
  ·rw [if_neg f1,if_neg f1,if_neg f3,if_neg f3]
   exact ⟨h1,h2,h3,h4,h5,h6,h7⟩
def RwS.com (r:RwS) (x:Nat):RwS:=if r.c.getD x false then r else { r with c:=r.c.set x true,more:=true }
theorem Alike.learnM {n:Nat} {s:KnS} {r:RwS} (h:Alike n s r) {t:Nat} (ht:t<n) (hp:0≤mcnt s.m t):Alike n (s.learnM t) (r.com t):=by
 obtain ⟨h1,h2,h3,h4,h5,h6,h7⟩:=h
 unfold KnS.learnM RwS.com
 by_cases h0:mcnt s.m t=0
 ·have hr:r.c.getD t false=false:=by rw [h3 t ht,h0];rfl
  rw [if_pos h0,hr]
  simp only [Bool.false_eq_true,if_false]
  refine ⟨by simp [h1],h2,fun i hi=>?_,h4,h5,rfl,h7⟩
  simp only [mcnt_set]
  by_cases e:i=t
  ·subst e
   simp [List.getD_eq_getElem?_getD,List.getElem?_set,h1,hi]
  ·have e':¬ (i:Int)=t:=by omega
   have:=h3 i hi
   simp [e',List.getD_eq_getElem?_getD,List.getElem?_set,Ne.symm e] at this ⊢
   exact this
 ·have hr:r.c.getD t false=true:=by rw [h3 t ht];simp;omega
  rw [if_neg h0,hr]
  simp only [if_true]
  exact ⟨h1,h2,h3,h4,h5,h6,h7⟩
end Go.Pv.T

/- A transaction told in whatever order. -/
namespace Go.Pv.T
open Go Go.Pv
theorem KnS.fails_learnM (s:KnS) (f t x:Int):(s.learnM x).fails f t=(s.fails f t).learnM x:=by
 unfold KnS.fails KnS.learnM KnS.learnN
 by_cases f1:f=1
 ·simp only [f1,if_true]
  split <;> rfl
 ·by_cases f3:f=3
  ·rw [if_neg f1,if_neg f1,if_pos f3,if_pos f3]
   by_cases h0:mcnt s.m x=0 <;> by_cases h1:mcnt s.n t=0 <;> simp [h0,h1]
  ·rw [if_neg f1,if_neg f1,if_neg f3,if_neg f3]
theorem KnS.fails_fails (s:KnS) (f t:Int):(s.fails f t).fails f t=s.fails f t:=by
 unfold KnS.fails KnS.learnN
 by_cases f1:f=1
 ·simp [f1]
 ·by_cases f3:f=3
  ·rw [if_neg f1,if_pos f3]
   by_cases h1:mcnt s.n t=0
   ·simp [h1,f1,f3,mcnt_set]
   ·simp [h1,f1,f3]
  ·simp [f1,f3]
def KnS.learnAll (s:KnS):List Int→KnS
 | []=>s
 | x::xs=>(s.learnM x).learnAll xs
theorem KnS.learnAll_append (s:KnS) (x:Int):∀ xs:List Int,s.learnAll (xs++[x])=(s.learnAll xs).learnM x:=by
 intro xs
 induction xs generalizing s with
 | nil=>rfl
 | cons y ys ih=>exact ih (s.learnM y)
theorem KnS.fails_learnAll (f t:Int):∀ (xs:List Int) (s:KnS),(s.learnAll xs).fails f t=(s.fails f t).learnAll xs
 | [],_=>rfl
 | x::xs,s=>by
  show ((s.learnM x).learnAll xs).fails f t=((s.fails f t).learnM x).learnAll xs
  rw [KnS.fails_learnAll f t xs,KnS.fails_learnM]
theorem KnS.learnM_n (s:KnS) (x:Int):(s.learnM x).n=s.n:=by unfold KnS.learnM;split <;> rfl
theorem KnS.learnAll_n:∀ (xs:List Int) (s:KnS),(s.learnAll xs).n=s.n
 | [],_=>rfl
 | x::xs,s=>(KnS.learnAll_n xs (s.learnM x)).trans (s.learnM_n x)
theorem KnS.learnM_m (s:KnS) {x t:Int} (h:x≠t):mcnt (s.learnM x).m t=mcnt s.m t:=by
 unfold KnS.learnM
 split
 ·simp only [mcnt_set]
  rw [if_neg (Ne.symm h)]
 ·rfl
theorem KnS.learnAll_m {t:Int}:∀ (xs:List Int) (s:KnS),(∀ x∈xs,x≠t)→mcnt (s.learnAll xs).m t=mcnt s.m t
 | [],_,_=>rfl
 | x::xs,s,h=>(KnS.learnAll_m xs (s.learnM x) fun y hy=>h y (List.mem_cons_of_mem _ hy)).trans (s.learnM_m (h x (List.mem_cons_self ..)))
theorem KnS.fails_m (s:KnS) (f t:Int):(s.fails f t).m=s.m:=by
 unfold KnS.fails KnS.learnN
 split
 ·rfl
 ·split
  ·split <;> rfl
  ·rfl
theorem KnS.fails_n (s:KnS) (f t:Int) {x:Int} (h:x≠t):mcnt (s.fails f t).n x=mcnt s.n x:=by
 unfold KnS.fails KnS.learnN
 split
 ·rfl
 ·split
  ·split
   ·simp only [mcnt_set]
    rw [if_neg h]
   ·rfl
  ·rfl
theorem KnS.left_same {g:Hist'} {s s':KnS} {t k:Nat} (h:∀ x:Int,x≠t→mcnt s.n x=mcnt s'.n x):s.left g t k=s'.left g t k:=by
 unfold KnS.left
 refine List.filter_congr fun x hx=>?_
 rw [h x (ofH_ne hx)]
def KnS.told (s:KnS) (g:Hist') (t:Nat) (l:List Op'):Nat→Bool × List Int
 | 0=>(false,[])
 | k+1=>match l[k]? with
  | some o =>
   if o.v.kind == 2 || !outerB g t k then s.told g t l k else
   if (s.left g t k).length=0 then (true,(s.told g t l k).2) else
   if (s.left g t k).length == 1 && decide (0≤(s.left g t k).headD 0) then ((s.told g t l k).1,(s.told g t l k).2++[(s.left g t k).headD 0]) else s.told g t l k
  | none=>s.told g t l k
theorem KnS.left_mem {g:Hist'} {s:KnS} {t k:Nat} (h:(s.left g t k).length≠0):(s.left g t k).headD 0≠t:=by
 cases hl:s.left g t k with
 | nil=>rw [hl] at h;exact absurd rfl h
 | cons x r =>
  have hm:x∈s.left g t k:=by rw [hl];exact List.mem_cons_self ..
  exact ofH_ne (List.mem_filter.1 hm).1
theorem KnS.told_ne {g:Hist'} {s:KnS} {t:Nat} {l:List Op'}:∀ k,∀ x∈(s.told g t l k).2,x≠t
 | 0,x,h=>by simp [KnS.told] at h
 | k+1,x,h=>by
  simp only [KnS.told] at h
  split at h
  ·split at h
   ·exact KnS.told_ne k x h
   ·split at h
    ·exact KnS.told_ne k x h
    ·rename_i h0
     split at h
     ·rcases List.mem_append.1 h with h | h
      ·exact KnS.told_ne k x h
      ·rw [List.mem_singleton.1 h]
       exact KnS.left_mem h0
     ·exact KnS.told_ne k x h
  ·exact KnS.told_ne k x h
theorem KnS.ops_told {g:Hist'} (s:KnS) (f:Int) (t:Nat) (l:List Op'):∀ k,s.ops g f t l k=(if (s.told g t l k).1 then s.fails f t else s).learnAll (if 0<mcnt s.m t then (s.told g t l k).2 else [])
 | 0=>by
  simp only [KnS.ops,KnS.told,Bool.false_eq_true,if_false]
  split <;> rfl
 | k+1=>by
  cases ho:l[k]? with
  | none =>
   simp only [KnS.ops,KnS.told,ho]
   exact KnS.ops_told s f t l k
  | some o =>
   simp only [KnS.ops,KnS.told,ho]
   rw [KnS.ops_told s f t l k]
   have hne:=KnS.told_ne (g:=g) (s:=s) (t:=t) (l:=l) k
   generalize hB:(if (s.told g t l k).1 then s.fails f t else s)=B
   generalize hL:(if 0<mcnt s.m t then (s.told g t l k).2 else [])=L
   have hBn:∀ x:Int,x≠t→mcnt B.n x=mcnt s.n x:=fun x hx=>by
    rw [← hB];split
    ·exact s.fails_n f t hx
    ·rfl
   have hBm:mcnt B.m t=mcnt s.m t:=by
    rw [← hB];split
    ·rw [s.fails_m]
    ·rfl
   have hLne:∀ x∈L,x≠(t:Int):=fun x hx=>by
    rw [← hL] at hx
    split at hx
    ·exact hne x hx
    ·simp at hx
   have hleft:(B.learnAll L).left g t k=s.left g t k:=KnS.left_same fun x hx=>by rw [KnS.learnAll_n];exact hBn x hx
   have hm:mcnt (B.learnAll L).m t=mcnt s.m t:=by rw [KnS.learnAll_m L B hLne];exact hBm
   have hBf:B.fails f t=s.fails f t:=by
    rw [← hB];split
    ·exact s.fails_fails f t
    ·rfl
   unfold KnS.op
   rw [hleft,hm]
   by_cases c0:(o.v.kind == 2 || !outerB g t k)=true
   ·rw [if_pos c0,if_pos c0,hB,hL]
   ·rw [if_neg c0,if_neg c0]
    by_cases c1:(s.left g t k).length=0
    ·rw [if_pos c1,if_pos c1,KnS.fails_learnAll,hBf]
     simp only [if_true]
     rw [hL]
    ·rw [if_neg c1,if_neg c1]
     by_cases c2:((s.left g t k).length == 1 && decide (0≤(s.left g t k).headD 0))=true
     ·rw [if_pos c2]
      simp only [hB]
      simp only [Bool.and_eq_true] at c2
      by_cases c3:0<mcnt s.m t
      ·rw [if_pos (by simp only [c2.1,c2.2,c3,decide_true,Bool.and_self]),if_pos c3,← hL,if_pos c3,KnS.learnAll_append]
      ·rw [if_neg (by simp [c3]),if_neg c3,← hL,if_neg c3]
     ·rw [if_neg c2,hB,hL,if_neg ?_]
      intro h
      simp only [Bool.and_eq_true] at h c2
      exact c2 ⟨h.1,h.2.1⟩
theorem told_sole {g:Hist'} {s:KnS} {r:RwS} {t:Nat} (hd:∀ i,i<g.ts.length→i≠t→r.d.getD i false=decide (0<mcnt s.n i)) (hn:∀ x:Int,x<0→mcnt s.n x=0) (l:List Op'):∀ k,s.told g t l k=r.sole g t l k
 | 0=>rfl
 | k+1=>by
  have ih:=told_sole hd hn l k
  cases ho:l[k]? with
  | none=>simp only [KnS.told,RwS.sole,ho,ih]
  | some o =>
   have hl:=left_alike (k:=k) hd hn
   simp only [KnS.told,RwS.sole,ho,ih,← hl]
   rw [Bool.or_comm (!outerB g t k) (o.v.kind == 2)]
   by_cases c0:(o.v.kind == 2 || !outerB g t k)=true
   ·rw [if_pos c0,if_pos c0]
   ·rw [if_neg c0,if_neg c0]
    by_cases c1:(s.left g t k).length=0
    ·rw [if_pos c1]
     simp [c1]
    ·rw [if_neg c1]
     have c1':((s.left g t k).length == 0)=false:=by simpa using c1
     rw [c1',Bool.or_false]
     split <;> rfl
end Go.Pv.T

/- Both learn the same. -/
namespace Go.Pv.T
open Go Go.Pv
def KnS.Pos (s:KnS):Prop:=∀ x:Int,0≤mcnt s.m x∧0≤mcnt s.n x
theorem KnS.Pos.learnM {s:KnS} (h:s.Pos) (t:Int):(s.learnM t).Pos:=by
 unfold KnS.learnM
 split
 ·intro x
  refine ⟨?_,(h x).2⟩
  simp only [mcnt_set]
  split
  ·decide
  ·exact (h x).1
 ·exact h
theorem KnS.Pos.learnN {s:KnS} (h:s.Pos) (t:Int):(s.learnN t).Pos:=by
 unfold KnS.learnN
 split
 ·intro x
  refine ⟨(h x).1,?_⟩
  simp only [mcnt_set]
  split
  ·decide
  ·exact (h x).2
 ·exact h
theorem KnS.Pos.fails {s:KnS} (h:s.Pos) (f t:Int):(s.fails f t).Pos:=by
 unfold KnS.fails
 split
 ·exact h
 ·split
  ·exact h.learnN t
  ·exact h
theorem KnS.Pos.learnAll:∀ (xs:List Int) {s:KnS},s.Pos→(s.learnAll xs).Pos
 | [],_,h=>h
 | x::xs,_,h=>KnS.Pos.learnAll xs (h.learnM x)
def RwS.comAll (r:RwS):List Int→RwS
 | []=>r
 | x::xs=>(r.com x.toNat).comAll xs
theorem RwS.com_c {r:RwS} {x t:Nat} (h:r.c.getD t false=true):(r.com x).c.getD t false=true:=by
 unfold RwS.com
 split
 ·exact h
 ·rw [List.getD_eq_getElem?_getD] at h
  simp only [List.getD_eq_getElem?_getD,List.getElem?_set]
  split
  ·rename_i e
   subst e
   split
   ·rfl
   ·rename_i e
    rw [List.getElem?_eq_none (by omega)] at h
    cases h
  ·exact h
theorem RwS.learn_all (t:Nat):∀ (xs:List Int) (r:RwS),r.learn t xs=if r.c.getD t false then r.comAll xs else r
 | [],r=>by simp [RwS.learn,RwS.comAll]
 | x::xs,r=>by
  simp only [RwS.learn,RwS.comAll]
  by_cases h:r.c.getD t false=true
  ·rw [if_pos h,if_pos h]
   have hc:=RwS.com_c (x:=x.toNat) h
   unfold RwS.com at hc ⊢
   by_cases h2:r.c.getD x.toNat false=true
   ·rw [if_pos h2,if_pos h2,RwS.learn_all t xs r,if_pos h]
   ·rw [if_neg h2] at hc
    rw [if_neg h2,if_neg h2,RwS.learn_all t xs,if_pos hc]
  ·rw [if_neg h,if_neg h]
theorem Alike.learnAll {n:Nat}:∀ (xs:List Int) {s:KnS} {r:RwS},Alike n s r→s.Pos→(∀ x∈xs,0≤x∧x<n)→Alike n (s.learnAll xs) (r.comAll xs)
 | [],_,_,h,_,_=>h
 | x::xs,s,r,h,hp,hx=>by
  obtain ⟨h0,h1⟩:=hx x (List.mem_cons_self ..)
  have hl:=h.learnM (t:=x.toNat) (by omega) (hp _).1
  have e:((x.toNat:Nat):Int)=x:=Int.toNat_of_nonneg h0
  rw [e] at hl
  exact Alike.learnAll xs hl (hp.learnM x) fun y hy=>hx y (List.mem_cons_of_mem _ hy)
theorem KnS.left_lt {g:Hist'} {s:KnS} {t k:Nat} (h:(s.left g t k).length≠0):(s.left g t k).headD 0<g.ts.length:=by
 cases hl:s.left g t k with
 | nil=>rw [hl] at h;exact absurd rfl h
 | cons x r =>
  have hm:x∈s.left g t k:=by rw [hl];exact List.mem_cons_self ..
  exact ofH_lt (List.mem_filter.1 hm).1
theorem KnS.told_lt {g:Hist'} {s:KnS} {t:Nat} {l:List Op'}:∀ k,∀ x∈(s.told g t l k).2,0≤x∧x<g.ts.length
 | 0,x,h=>by simp [KnS.told] at h
 | k+1,x,h=>by
  simp only [KnS.told] at h
  split at h
  ·split at h
   ·exact KnS.told_lt k x h
   ·split at h
    ·exact KnS.told_lt k x h
    ·rename_i h0
     split at h
     ·rename_i h1
      simp only [Bool.and_eq_true,decide_eq_true_eq] at h1
      rcases List.mem_append.1 h with h | h
      ·exact KnS.told_lt k x h
      ·rw [List.mem_singleton.1 h]
       exact ⟨h1.2,KnS.left_lt h0⟩
     ·exact KnS.told_lt k x h
  ·exact KnS.told_lt k x h
theorem Alike.txn {g:Hist'} {s:KnS} {r:RwS} (h:Alike g.ts.length s r) (hp:s.Pos) {t:Nat} (ht:t<g.ts.length) (f:Int) (l:List Op') :
 Alike g.ts.length (s.txn g t f l) (r.txn g t f l)∧(s.txn g t f l).Pos:=by
 unfold KnS.txn
 rw [KnS.ops_told]
 generalize hs1:(if (badH g t).isEmpty then s else s.fails f t)=s1
 have hn1:∀ x:Int,x≠t→mcnt s1.n x=mcnt s.n x:=fun x hx=>by
  rw [← hs1];split
  ·rfl
  ·exact s.fails_n f t hx
 have hm1:s1.m=s.m:=by
  rw [← hs1];split
  ·rfl
  ·rw [s.fails_m]
 have hsole:=told_sole (s:=s1) (r:=r) (t:=t) (g:=g) (fun i hi hne=>by rw [h.2.2.2.1 i hi,hn1 i (by omega)]) (fun x hx=>by rw [hn1 x (by omega)];exact h.2.2.2.2.2.2 x hx) l l.length
 have hlt:=KnS.told_lt (g:=g) (s:=s1) (t:=t) (l:=l) l.length
 rw [hsole] at hlt
 rw [hsole,hm1]
 unfold RwS.txn
 rw [RwS.learn_all]
 have base:(if (r.sole g t l l.length).1 then s1.fails f t else s1)=if (r.sole g t l l.length).1 || !(badH g t).isEmpty then s.fails f t else s:=by
  rw [← hs1]
  cases (badH g t).isEmpty <;> cases (r.sole g t l l.length).1 <;> simp [KnS.fails_fails]
 rw [base]
 generalize r.sole g t l l.length=q at hlt ⊢
 have hB:Alike g.ts.length (if q.1 || !(badH g t).isEmpty then s.fails f t else s) (if q.1 || !(badH g t).isEmpty then r.fails f t else r)∧(if q.1 || !(badH g t).isEmpty then s.fails f t else s).Pos∧(if q.1 || !(badH g t).isEmpty then s.fails f t else s).m=s.m:=by
  split
  ·exact ⟨h.fails ht (hp _).2,hp.fails f t,s.fails_m f t⟩
  ·exact ⟨h,hp,rfl⟩
 generalize (if q.1 || !(badH g t).isEmpty then s.fails f t else s)=B at hB ⊢
 generalize (if q.1 || !(badH g t).isEmpty then r.fails f t else r)=R at hB ⊢
 obtain ⟨hA,hP,hM⟩:=hB
 have hc:=hA.2.2.1 t ht
 rw [hM] at hc
 by_cases h0:0<mcnt s.m t
 ·have hc':R.c.getD t false=true:=by rw [hc];simp [h0]
  rw [if_pos h0,if_pos hc']
  exact ⟨hA.learnAll _ hP hlt,hP.learnAll _⟩
 ·have hc':¬ R.c.getD t false=true:=by rw [hc];simp [h0]
  rw [if_neg h0,if_neg hc']
  exact ⟨hA,hP⟩
def RwS.init (g:Hist'):RwS:=⟨g.ts.map fun t=>t.f == 1,g.ts.map fun t=>t.f == 2,false,true⟩
def RwS.round (r:RwS) (g:Hist'):Nat→RwS
 | 0=>{ r with more:=false }
 | i+1=>match g.ts[i]? with
  | some t=>(r.round g i).txn g i t.f t.ops
  | none=>r.round g i
def RwS.iter (g:Hist'):Nat→RwS→RwS
 | 0,r=>r
 | k+1,r=>if r.more then RwS.iter g k (r.round g g.ts.length) else r
def RwS.hopTo (r:RwS):Nat→Bool
 | 0=>r.hop
 | i+1=>r.hopTo i || (r.c.getD i false && r.d.getD i false)
def RwS.raw (g:Hist'):RwS:=let r:=RwS.iter g (2 * g.ts.length+1) (RwS.init g);{ r with hop:=r.hopTo g.ts.length }
theorem init_alike (g:Hist'):∀ i,i≤g.ts.length→(KnS.init g i).Pos∧(∀ x:Int,x<0→mcnt (KnS.init g i).n x=0)∧(KnS.init g i).hop=false∧(KnS.init g i).more=true ∧
 ∀ j:Nat,j<i→∀ h:j<g.ts.length,((g.ts[j]).f == 1)=decide (0<mcnt (KnS.init g i).m j)∧((g.ts[j]).f == 2)=decide (0<mcnt (KnS.init g i).n j)
 | 0,_=>⟨fun _=>⟨Int.le_refl _,Int.le_refl _⟩,fun _ _=>rfl,rfl,rfl,fun j h=>absurd h (by omega)⟩
 | i+1,hi=>by
  obtain ⟨h1,h2,h3,h4,h5⟩:=init_alike g i (by omega)
  have hz:=mcnt_init g i i (Int.le_refl _)
  simp only [KnS.init,List.getElem?_eq_getElem (show i<g.ts.length by omega)]
  have last:∀ j:Nat,j<i+1→j≠i→j<i:=fun j h hne=>by omega
  by_cases f1:(g.ts[i]).f=1
  ·rw [if_pos f1]
   refine ⟨fun x=>⟨?_,(h1 x).2⟩,h2,h3,h4,fun j hj hjn=>?_⟩
   ·simp only [mcnt_set]
    split
    ·decide
    ·exact (h1 x).1
   ·simp only [mcnt_set]
    by_cases e:j=i
    ·subst e
     simp [f1,hz.2]
    ·rw [if_neg (by omega)]
     exact h5 j (last j hj e) hjn
  ·rw [if_neg f1]
   by_cases f2:(g.ts[i]).f=2
   ·rw [if_pos f2]
    refine ⟨fun x=>⟨(h1 x).1,?_⟩,fun x hx=>?_,h3,h4,fun j hj hjn=>?_⟩
    ·simp only [mcnt_set]
     split
     ·decide
     ·exact (h1 x).2
    ·simp only [mcnt_set]
     rw [if_neg (by omega)]
     exact h2 x hx
    ·simp only [mcnt_set]
     by_cases e:j=i
     ·subst e
      simp [f2,hz.1]
     ·rw [if_neg (by omega)]
      exact h5 j (last j hj e) hjn
   ·rw [if_neg f2]
    refine ⟨h1,h2,h3,h4,fun j hj hjn=>?_⟩
    by_cases e:j=i
    ·subst e
     simp [f1,f2,hz.1,hz.2]
    ·exact h5 j (last j hj e) hjn
theorem Alike.init (g:Hist'):Alike g.ts.length (KnS.init g g.ts.length) (RwS.init g)∧(KnS.init g g.ts.length).Pos:=by
 obtain ⟨h1,h2,h3,h4,h5⟩:=init_alike g g.ts.length (Nat.le_refl _)
 refine ⟨⟨by simp [RwS.init],by simp [RwS.init],fun i hi=>?_,fun i hi=>?_,h3,h4,h2⟩,h1⟩
 ·rw [← (h5 i hi hi).1]
  simp [RwS.init,List.getD_eq_getElem?_getD,hi]
 ·rw [← (h5 i hi hi).2]
  simp [RwS.init,List.getD_eq_getElem?_getD,hi]
theorem Alike.round {g:Hist'} {s:KnS} {r:RwS} (h:Alike g.ts.length s r) (hp:s.Pos):∀ i,i≤g.ts.length→Alike g.ts.length (s.round g i) (r.round g i)∧(s.round g i).Pos
 | 0,_=>⟨⟨h.1,h.2.1,h.2.2.1,h.2.2.2.1,h.2.2.2.2.1,rfl,h.2.2.2.2.2.2⟩,hp⟩
 | i+1,hi=>by
  obtain ⟨hA,hP⟩:=Alike.round h hp i (by omega)
  simp only [KnS.round,RwS.round,List.getElem?_eq_getElem (show i<g.ts.length by omega)]
  exact hA.txn hP (by omega) _ _
theorem Alike.iter {g:Hist'}:∀ (k:Nat) {s:KnS} {r:RwS},Alike g.ts.length s r→s.Pos→Alike g.ts.length (KnS.iter g k s) (RwS.iter g k r)∧(KnS.iter g k s).Pos
 | 0,_,_,h,hp=>⟨h,hp⟩
 | k+1,s,r,h,hp=>by
  simp only [KnS.iter,RwS.iter,← h.2.2.2.2.2.1]
  split
  ·obtain ⟨hA,hP⟩:=Alike.round h hp g.ts.length (Nat.le_refl _)
   exact Alike.iter k hA hP
  ·exact ⟨h,hp⟩
theorem Alike.hopTo {n:Nat} {s:KnS} {r:RwS} (h:Alike n s r):∀ i,i≤n→s.hopTo i=r.hopTo i
 | 0,_=>h.2.2.2.2.1
 | i+1,hi=>by
  simp only [KnS.hopTo,RwS.hopTo,KnS.both,Alike.hopTo h i (by omega),h.2.2.1 i (by omega),h.2.2.2.1 i (by omega)]
theorem known_raw (g:Hist'):Alike g.ts.length (KnS.known g) (RwS.raw g)∧(KnS.known g).Pos:=by
 obtain ⟨h0,p0⟩:=Alike.init g
 obtain ⟨h1,p1⟩:=Alike.iter (g:=g) (2 * g.ts.length+1) h0 p0
 refine ⟨⟨h1.1,h1.2.1,h1.2.2.1,h1.2.2.2.1,?_,h1.2.2.2.2.2.1,h1.2.2.2.2.2.2⟩,p1⟩
 exact h1.hopTo _ (Nat.le_refl _)
end Go.Pv.T

/- The reference's sole: an observer of what is doomed. -/
namespace Go.Pv.T
open Go Go.Pv
def OwnL (ob:Nat→Option Obj') (v:V) (l:List Int) (lo hi:Nat):Prop:=∃ u,v = .osl (2 * u+1) u 0 l.length 1∧ob (2 * u+1)=some ⟨u,.cells (l.flatMap intC)⟩∧lo≤u∧u<hi
def SoleR (q:Bool × List Int) (v:V):Prop:=TupS [.bool q.1,.sl none false q.2.length (q.2.flatMap intC)] v
theorem bools_at (l:List Bool) {i:Nat} (h:i<l.length):(l.map V.bool)[i]? = some (.bool l[i]):=by simp [h]
theorem ints_pure (l:List Int):(l.flatMap intC).all V.pureLeaf=true:=by
 rw [List.all_eq_true]
 intro v hv
 obtain ⟨n,_,hn⟩:=List.mem_flatMap.1 hv
 simp only [intC,List.mem_singleton] at hn
 rw [hn];rfl
theorem sole_len {r:RwS} {g:Hist'} {t:Nat} {l:List Op'}:∀ k,(r.sole g t l k).2.length≤k
 | 0=>by simp [RwS.sole]
 | k+1=>by
  have:=sole_len (r:=r) (g:=g) (t:=t) (l:=l) k
  simp only [RwS.sole]
  split
  ·split
   ·omega
   ·simp only
    split
    ·simp;omega
    ·omega
  ·omega
def RwS.leftB (r:RwS) (x:Int):Bool:=decide (x<0) || !(r.d.getD x.toNat false)
set_option maxRecDepth 100000 in
theorem evo136 {g:Hist'} (hs:Small g) {r:RwS} (hr:r.d.length=g.ts.length) {t:Nat} (ht:t<g.ts.length) {Ld ud:Nat} {ob:Nat→Option Obj'} {tk:Nat→Bool} {base ub:Nat} (hLd:∀ m,ub≤m→Ld≠2 * m+1) (hob:ob Ld=some ⟨ud,.cells (r.d.map V.bool)⟩) :
 ∃ v,EvO E 136 [.agg (histC g),.int .i64 (t:Int),.osl Ld ud 0 g.ts.length 1] ob tk base ub v∧SoleR (r.sole g t (g.ts[t]).ops (g.ts[t]).ops.length) v:=by
 have hos:=hs.os _ (List.getElem_mem ht)
 have hts:=hs.ts
 refine EvO_wpE (af:=S136) rfl (by decide) ?_
 have hlo:(g.ts.flatMap txnC)[t * 3+2]? = some (slOf (g.ts[t]).nl opC (g.ts[t]).ops):=by rw [fld_at txnC_len g.ts ht (by decide:2<3)];rfl
 obtain ⟨l,hl⟩:∃ l,(g.ts[t]).ops=l:=⟨_,rfl⟩
 obtain ⟨nl,hnl⟩:∃ nl,(g.ts[t]).nl=nl:=⟨_,rfl⟩
 rw [hl,hnl] at hlo
 rw [hl] at hos ⊢
 obtain ⟨Q,hQ⟩:∃ Q,SoleR (r.sole g t l l.length)=Q:=⟨_,rfl⟩
 rw [hQ]
 simp [S136,histC]
 refine kS_buildSlO (cs:=[]) rfl rfl rfl ?_
 simp
 have hsl:∀ k,(r.sole g t l k).2.length≤k:=fun k=>sole_len k
 have q1:¬ 2 * ub=2 * (ub+64+64+64):=by omega
 have n1:¬ Ld=2 * ub+1:=hLd ub (Nat.le_refl _)
 have n2:¬ Ld=2 * (ub+64+64+64)+1:=hLd _ (by omega)
 refine wp_loopUp [(8,14),(16,100)] l.length (fun k st=>st.tm 10 = .int .i64 k∧st.tm 8 = .bool (r.sole g t l k).1∧OwnL st.ob (st.tm 9) (r.sole g t l k).2 (ub+1) st.nx∧st.ob (2 * ub+1)=some ⟨ub,.cells (histC g)⟩∧st.ob Ld=some ⟨ud,.cells (r.d.map V.bool)⟩∧ub+1≤st.nx) rfl rfl
  ⟨by simp,by simp [RwS.sole],⟨ub+64+64+64,by simp [RwS.sole],by simp [RwS.sole],by omega,by simp⟩,by simp [q1,histC],by simp [n1,n2,hob],by simp⟩ ?_
 rintro k st hk ⟨h10,h8,⟨uo,h9,hoo,hlo1,hlo2⟩,hh,hd,hnx⟩ f
 have f0:st.tm 3 = .ptr (2 * ub+1) ub 0:=by rw [f.t 3 (by simp)];simp
 have f1:st.tm 1 = .int .i64 (t:Int):=by rw [f.t 1 (by simp)];simp
 have f2:st.tm 2 = .osl Ld ud 0 g.ts.length 1:=by rw [f.t 2 (by simp)];simp
 have fd:st.df=[]:=by rw [f.d];simp
 have fr:st.ro=ub:=by rw [f.r];simp
 clear f
 have hsk:=hsl k
 by_cases hlt:k<l.length
 ·have hwk:=wrapU hlt (by omega)
  have hload:loadV st.ob (some 4) (.eptr (l.flatMap opC) (k * 4))=some (.agg (opC l[k])):=load_slOf opC_len st.ob l hlt
  obtain ⟨o,ho⟩:∃ o,l[k]=o:=⟨_,rfl⟩
  rw [ho] at hload
  have hkd:(l.flatMap opC)[k * 4+2]? = some (.int .i64 o.v.kind):=by rw [fld_at opC_len l hlt (by decide:2<4),ho];rfl
  have hstep:r.sole g t l (k+1)=if !outerB g t k || o.v.kind == 2 then r.sole g t l k else
   ((r.sole g t l k).1 || (r.left g t k).length == 0,
    if (r.left g t k).length == 1 && decide (0≤(r.left g t k).headD 0) then (r.sole g t l k).2++[(r.left g t k).headD 0] else (r.sole g t l k).2):=by
   simp only [RwS.sole,List.getElem?_eq_getElem hlt,ho]
  generalize r.sole g t l k=q at *
  have e90:=ev90 hs (t:Int) (k:Int)
  obtain ⟨v28,e28,hv28⟩:=ev28' hs (t:Int) (k:Int)
  have q2:¬ 2 * ub=2 * (st.nx+64+64+64+64+64+64+64+64+64+64+64+64):=by omega
  have q3:ub≤st.nx+64+64+64+64+64+64+64+64+64+64+64+64:=by omega
  have q4:¬ 2 * uo=2 * (st.nx+64+64+64+64+64+64+64+64+64+64+64+64):=by omega
  have q5:=hLd (st.nx+64+64+64+64+64+64+64+64+64+64+64+64) (by omega)
  simp [h10,f0,f1,f2,hlt,objCells,hh,histC,ht,idx_slOf txnC_len,hlo,splice,fr,q2,q3]
  refine kS_ev e90 (by simp [histC,placeC]) rfl (by simp [histC,placeC]) ?_
  cases hou:outerB g t k
  ·rw [hou] at hstep
   simp only [Bool.not_false,Bool.true_or,if_true] at hstep
   simp [h10,hwk]
   rw [hstep]
   refine ⟨hlt,h8,⟨uo,h9,by simp [q4,hoo],hlo1,by omega⟩,by simp [q2,hh,histC],by simp [q5,hd],by omega⟩
  rw [hou] at hstep
  simp only [Bool.not_true,Bool.false_or] at hstep
  cases hq:(o.v.kind == 2)
  ·rw [hq] at hstep
   simp only [Bool.false_eq_true,if_false] at hstep
   simp [h10,f0,f1,hlt,objCells,hh,histC,ht,idx_slOf txnC_len,idx_slOf opC_len,hlo,hkd,hq,q2]
   refine kS_ev e28 (by simp [histC,placeC]) rfl (by simp [histC,placeC]) ?_
   refine retSl hv28 fun t28 add28=>?_
   simp
   refine kS_buildSlO (cs:=[]) rfl rfl rfl ?_
   simp
   refine wpC_gen fun s0 hs0=>?_
   obtain ⟨L,hL⟩:∃ L,ofH g t k=L:=⟨_,rfl⟩
   have hlL:r.left g t k=L.filter r.leftB:=by unfold RwS.left RwS.leftB;rw [hL]
   have hxL:∀ x∈L,x<g.ts.length:=fun x hx=>ofH_lt (g:=g) (a:=t) (b:=k) (by rw [hL];exact hx)
   have hLl:L.length≤2000:=by
    rw [← hL]
    cases hm:mayH g
    ·unfold ofH opAt
     simp [hm]
    ·have:=ofH_len hm t k
     omega
   rw [hlL] at hstep
   have q6:¬ 2 * ub=2 * (st.nx+64+64+64+64+64+64+64+64+64+64+64+64+64+64+64+64+64+64+64+64+64+64+64+64+64+64+64+64+64+64+64+64+64+64+64):=by omega
   have q7:¬ 2 * uo=2 * (st.nx+64+64+64+64+64+64+64+64+64+64+64+64+64+64+64+64+64+64+64+64+64+64+64+64+64+64+64+64+64+64+64+64+64+64+64):=by omega
   have q8:=hLd (st.nx+64+64+64+64+64+64+64+64+64+64+64+64+64+64+64+64+64+64+64+64+64+64+64+64+64+64+64+64+64+64+64+64+64+64+64) (by omega)
   have g13:s0.tm 13 = .osl (2 * (st.nx+64+64+64+64+64+64+64+64+64+64+64+64+64+64+64+64+64+64+64+64+64+64+64+64+64+64+64+64+64+64+64+64+64+64+64)+1) (st.nx+64+64+64+64+64+64+64+64+64+64+64+64+64+64+64+64+64+64+64+64+64+64+64+64+64+64+64+64+64+64+64+64+64+64+64) 0 0 1:=by rw [hs0];simp
   have g8:s0.tm 8 = .bool q.1:=by rw [hs0];simp [h8]
   have g9:s0.tm 9 = .osl (2 * uo+1) uo 0 q.2.length 1:=by rw [hs0];simp [h9]
   have g2:s0.tm 2 = .osl Ld ud 0 g.ts.length 1:=by rw [hs0];simp [f2]
   have g12:s0.tm 12 = .sl t28 false L.length (L.flatMap intC):=by rw [hs0];simp [hL]
   have g14:s0.tm 14 = .int .i64 0:=by rw [hs0];simp
   have g10:s0.tm 10 = .int .i64 k:=by rw [hs0];simp [h10]
   have go13:s0.ob (2 * (st.nx+64+64+64+64+64+64+64+64+64+64+64+64+64+64+64+64+64+64+64+64+64+64+64+64+64+64+64+64+64+64+64+64+64+64+64)+1)=some ⟨(st.nx+64+64+64+64+64+64+64+64+64+64+64+64+64+64+64+64+64+64+64+64+64+64+64+64+64+64+64+64+64+64+64+64+64+64+64),.cells []⟩:=by rw [hs0];simp
   have gho:s0.ob (2 * uo+1)=some ⟨uo,.cells (q.2.flatMap intC)⟩:=by rw [hs0];simp [q4,q7,hoo]
   have ghh:s0.ob (2 * ub+1)=some ⟨ub,.cells (histC g)⟩:=by rw [hs0];simp [q2,q6,hh,histC]
   have ghd:s0.ob Ld=some ⟨ud,.cells (r.d.map V.bool)⟩:=by rw [hs0];simp [q5,q8,hd]
   have gd:s0.df=[]:=by rw [hs0];simp [fd]
   have gr:s0.ro=ub:=by rw [hs0];simp [fr]
   have gn:(st.nx+64+64+64+64+64+64+64+64+64+64+64+64+64+64+64+64+64+64+64+64+64+64+64+64+64+64+64+64+64+64+64+64+64+64+64+64)≤s0.nx:=by rw [hs0];simp
   clear hs0 q2 q3 q4 q5 q6 q7 q8
   obtain ⟨u0,hu0⟩:∃ u0,(st.nx+64+64+64+64+64+64+64+64+64+64+64+64+64+64+64+64+64+64+64+64+64+64+64+64+64+64+64+64+64+64+64+64+64+64+64)=u0:=⟨_,rfl⟩
   have gn':u0<s0.nx:=by omega
   have hu1:st.nx≤u0:=by omega
   rw [hu0] at g13 go13
   clear gn hu0
   refine wp_loopUp [(13,14),(52,79)] L.length (fun i s=>s.tm 14 = .int .i64 i∧OwnL s.ob (s.tm 13) ((L.take i).filter r.leftB) (uo+1) s.nx∧s.ob (2 * uo+1)=some ⟨uo,.cells (q.2.flatMap intC)⟩ ∧
    s.ob (2 * ub+1)=some ⟨ub,.cells (histC g)⟩∧s.ob Ld=some ⟨ud,.cells (r.d.map V.bool)⟩∧s0.nx≤s.nx) rfl rfl
    ⟨by simp [g14],⟨u0,by simp [g13],by simp [go13],by omega,gn'⟩,gho,ghh,ghd,Nat.le_refl _⟩ ?_
   rintro i s hi ⟨i14,⟨u,i13,iu,iu1,iu2⟩,iho,ihh,ihd,inx⟩ f
   have j8:s.tm 8 = .bool q.1:=by rw [f.t 8 (by simp),g8]
   have j9:s.tm 9 = .osl (2 * uo+1) uo 0 q.2.length 1:=by rw [f.t 9 (by simp),g9]
   have j2:s.tm 2 = .osl Ld ud 0 g.ts.length 1:=by rw [f.t 2 (by simp),g2]
   have j12:s.tm 12 = .sl t28 false L.length (L.flatMap intC):=by rw [f.t 12 (by simp),g12]
   have j10:s.tm 10 = .int .i64 k:=by rw [f.t 10 (by simp),g10]
   have jd:s.df=[]:=by rw [f.d,gd]
   have jr:s.ro=ub:=by rw [f.r,gr]
   clear f
   by_cases hil:i<L.length
   ·have hwi:=wrapU hil (by omega)
    have hia:=int_at L hil
    have hxl:=hxL L[i] (List.getElem_mem hil)
    have htk:(L.take (i+1)).filter r.leftB=(L.take i).filter r.leftB++if r.leftB L[i] then [L[i]] else []:=by
     rw [List.take_succ_eq_append_getElem hil,List.filter_append]
     simp only [List.filter_cons,List.filter_nil]
    have hWl:((L.take i).filter r.leftB).length≤2000:=by
     have h1:=List.length_filter_le r.leftB (L.take i)
     rw [List.length_take] at h1
     omega
    generalize L[i]=x at *
    generalize (L.take i).filter r.leftB=W at *
    simp [i14,j12,hil,idx_slT intC_len,hia]
    generalize hKK:kSeq E noYF (C.cond (A.t 72) _ _) _=KK
    have rest:∀ s1:St,s1.tm 72 = .bool (r.leftB x)→s1.tm 12 = .sl t28 false L.length (L.flatMap intC)→s1.tm 13 = .osl (2 * u+1) u 0 W.length 1→s1.tm 14 = .int .i64 i→s1.ob=s.ob→s.nx≤s1.nx→s1.ro=ub→KK .nrm s1:=by
     intro s1 k72 k12 k13 k14 kob knx kr
     rw [← hKK]
     cases hb:r.leftB x
     ·rw [hb] at htk k72
      simp only [Bool.false_eq_true,if_false,List.append_nil] at htk
      simp [k72,k14,hwi,kob]
      rw [htk]
      exact ⟨hil,⟨u,k13,iu,iu1,by omega⟩,iho,ihh,ihd,by omega⟩
     ·rw [hb] at htk k72
      simp only [if_true] at htk
      simp [k72,k12,k13,k14,hil,idx_slT intC_len,hia]
      refine kS_buildSlO (cs:=[.int .i64 x]) (by simp [splice]) rfl rfl ?_
      simp
      have z1:¬ 2 * u=2 * (s1.nx+64+64+64+64+64):=by omega
      refine kS_appendO (l:=2 * u+1) (u:=u) (n:=W.length) (cs:=W.flatMap intC) (ys:=[.int .i64 x]) (by simp [k13]) (by simp [slCells,objCells]) (by simp [z1,kob,iu]) (by simp) (by simp [kr];omega) (by rw [flatMap_len intC_len];omega) (by decide) rfl (by simp;omega) (by simp;omega) ?_
      simp [k14,hwi,kob]
      rw [htk]
      have z2:¬ 2 * uo=2 * (s1.nx+64+64+64+64+64+64):=by omega
      have z3:¬ 2 * uo=2 * (s1.nx+64+64+64+64+64):=by omega
      have z4:¬ 2 * ub=2 * (s1.nx+64+64+64+64+64+64):=by omega
      have z5:¬ 2 * ub=2 * (s1.nx+64+64+64+64+64):=by omega
      have z6:=hLd (s1.nx+64+64+64+64+64) (by omega)
      have z7:=hLd (s1.nx+64+64+64+64+64+64) (by omega)
      have z8:=hLd u (by omega)
      have z9:¬ 2 * uo=2 * u:=by omega
      have z10:¬ 2 * ub=2 * u:=by omega
      refine ⟨hil,⟨(s1.nx+64+64+64+64+64+64),by simp,?_,by omega,by omega⟩,?_,?_,?_,by omega⟩
      ·simp [show intC x=[.int .i64 x] from rfl]
       exact List.take_of_length_le (by rw [flatMap_len intC_len];omega)
      ·simp [z2,z3,z9,kob,iho]
      ·simp [z4,z5,z10,kob,ihh]
      ·simp [z6,z7,z8,kob,ihd]
    by_cases hx0:x<0
    ·have hb:r.leftB x=true:=by simp [RwS.leftB,hx0]
     simp [hx0]
     exact rest _ (by simp [hb]) (by simp [j12]) (by simp [i13]) (by simp [i14]) (by simp) (by simp;omega) (by simp [jr])
    ·obtain ⟨j,rfl⟩:∃ j:Nat,x=j:=⟨x.toNat,by omega⟩
     have hj:j<g.ts.length:=by omega
     have hjd:j<r.d.length:=by omega
     have hio:=idxN (l:=Ld) (u:=ud) (n:=g.ts.length) (kk:=.i64) (X:=(j:Int)) rfl hj
     have hbj:=bools_at r.d hjd
     have hb:r.leftB j = !r.d[j]:=by
      unfold RwS.leftB
      simp [List.getD_eq_getElem?_getD,hjd,hx0]
     simp [hx0,j2,j12,i14,hil,idx_slT intC_len,hia,hio,objCells,ihd,hbj]
     exact rest _ (by simp [hb]) (by simp [j12]) (by simp [i13]) (by simp [i14]) (by simp) (by simp;omega) (by simp [jr])
   ·have:i=L.length:=by omega
    subst this
    rw [List.take_length] at i13 iu
    have hWl:(L.filter r.leftB).length≤2000:=Nat.le_trans (List.length_filter_le _ _) hLl
    have hWx:∀ x∈L.filter r.leftB,x<g.ts.length:=fun x hx=>hxL x (List.mem_filter.1 hx).1
    generalize L.filter r.leftB=W at *
    simp [i14,j12]
    simp [j8]
    generalize hKK:kSeq E noYF _ _=KK
    have rest:∀ s1:St,s1.tm 8 = .bool (q.1 || W.length == 0)→s1.tm 13 = .osl (2 * u+1) u 0 W.length 1→s1.tm 9 = .osl (2 * uo+1) uo 0 q.2.length 1→s1.tm 10 = .int .i64 k→s1.ob=s.ob→s.nx≤s1.nx→s1.ro=ub→KK .nrm s1:=by
     intro s1 k8 k13 k9 k10 kob knx kr
     rw [← hKK]
     have non:(W.length == 1 && decide (0≤W.headD 0))=false→r.sole g t l (k+1)=(q.1 || W.length == 0,q.2):=fun h=>by rw [hstep,h];rfl
     match W,hstep,non with
     | [],hstep,non =>
      simp [k8,k9,k10,k13,hwk]
      rw [non rfl]
      exact ⟨hlt,by simp,⟨uo,rfl,by rw [kob];exact iho,hlo1,by omega⟩,by rw [kob];exact ihh,by rw [kob];exact ihd,by omega⟩
     | [w],hstep,non =>
      have iu':s.ob (2 * u+1)=some ⟨u,.cells [.int .i64 w]⟩:=iu
      by_cases hw0:0≤w
      ·have hio:=idxN (l:=2 * u+1) (u:=u) (n:=1) (kk:=.i64) (X:=0) rfl (by decide)
       simp [hw0] at hstep
       simp [k8,k9,k10,k13,hwk,hio,objCells,kob,iu',hw0]
       have z1:¬ 2 * uo=2 * (s1.nx+64+64+64+64+64+64+64+64+64+64+64+64+64):=by omega
       have z2:¬ 2 * uo=2 * (s1.nx+64+64+64+64+64+64+64+64+64+64+64+64+64+64):=by omega
       have z4:¬ 2 * ub=2 * (s1.nx+64+64+64+64+64+64+64+64+64+64+64+64+64):=by omega
       have z5:¬ 2 * ub=2 * (s1.nx+64+64+64+64+64+64+64+64+64+64+64+64+64+64):=by omega
       have z6:=hLd (s1.nx+64+64+64+64+64+64+64+64+64+64+64+64+64) (by omega)
       have z7:=hLd (s1.nx+64+64+64+64+64+64+64+64+64+64+64+64+64+64) (by omega)
       have z8:=hLd uo (by omega)
       have z10:¬ 2 * ub=2 * uo:=by omega
       refine kS_buildSlO (cs:=[.int .i64 w]) (by simp [splice]) rfl rfl ?_
       simp
       refine kS_appendO (l:=2 * uo+1) (u:=uo) (n:=q.2.length) (cs:=q.2.flatMap intC) (ys:=[.int .i64 w]) (by simp [k9]) (by simp [slCells,objCells]) (by simp [z1,kob,iho]) (by simp) (by simp [kr];omega) (by rw [flatMap_len intC_len];omega) (by decide) rfl (by simp;omega) (by simp;omega) ?_
       simp [k8,k10,hwk,kob]
       rw [hstep]
       refine ⟨hlt,by simp,⟨(s1.nx+64+64+64+64+64+64+64+64+64+64+64+64+64+64),by simp,?_,by omega,by omega⟩,?_,?_,by omega⟩
       ·simp [show intC w=[.int .i64 w] from rfl]
        exact List.take_of_length_le (by rw [flatMap_len intC_len];omega)
       ·simp [z4,z5,z10,kob,ihh,histC]
       ·simp [z6,z7,z8,kob,ihd]
      ·have hio:=idxN (l:=2 * u+1) (u:=u) (n:=1) (kk:=.i64) (X:=0) rfl (by decide)
       simp [k8,k9,k10,k13,hwk,hio,objCells,kob,iu',hw0]
       rw [non (by simp [hw0])]
       exact ⟨hlt,by simp,⟨uo,rfl,iho,hlo1,by omega⟩,ihh,ihd,by omega⟩
     | w::w'::W',hstep,non =>
      have hl1:((W'.length:Int)+1+1 == 1)=false:=by simp;omega
      rw [List.length_cons,List.length_cons] at k13
      simp [k8,k9,k10,k13,hwk,hl1]
      rw [non (by simp)]
      exact ⟨hlt,by simp,⟨uo,rfl,by rw [kob];exact iho,hlo1,by omega⟩,by rw [kob];exact ihh,by rw [kob];exact ihd,by omega⟩
    cases hq1:q.1
    ·simp [i13]
     exact rest _ (by simp [hq1] <;> rw [Bool.eq_iff_iff] <;> simp) (by simp [i13]) (by simp [j9]) (by simp [j10]) (by simp) (by simp;omega) (by simp [jr])
    ·simp
     exact rest _ (by simp [hq1] <;> rw [Bool.eq_iff_iff] <;> simp) (by simp [i13]) (by simp [j9]) (by simp [j10]) (by simp) (by simp;omega) (by simp [jr])
  ·rw [hq] at hstep
   simp only [if_true] at hstep
   simp [h10,f0,f1,hlt,objCells,hh,histC,ht,idx_slOf txnC_len,idx_slOf opC_len,hlo,hkd,hq,q2,hwk]
   rw [hstep]
   refine ⟨h8,⟨uo,h9,by simp [q4,hoo],hlo1,by omega⟩,by simp [q5,hd],by omega⟩
 ·have:k=l.length:=by omega
  subst this
  simp [h10,f0,f1,objCells,hh,histC,ht,idx_slOf txnC_len,hlo]
  rw [← hQ]
  refine tupE (ns:=[6,7]) (vs:=[.bool (r.sole g t l l.length).1,.osl (2 * uo+1) uo 0 (r.sole g t l l.length).2.length 1]) (fun r h=>h) (by simp [fd]) (by simp [h8,h9]) (by simp) (by simp)
   ⟨outOk_pure rfl,outOk_sl rfl (slOut_osl (cs:=(r.sole g t l l.length).2.flatMap intC) (by simp [hoo]) (flatMap_len intC_len _ |>.trans (by omega)) (by simp [fr];omega) (ints_pure _)),trivial⟩
end Go.Pv.T

/- The reference's Raw, walked. -/
namespace Go.Pv.T
open Go Go.Pv
theorem kD_mkSlF {E:Env} {st:St} {ub:Nat} {K:List FP→St→Prop} {d:Option Nat} {nm:Bool} {r:List AOpr} {sz bytes n:Nat} {zero:List V} {x y:A} (hn0:0<n) (hl:eval E st.tm x = .int .i64 (n:Int)) (hc:eval E st.tm y = .int .i64 (n:Int)) (hb:n * bytes≤140737488355328) (hn:n≤140737488355328) (hz:zero.length=sz) (h0:0<sz)
 (h:kDApp E r K (eval E st.tm) (.mkSl false sz bytes zero x y) st d ub { v:=.osl (objName d nm st.fb ub) ub 0 n sz,obs:=[(objName d nm st.fb ub,⟨ub,.cells (repl n zero)⟩)] }):wpDraw E (⟨d,.mkSl false sz bytes zero x y,none,nm⟩::r) st ub K:=by
 rw [wpDraw_of rfl]
 simp only [aop,hl,hc]
 rw [if_pos (by refine ⟨by omega,by omega,?_,by omega,hz,h0⟩;rw [← Int.natCast_mul];exact Int.ofNat_le.2 hb)]
 rw [if_neg (by intro h;omega)]
 simp only [mkObj,wpD_some,name_eq,Int.toNat_natCast]
 exact h
theorem splice_put (bs:List Bool) (k:Nat) (b:Bool) (h:k<bs.length):splice (bs.map V.bool) k [.bool b]=(bs.set k b).map V.bool:=by
 unfold splice
 rw [List.map_set,List.set_eq_take_append_cons_drop,if_pos (by simpa using h)]
 simp
def fillB (l:List Bool) (i:Nat):List Bool:=l.take i++List.replicate (l.length - i) false
theorem fillB_len (l:List Bool) {i:Nat} (h:i≤l.length):(fillB l i).length=l.length:=by simp [fillB];omega
theorem fillB_zero (l:List Bool):fillB l 0=List.replicate l.length false:=by simp [fillB]
theorem fillB_all (l:List Bool):fillB l l.length=l:=by simp [fillB]
theorem fillB_succ (l:List Bool) {i:Nat} (h:i<l.length):(fillB l i).set i l[i]=fillB l (i+1):=by
 unfold fillB
 have h1:i - (l.take i).length=0:=by simp;omega
 rw [show l.length - i=(l.length - (i+1))+1 by omega,List.replicate_succ,List.set_append_right _ _ (by simp;omega),h1,List.set_cons_zero,List.take_succ_eq_append_getElem h,List.append_assoc]
 rfl
theorem RwS.learn_off {r:RwS} {t:Nat} (h:r.c.getD t false=false) (l:List Int):r.learn t l=r:=by
 rw [RwS.learn_all,h];rfl
theorem RwS.learn_cons {r:RwS} {t:Nat} (h:r.c.getD t false=true) (x:Int) (xs:List Int):r.learn t (x::xs)=(if r.c.getD x.toNat false then r else { r with c:=r.c.set x.toNat true,more:=true }).learn t xs:=by
 simp only [RwS.learn,h,if_true]
 split <;> rfl
theorem kS_obsE {Yf:YF} {f:FuncId} {xs:List A} {st:St} {ub:Nat} {K:St→Nat→Prop} {d:Option Nat} {nm:Bool} {vs:List V} {P:V→Prop} (hx:xs.map (eval E st.tm)=vs) (hs:E.sh nm f=false) (hp:(vs.all fun v=>v.strip.pureTop)=false)
 (he:∃ v,EvO E f vs st.ob st.tk ((st.fb+d.getD 0+1) * 1024) ub v∧P v) (h:∀ v,P v→wpD (retA ub v) (kApp K st d ub)):wpStep E Yf ⟨d,.call f xs,none,nm⟩ st ub K:=by
 obtain ⟨v,hv,hP⟩:=he
 exact kS_callO hx hs hp hv (h v hP)
theorem retBS {ub:Nat} {v:V} {a1 b:Bool} {n1:Nat} {c1:List V} {K:Delta→Prop} (hv:TupS [.bool b,.sl none a1 n1 c1] v)
 (h:∀ t1 add,K { v:=.tup [.bool b,.sl t1 a1 n1 c1],add:=add }):wpD (retA ub v) K:=by
 refine retTup hv rfl fun ws add hw=>?_
 obtain ⟨z,x,rfl,h3,h1⟩:=map2 hw
 obtain ⟨t1,rfl⟩:=strip1_sl h1
 obtain rfl:=strip1_bool h3
 exact h t1 add
theorem kSeq_seq {Yf:YF} {b c:C} {Q:Ex→St→Prop}:kSeq E Yf (.seq b c) Q=kSeq E Yf b (kSeq E Yf c Q):=by
 funext e s
 cases e <;> rfl
theorem sole_lt {r:RwS} {g:Hist'} {t:Nat} {l:List Op'}:∀ k,∀ x∈(r.sole g t l k).2,0≤x∧x<g.ts.length
 | 0,x,h=>by simp [RwS.sole] at h
 | k+1,x,h=>by
  simp only [RwS.sole] at h
  split at h
  ·split at h
   ·exact sole_lt k x h
   ·simp only at h
    split at h
    ·rename_i h1
     simp only [Bool.and_eq_true,decide_eq_true_eq,beq_iff_eq] at h1
     rcases List.mem_append.1 h with h | h
     ·exact sole_lt k x h
     ·rw [List.mem_singleton.1 h]
      refine ⟨h1.2,?_⟩
      cases hl:r.left g t k with
      | nil=>rw [hl] at h1;simp at h1
      | cons y ys =>
       have hm:y∈r.left g t k:=by rw [hl];exact List.mem_cons_self ..
       exact ofH_lt (List.mem_filter.1 hm).1
    ·exact sole_lt k x h
  ·exact sole_lt k x h
structure RwAt (g:Hist') (r:RwS) (st:St):Prop where
 cl:r.c.length=g.ts.length
 dl:r.d.length=g.ts.length
 h:st.ob 2=some ⟨0,.cells (histC g)⟩
 c:st.ob 36=some ⟨448,.cells (r.c.map V.bool)⟩
 d:st.ob 44=some ⟨704,.cells (r.d.map V.bool)⟩
 t1:st.tm 1 = .ptr 2 0 0
 t5:st.tm 5 = .osl 36 448 0 g.ts.length 1
 t6:st.tm 6 = .osl 44 704 0 g.ts.length 1
 t8:st.tm 8 = .bool r.hop
 t9:st.tm 9 = .bool r.more
 df:st.df=[]
 ro:st.ro=0
 nx:768≤st.nx
def RawR (r:RwS) (v:V):Prop:=TupS [.sl none false r.c.length (r.c.map V.bool),.sl none false r.d.length (r.d.map V.bool),.bool r.hop] v
set_option maxRecDepth 100000 in
theorem ev93 {g:Hist'} (hs:Small g) (hn0:0<g.ts.length):∃ v,Ev E 93 [.agg (histC g)] v∧RawR (RwS.raw g) v:=by
 have hts:=hs.ts
 refine Ev_wpE (af:=F93) rfl (by decide) ?_
 obtain ⟨Q,hQ⟩:∃ Q,RawR (RwS.raw g)=Q:=⟨_,rfl⟩
 rw [hQ]
 simp [F93,histC,objCells]
 refine kD_mkSlF (n:=g.ts.length) hn0 (by simp) (by simp) (by omega) (by omega) rfl (by decide) ?_
 simp [objCells]
 refine kD_mkSlF (n:=g.ts.length) hn0 (by simp) (by simp) (by omega) (by omega) rfl (by decide) ?_
 simp [repl_false]
 refine ⟨by simp [drawOk,indep,disj,fpOf,rdOb,rdTk,lOf,Delta.wo,Delta.wt];decide,?_⟩
 refine wpC_gen fun st hst=>?_
 obtain ⟨fc,hfc⟩:∃ fc,(g.ts.map fun t=>t.f == 1)=fc:=⟨_,rfl⟩
 obtain ⟨fd,hfd⟩:∃ fd,(g.ts.map fun t=>t.f == 2)=fd:=⟨_,rfl⟩
 have hcl:fc.length=g.ts.length:=by rw [← hfc];simp
 have hdl:fd.length=g.ts.length:=by rw [← hfd];simp
 have g1:st.tm 1 = .ptr 2 0 0:=by rw [hst];simp
 have g5:st.tm 5 = .osl 36 448 0 g.ts.length 1:=by rw [hst];simp
 have g6:st.tm 6 = .osl 44 704 0 g.ts.length 1:=by rw [hst];simp
 have g7:st.tm 7 = .int .i64 0:=by rw [hst];simp
 have p1:st.ob 2=some ⟨0,.cells (histC g)⟩:=by rw [hst];simp [histC]
 have pc:st.ob 36=some ⟨448,.cells ((fillB fc 0).map V.bool)⟩:=by rw [hst,fillB_zero,hcl];simp
 have pd:st.ob 44=some ⟨704,.cells ((fillB fd 0).map V.bool)⟩:=by rw [hst,fillB_zero,hdl];simp
 have gd:st.df=[]:=by rw [hst];simp
 have gr:st.ro=0:=by rw [hst];simp
 have gn:768≤st.nx:=by rw [hst];simp
 clear hst
 obtain ⟨fin,hfin⟩:∃ fin,RwS.iter g (2 * g.ts.length+1) (RwS.init g)=fin:=⟨_,rfl⟩
 have hmo:fin.more=false:=by
  obtain ⟨h0,p0⟩:=Alike.init g
  have h1:=(Alike.iter (g:=g) (2 * g.ts.length+1) h0 p0).1.2.2.2.2.2.1
  rw [known_more,hfin] at h1
  exact h1.symm
 have hraw:RwS.raw g = { fin with hop:=fin.hopTo g.ts.length }:=by unfold RwS.raw;rw [hfin]
 rw [hraw] at hQ
 clear hraw
 generalize hKK:kSeq E noYF _ _=KK
 have rest:∀ st1:St,st1.ob 2=some ⟨0,.cells (histC g)⟩→st1.ob 36=some ⟨448,.cells (fc.map V.bool)⟩→st1.ob 44=some ⟨704,.cells (fd.map V.bool)⟩→st1.tm 1 = .ptr 2 0 0→st1.tm 5 = .osl 36 448 0 g.ts.length 1→st1.tm 6 = .osl 44 704 0 g.ts.length 1→st1.df=[]→st1.ro=0→768≤st1.nx→KK .nrm st1:=by
  intro st1 r2 r36 r44 r1 r5 r6 rd rr rn
  rw [← hKK]
  clear hKK
  simp
  generalize hK2:kSeq E noYF _ _=K2
  have rest2:∀ st2:St,RwAt g fin st2→K2 .nrm st2:=by
   intro s sA
   rw [← hK2]
   clear hK2
   simp
   refine wp_loopUp [(8,8),(14,14),(129,148)] g.ts.length (fun i s=>s.tm 14 = .int .i64 i∧s.tm 8 = .bool (fin.hopTo i)∧s.ob 2=some ⟨0,.cells (histC g)⟩∧s.ob 36=some ⟨448,.cells (fin.c.map V.bool)⟩∧s.ob 44=some ⟨704,.cells (fin.d.map V.bool)⟩) rfl rfl ⟨by simp,by simp [sA.t8,RwS.hopTo],by simp [sA.h],by simp [sA.c],by simp [sA.d]⟩ ?_
   rintro i w hi ⟨h14,w8,wh,wc,wd⟩ f
   have w1:w.tm 1 = .ptr 2 0 0:=by rw [f.t 1 (by simp)];simp [sA.t1]
   have w5:w.tm 5 = .osl 36 448 0 g.ts.length 1:=by rw [f.t 5 (by simp)];simp [sA.t5]
   have w6:w.tm 6 = .osl 44 704 0 g.ts.length 1:=by rw [f.t 6 (by simp)];simp [sA.t6]
   have wdf:w.df=[]:=by rw [f.d];simp [sA.df]
   have wr:w.ro=0:=by rw [f.r];simp [sA.ro]
   clear f
   by_cases hlt:i<g.ts.length
   ·have hwk:=wrapU hlt (by omega)
    have hic:i<fin.c.length:=by rw [sA.cl];exact hlt
    have hid:i<fin.d.length:=by rw [sA.dl];exact hlt
    have hio:=idxN (l:=36) (u:=448) (n:=g.ts.length) (kk:=.i64) (X:=(i:Int)) rfl hlt
    have hjo:=idxN (l:=44) (u:=704) (n:=g.ts.length) (kk:=.i64) (X:=(i:Int)) rfl hlt
    have hbi:=bools_at fin.c hic
    have hbj:=bools_at fin.d hid
    have hgc:fin.c.getD i false=fin.c[i]:=by simp [List.getD_eq_getElem?_getD,hic]
    have hgd:fin.d.getD i false=fin.d[i]:=by simp [List.getD_eq_getElem?_getD,hid]
    have hst:fin.hopTo (i+1)=(fin.hopTo i || (fin.c[i] && fin.d[i])):=by simp only [RwS.hopTo,hgc,hgd]
    cases hh:fin.hopTo i <;> cases hc:fin.c[i] <;> cases hd:fin.d[i] <;> (rw [hh] at w8;simp [h14,w8,w1,wh,w5,w6,objCells,histC,hlt,hio,hjo,wc,wd,hic,hid,hc,hd,hwk];try (rw [hst,hh,hc,hd];simp))
   ·have:i=g.ts.length:=by omega
    subst this
    simp [h14,w8,w1,wh,objCells,histC,w5,w6]
    rw [← hQ]
    refine tupE (ns:=[2,3,4]) (vs:=[.osl 36 448 0 g.ts.length 1,.osl 44 704 0 g.ts.length 1,.bool (fin.hopTo g.ts.length)]) (fun r h=>h) (by simp [wdf]) (by simp) (by simp) (by simp) ⟨?_,?_,outOk_pure rfl,trivial⟩
    ·rw [← sA.cl]
     exact outOk_sl rfl (slOut_osl (cs:=fin.c.map V.bool) (by simp [wc]) (by simp) (by simp [wr]) (by simp [V.pureLeaf]))
    ·rw [← sA.dl]
     exact outOk_sl rfl (slOut_osl (cs:=fin.d.map V.bool) (by simp [wd]) (by simp) (by simp [wr]) (by simp [V.pureLeaf]))
  refine wp_loopK (n:=2 * g.ts.length+1) (fun k st=>∃ r,RwAt g r st∧RwS.iter g k r=fin) ⟨RwS.init g,⟨?_,?_,?_,?_,?_,?_,?_,?_,?_,?_,?_,?_,?_⟩,hfin⟩ ?_
  ·simp [RwS.init]
  ·simp [RwS.init]
  ·simpa using r2
  ·simpa [RwS.init,hfc] using r36
  ·simpa [RwS.init,hfd] using r44
  ·simpa using r1
  ·simpa using r5
  ·simpa using r6
  ·simp [RwS.init]
  ·simp [RwS.init]
  ·simpa using rd
  ·simpa using rr
  ·simp;omega
  clear r2 r36 r44 r1 r5 r6 rd rr rn st1
  rintro k st ⟨r,hA,hit⟩
  cases hm:r.more
  ·have:r=fin:=by
    rw [← hit]
    cases k <;> simp [RwS.iter,hm]
   subst this
   have a9:=hA.t9
   rw [hm] at a9
   simp [a9]
   exact rest2 _ ⟨hA.cl,hA.dl,by simp [hA.h],by simp [hA.c],by simp [hA.d],by simp [hA.t1],by simp [hA.t5],by simp [hA.t6],by simp [hA.t8],by simp [hA.t9],by simp [hA.df],by simp [hA.ro],by simp;have:=hA.nx;omega⟩
  ·obtain ⟨k',rfl⟩:∃ k',k=k'+1:=by
    cases k with
    | zero =>
     exfalso
     simp only [RwS.iter] at hit
     rw [hit,hmo] at hm
     cases hm
    | succ k'=>exact ⟨k',rfl⟩
   simp only [RwS.iter,hm,if_true] at hit
   have a9:=hA.t9
   rw [hm] at a9
   simp [a9]
   refine wp_loopUp [(8,13),(51,128)] g.ts.length (fun i st=>st.tm 10 = .int .i64 i∧RwAt g (r.round g i) st) rfl rfl ⟨by simp,hA.cl,hA.dl,by simp [RwS.round,hA.h],by simp [RwS.round,hA.c],by simp [RwS.round,hA.d],by simp [hA.t1],by simp [hA.t5],by simp [hA.t6],by simp [RwS.round,hA.t8],by simp [RwS.round],by simp [hA.df],by simp [hA.ro],by simp;have:=hA.nx;omega⟩ ?_
   clear hA
   rintro i st hi ⟨h10,hA⟩ _
   have a1:=hA.t1
   have a5:=hA.t5
   have a6:=hA.t6
   have ah:=hA.h
   by_cases hlt:i<g.ts.length
   ·have hwk:=wrapU hlt (by omega)
    have hstep:r.round g (i+1)=(r.round g i).txn g i (g.ts[i]).f (g.ts[i]).ops:=by simp only [RwS.round,List.getElem?_eq_getElem hlt]
    generalize r.round g i=r1 at *
    have e136:=fun (ob:Nat→Option Obj') (tk:Nat→Bool) (base ub:Nat) (hob:ob 44=some ⟨704,.cells (r1.d.map V.bool)⟩)=>evo136 (tk:=tk) (base:=base) (ub:=ub) hs hA.dl hlt (Ld:=44) (ud:=704) (fun m _=>by omega) hob
    obtain ⟨v137,e137,hv137⟩:=ev137 hs (i:Int)
    have hfa:(g.ts.flatMap txnC)[i * 3+1]? = some (.int .i64 (g.ts[i]).f):=by rw [fld_at txnC_len g.ts hlt (by decide:1<3)];rfl
    generalize (g.ts[i]).f=fa at *
    have hos:=hs.os _ (List.getElem_mem hlt)
    generalize (g.ts[i]).ops=ops at *
    simp [h10,a1,ah,objCells,histC,hlt]
    refine kS_obsE (vs:=[.agg (histC g),.int .i64 i,.osl 44 704 0 g.ts.length 1]) (by simp [histC,a6]) rfl (by simp [histC];rfl) (e136 _ _ _ _ (by simp [hA.d])) fun v hv=>?_
    refine retBS hv fun t1 add1=>?_
    simp
    have hql:=sole_len (r:=r1) (g:=g) (t:=i) (l:=ops) ops.length
    have hqx:=sole_lt (r:=r1) (g:=g) (t:=i) (l:=ops) ops.length
    unfold RwS.txn at hstep
    generalize r1.sole g i ops ops.length=q at *
    obtain ⟨D,hD⟩:∃ D,(q.1 || !(badH g i).isEmpty)=D:=⟨_,rfl⟩
    rw [hD] at hstep
    generalize hK3:kSeq E noYF _ _=K3
    have rest3:∀ s:St,s.tm 11 = .bool D→s.tm 12 = .sl t1 false q.2.length (q.2.flatMap intC)→s.tm 10 = .int .i64 i→RwAt g r1 s→K3 .nrm s:=by
     intro s s11 s12 s10 sA
     rw [← hK3]
     clear hK3
     simp only [kSeq_seq]
     generalize hK4:kSeq E noYF (C.region [om 13 0]) _=K4
     have rest4:∀ (r2:RwS) (s:St),r2.learn i q.2=r.round g (i+1)→s.tm 12 = .sl t1 false q.2.length (q.2.flatMap intC)→s.tm 10 = .int .i64 i→RwAt g r2 s→K4 .nrm s:=by
      intro r2 s hr2 s12 s10 sA
      rw [← hK4]
      clear hK4 hstep
      simp
      refine wp_loopUp [(9,9),(13,13),(103,128)] q.2.length (fun k s=>s.tm 13 = .int .i64 k∧∃ r3,r3.learn i (q.2.drop k)=r.round g (i+1)∧RwAt g r3 s) rfl rfl ⟨by simp,r2,by simpa using hr2,⟨sA.cl,sA.dl,by simp [sA.h],by simp [sA.c],by simp [sA.d],by simp [sA.t1],by simp [sA.t5],by simp [sA.t6],by simp [sA.t8],by simp [sA.t9],by simp [sA.df],by simp [sA.ro],by simp;have:=sA.nx;try omega⟩⟩ ?_
      clear hr2 sA
      rintro k w hk ⟨h13,r3,hr3,wA⟩ f
      have w12:w.tm 12 = .sl t1 false q.2.length (q.2.flatMap intC):=by rw [f.t 12 (by simp)];simp [s12]
      have w10:w.tm 10 = .int .i64 i:=by rw [f.t 10 (by simp)];simp [s10]
      clear f
      have w5:=wA.t5
      have wc:=wA.c
      have wr:=wA.ro
      have wn:=wA.nx
      have hic:i<r3.c.length:=by rw [wA.cl];exact hlt
      have hio:=idxN (l:=36) (u:=448) (n:=g.ts.length) (kk:=.i64) (X:=(i:Int)) rfl hlt
      have hbi:=bools_at r3.c hic
      have hgd:r3.c.getD i false=r3.c[i]:=by simp [List.getD_eq_getElem?_getD,hic]
      by_cases hkl:k<q.2.length
      ·have hwq:=wrapU hkl (by omega)
       have hiq:=int_at q.2 hkl
       have hqk:=hqx q.2[k] (List.getElem_mem hkl)
       rw [List.drop_eq_getElem_cons hkl] at hr3
       generalize q.2[k]=x at *
       cases hci:r3.c[i]
       ·rw [hci] at hgd hbi
        rw [RwS.learn_off hgd] at hr3
        simp [h13,w12,w10,w5,hkl,hio,objCells,wc,hbi,hci,hwk]
        rw [← hr3]
        exact ⟨hlt,⟨wA.cl,wA.dl,by simp [wA.h],by simp [wA.c],by simp [wA.d],by simp [wA.t1],by simp [wA.t5],by simp [wA.t6],by simp [wA.t8],by simp [wA.t9],by simp [wA.df],by simp [wA.ro],by simp;try omega⟩⟩
       ·rw [hci] at hgd hbi
        rw [RwS.learn_cons hgd] at hr3
        obtain ⟨j,rfl⟩:∃ j:Nat,x=j:=⟨x.toNat,by omega⟩
        have hj:j<g.ts.length:=by omega
        have hjc:j<r3.c.length:=by rw [wA.cl];exact hj
        have hjo:=idxN (l:=36) (u:=448) (n:=g.ts.length) (kk:=.i64) (X:=(j:Int)) rfl hj
        have hbj:=bools_at r3.c hjc
        have hgj:r3.c.getD j false=r3.c[j]:=by simp [List.getD_eq_getElem?_getD,hjc]
        rw [Int.toNat_natCast,hgj] at hr3
        cases hcj:r3.c[j]
        ·rw [hcj] at hr3 hbj
         simp only [Bool.false_eq_true,if_false] at hr3
         have sp:=splice_put r3.c j true hjc
         simp [h13,w12,w10,w5,hkl,hio,objCells,wc,hbi,hci,idx_slT intC_len,hiq,hjo,hbj,hcj,hwq,sp,wr,wA.cl]
         refine ⟨by omega,_,hr3,⟨by simp [wA.cl],wA.dl,by simp [wA.h],by simp,by simp [wA.d],by simp [wA.t1],by simp [wA.t5],by simp [wA.t6],by simp [wA.t8],by simp,by simp [wA.df],by simp [wA.ro],by simp;try omega⟩⟩
        ·rw [hcj] at hr3 hbj
         simp only [if_true] at hr3
         simp [h13,w12,w10,w5,hkl,hio,objCells,wc,hbi,hci,idx_slT intC_len,hiq,hjo,hbj,hcj,hwq]
         refine ⟨r3,hr3,⟨wA.cl,wA.dl,by simp [wA.h],by simp [wA.c],by simp [wA.d],by simp [wA.t1],by simp [wA.t5],by simp [wA.t6],by simp [wA.t8],by simp [wA.t9],by simp [wA.df],by simp [wA.ro],by simp;try omega⟩⟩
      ·have:k=q.2.length:=by omega
       subst this
       rw [List.drop_length] at hr3
       simp only [RwS.learn] at hr3
       simp [h13,w12,w10,hwk]
       rw [← hr3]
       exact ⟨hlt,⟨wA.cl,wA.dl,by simp [wA.h],by simp [wA.c],by simp [wA.d],by simp [wA.t1],by simp [wA.t5],by simp [wA.t6],by simp [wA.t8],by simp [wA.t9],by simp [wA.df],by simp [wA.ro],by simp;try omega⟩⟩
     have b1:=sA.t1
     have b5:=sA.t5
     have b6:=sA.t6
     have b8:=sA.t8
     have bh:=sA.h
     have bd:=sA.d
     have br:=sA.ro
     have bn:=sA.nx
     cases hDc:D
     ·rw [hDc] at hstep s11
      simp [s11]
      exact rest4 r1 _ hstep.symm (by simp [s12]) (by simp [s10]) ⟨sA.cl,sA.dl,by simp [sA.h],by simp [sA.c],by simp [sA.d],by simp [sA.t1],by simp [sA.t5],by simp [sA.t6],by simp [sA.t8],by simp [sA.t9],by simp [sA.df],by simp [sA.ro],by simp;try omega⟩
     ·rw [hDc] at hstep s11
      simp only [if_true] at hstep
      unfold RwS.fails at hstep
      by_cases f1:fa=1
      ·rw [if_pos f1] at hstep
       subst f1
       simp [s11,b1,bh,objCells,histC,s10,hlt,idx_slOf txnC_len,hfa]
       exact rest4 _ _ hstep.symm (by simp [s12]) (by simp [s10]) ⟨sA.cl,sA.dl,by simp [sA.h],by simp [sA.c],by simp [sA.d],by simp [sA.t1],by simp [sA.t5],by simp [sA.t6],by simp,by simp [sA.t9],by simp [sA.df],by simp [sA.ro],by simp;try omega⟩
      ·rw [if_neg f1] at hstep
       have f1':(fa == 1)=false:=by simpa using f1
       by_cases f3:fa=3
       ·rw [if_pos f3] at hstep
        subst f3
        have hil:i<r1.d.length:=by rw [sA.dl];exact hlt
        have hio:=idxN (l:=44) (u:=704) (n:=g.ts.length) (kk:=.i64) (X:=(i:Int)) rfl hlt
        have hbi:=bools_at r1.d hil
        have hgd:r1.d.getD i false=r1.d[i]:=by simp [List.getD_eq_getElem?_getD,hil]
        rw [hgd] at hstep
        cases hdi:r1.d[i]
        ·rw [hdi] at hbi hstep
         simp only [Bool.false_eq_true,if_false] at hstep
         have sp:=splice_put r1.d i true hil
         simp [s11,b1,bh,b6,bd,br,objCells,histC,s10,hlt,idx_slOf txnC_len,hfa,hio,hbi,sp,sA.dl,hdi]
         refine ⟨by omega,rest4 _ _ hstep.symm (by simp [s12]) (by simp [s10]) ⟨sA.cl,by simp [sA.dl],by simp [sA.h],by simp [sA.c],by simp,by simp [sA.t1],by simp [sA.t5],by simp [sA.t6],by simp [sA.t8],by simp,by simp [sA.df],by simp [sA.ro],by simp;try omega⟩⟩
        ·rw [hdi] at hbi hstep
         simp only [if_true] at hstep
         simp [s11,b1,bh,b6,bd,objCells,histC,s10,hlt,idx_slOf txnC_len,hfa,hio,hbi]
         exact rest4 r1 _ hstep.symm (by simp [s12]) (by simp [s10]) ⟨sA.cl,sA.dl,by simp [sA.h],by simp [sA.c],by simp [sA.d],by simp [sA.t1],by simp [sA.t5],by simp [sA.t6],by simp [sA.t8],by simp [sA.t9],by simp [sA.df],by simp [sA.ro],by simp;try omega⟩
       ·rw [if_neg f3] at hstep
        have f3':(fa == 3)=false:=by simpa using f3
        simp [s11,b1,bh,objCells,histC,s10,hlt,idx_slOf txnC_len,hfa,f1',f3']
        exact rest4 r1 _ hstep.symm (by simp [s12]) (by simp [s10]) ⟨sA.cl,sA.dl,by simp [sA.h],by simp [sA.c],by simp [sA.d],by simp [sA.t1],by simp [sA.t5],by simp [sA.t6],by simp [sA.t8],by simp [sA.t9],by simp [sA.df],by simp [sA.ro],by simp;try omega⟩
    have an:=hA.nx
    cases hq1:q.1
    ·simp [h10,a1,ah,objCells,histC]
     refine kS_ev e137 (by simp [histC]) rfl (by simp [histC]) ?_
     refine retSl hv137 fun t2 add2=>?_
     simp
     refine rest3 _ ?_ (by simp) (by simp [h10]) ⟨hA.cl,hA.dl,by simp [hA.h],by simp [hA.c],by simp [hA.d],by simp [hA.t1],by simp [hA.t5],by simp [hA.t6],by simp [hA.t8],by simp [hA.t9],by simp [hA.df],by simp [hA.ro],by simp;try omega⟩
     rw [← hD,hq1]
     cases badH g i <;> simp
    ·simp
     refine rest3 _ ?_ (by simp) (by simp [h10]) ⟨hA.cl,hA.dl,by simp [hA.h],by simp [hA.c],by simp [hA.d],by simp [hA.t1],by simp [hA.t5],by simp [hA.t6],by simp [hA.t8],by simp [hA.t9],by simp [hA.df],by simp [hA.ro],by simp;try omega⟩
     rw [← hD,hq1]
     simp
   ·have:i=g.ts.length:=by omega
    subst this
    simp [h10,a1,ah,objCells,histC]
    exact ⟨k',Nat.lt_succ_self _,_,⟨hA.cl,hA.dl,by simp [hA.h],by simp [hA.c],by simp [hA.d],by simp [hA.t1],by simp [hA.t5],by simp [hA.t6],by simp [hA.t8],by simp [hA.t9],by simp [hA.df],by simp [hA.ro],by simp;have:=hA.nx;omega⟩,hit⟩
 refine wp_loopUp [(7,7),(23,49)] g.ts.length (fun i s=>s.tm 7 = .int .i64 i∧s.ob 2=some ⟨0,.cells (histC g)⟩∧s.ob 36=some ⟨448,.cells ((fillB fc i).map V.bool)⟩∧s.ob 44=some ⟨704,.cells ((fillB fd i).map V.bool)⟩∧768≤s.nx) rfl rfl ⟨g7,p1,pc,pd,gn⟩ ?_
 rintro i s hi ⟨h7,o1,oc,od,hnx⟩ f
 have f1:s.tm 1 = .ptr 2 0 0:=by rw [f.t 1 (by simp),g1]
 have f5:s.tm 5 = .osl 36 448 0 g.ts.length 1:=by rw [f.t 5 (by simp),g5]
 have f6:s.tm 6 = .osl 44 704 0 g.ts.length 1:=by rw [f.t 6 (by simp),g6]
 have fdf:s.df=[]:=by rw [f.d,gd]
 have fr:s.ro=0:=by rw [f.r,gr]
 clear f
 by_cases hlt:i<g.ts.length
 ·have hw:=wrapU hlt (by omega)
  obtain ⟨t,ht⟩:∃ t,g.ts[i]=t:=⟨_,rfl⟩
  have hfa:(g.ts.flatMap txnC)[i * 3+1]? = some (.int .i64 t.f):=by rw [fld_at txnC_len g.ts hlt (by decide:1<3),ht];rfl
  have hio1:=idxN (l:=36) (u:=448) (n:=g.ts.length) (kk:=.i64) (X:=(i:Int)) rfl hlt
  have hio2:=idxN (l:=44) (u:=704) (n:=g.ts.length) (kk:=.i64) (X:=(i:Int)) rfl hlt
  have e1:=fillB_succ fc (i:=i) (by omega)
  have e2:=fillB_succ fd (i:=i) (by omega)
  have c1:fc[i]'(by omega)=(t.f == 1):=by simp [← hfc,ht]
  have c2:fd[i]'(by omega)=(t.f == 2):=by simp [← hfd,ht]
  have l1:=fillB_len fc (i:=i) (by omega)
  have l2:=fillB_len fd (i:=i) (by omega)
  rw [c1] at e1
  rw [c2] at e2
  have s1:=splice_put (fillB fc i) i (t.f == 1) (by omega)
  have s2:=splice_put (fillB fd i) i (t.f == 2) (by omega)
  rw [e1] at s1
  rw [e2] at s2
  simp [h7,f1,o1,objCells,histC,hlt,idx_slOf txnC_len,hfa,f5,f6,hio1,hio2,oc,od,l1,l2,fr]
  exact ⟨by omega,by omega,hw,s1,s2⟩
 ·have:i=g.ts.length:=by omega
  subst this
  simp [h7,f1,o1,objCells,histC]
  rw [← hcl,fillB_all] at oc
  rw [← hdl,fillB_all] at od
  exact rest _ (by simp [o1]) (by simp [oc]) (by simp [od]) (by simp [f1]) (by simp [f5]) (by simp [f6]) (by simp [fdf]) (by simp [fr]) (by simp;omega)
end Go.Pv.T

/- The reference's Raw of no transactions; its Must. -/
namespace Go.Pv.T
open Go Go.Pv
theorem kD_mkSlZ {E:Env} {st:St} {ub:Nat} {K:List FP→St→Prop} {d:Option Nat} {nm:Bool} {r:List AOpr} {sz bytes:Nat} {zero:List V} {x y:A} (hl:eval E st.tm x = .int .i64 0) (hc:eval E st.tm y = .int .i64 0) (hz:zero.length=sz) (h0:0<sz)
 (h:kDApp E r K (eval E st.tm) (.mkSl false sz bytes zero x y) st d ub { v:=.sl (some (ub,sz)) false 0 [],add:=[ub] }):wpDraw E (⟨d,.mkSl false sz bytes zero x y,none,nm⟩::r) st ub K:=by
 rw [wpDraw_of rfl]
 simp only [aop,hl,hc]
 rw [if_pos (by refine ⟨by omega,by omega,by omega,by omega,hz,h0⟩),if_pos (by simp),wpD_some]
 exact h
set_option maxRecDepth 100000 in
theorem ev93z {g:Hist'} (hn:g.ts=[]):∃ v,Ev E 93 [.agg (histC g)] v∧RawR (RwS.raw g) v:=by
 have hraw:RwS.raw g=⟨[],[],false,false⟩:=by
  unfold RwS.raw RwS.init
  simp [hn,RwS.iter,RwS.round,RwS.hopTo]
 rw [hraw]
 refine Ev_wpE (af:=F93) rfl (by decide) ?_
 have hsl:slOf g.tn txnC g.ts = .sl none g.tn 0 []:=by rw [hn];rfl
 simp [F93,histC,objCells,hsl]
 refine kD_mkSlZ (by simp) (by simp) rfl (by decide) ?_
 simp [objCells]
 refine kD_mkSlZ (by simp) (by simp) rfl (by decide) ?_
 simp
 refine ⟨by simp [drawOk,indep,disj,fpOf,rdOb,rdTk,lOf,Delta.wo,Delta.wt];decide,?_⟩
 refine wp_unroll 1 ?_
 simp [objCells]
 refine wp_unroll 2 ?_
 simp [objCells]
 refine wp_unroll 1 ?_
 simp [objCells]
 refine wp_unroll 1 ?_
 simp [objCells]
 exact tupE (ns:=[2,3,4]) (vs:=[.sl (some (448,1)) false 0 [],.sl (some (704,1)) false 0 [],.bool false]) (fun r h=>h) (by simp) (by simp) (by simp) (by simp) ⟨outOk_sl rfl (slOut_sl _ _ _ _ _),outOk_sl rfl (slOut_sl _ _ _ _ _),outOk_pure rfl,trivial⟩
theorem ev93' {g:Hist'} (hs:Small g):∃ v,Ev E 93 [.agg (histC g)] v∧RawR (RwS.raw g) v:=by
 by_cases h:g.ts=[]
 ·exact ev93z h
 ·exact ev93 hs (List.length_pos_iff.2 h)
theorem bl_map (l:List Bool):l.map V.bool=l.flatMap blC:=by
 induction l with
 | nil=>rfl
 | cons a l ih=>rw [List.map_cons,List.flatMap_cons,ih];rfl
def TokL (tk:Nat→Bool) (nx:Nat) (v:V) (l:List Int) (u:Nat):Prop:=v = .sl (some (u,1)) false l.length (l.flatMap intC)∧tk u=true∧u<nx
def RwS.ofI (b:List Bool) (l:List Int):List Int:=l.filter fun t=>b.getD t.toNat false
def mustX (g:Hist'):List Int:=if (RwS.raw g).hop then [] else RwS.ofI (RwS.raw g).c (infosH g)
def mustY (g:Hist'):List Int:=if (RwS.raw g).hop then [] else RwS.ofI (RwS.raw g).d (infosH g)
def RMustR (g:Hist') (v:V):Prop:=TupS [.sl none false (mustX g).length ((mustX g).flatMap intC),.sl none false (mustY g).length ((mustY g).flatMap intC),.bool (RwS.raw g).hop] v
set_option maxRecDepth 100000 in
theorem ev50 {g:Hist'} (hs:Small g):∃ v,Ev E 50 [.agg (histC g)] v∧RMustR g v:=by
 have hts:=hs.ts
 obtain ⟨v93,e93,h93⟩:=ev93' hs
 have e52:=ev52 g hts
 have hal:=(known_raw g).1
 have hcl:=hal.1
 have hdl:=hal.2.1
 have hll:(infosH g).length≤1000:=by
  have:=numsTo_len isInfo g.ts g.ts.length
  unfold infosH
  omega
 have hlx:∀ x∈infosH g,0≤x∧x<g.ts.length:=(numsTo_lt (p:=isInfo) (ts:=g.ts) g.ts.length (Nat.le_refl _)).1
 obtain ⟨Q,hQ⟩:∃ Q,RMustR g=Q:=⟨_,rfl⟩
 rw [hQ]
 unfold RMustR mustX mustY at hQ
 unfold RawR at h93
 clear hal
 generalize RwS.raw g=r at *
 generalize infosH g=l at *
 rw [bl_map,bl_map] at h93
 refine Ev_wpE (af:=F50) rfl (by decide) ?_
 simp [F50,histC,objCells]
 refine kS_ev e93 (by simp [histC]) rfl (by simp [histC]) ?_
 refine retSSB h93 fun t1 t2 add1=>?_
 simp [objCells]
 refine kS_ev e52 (by simp [histC]) rfl (by simp [histC]) ?_
 refine retSl (nl:=false) (n:=l.length) (cs:=l.flatMap intC) ⟨some (0,1),rfl,by simp⟩ fun t3 add3=>?_
 simp
 refine kS_buildSl (cs:=[]) rfl rfl rfl ?_
 simp
 refine kS_buildSl (cs:=[]) rfl rfl rfl ?_
 simp
 refine wpC_gen fun s0 hs0=>?_
 have g5:s0.tm 5 = .sl t1 false r.c.length (r.c.flatMap blC):=by rw [hs0];simp
 have g6:s0.tm 6 = .sl t2 false r.d.length (r.d.flatMap blC):=by rw [hs0];simp
 have g7:s0.tm 7 = .bool r.hop:=by rw [hs0];simp
 have g8:s0.tm 8 = .sl t3 false l.length (l.flatMap intC):=by rw [hs0];simp
 have g9:s0.tm 9 = .sl (some (960,1)) false 0 []:=by rw [hs0];simp
 have g10:s0.tm 10 = .sl (some (1024,1)) false 0 []:=by rw [hs0];simp
 have g11:s0.tm 11 = .int .i64 0:=by rw [hs0];simp
 have gk9:s0.tk 960=true:=by rw [hs0];simp [app_tk,app_tk0]
 have gk10:s0.tk 1024=true:=by rw [hs0];simp [app_tk,app_tk0]
 have gd:s0.df=[]:=by rw [hs0];simp
 have gn:1025≤s0.nx:=by rw [hs0];simp
 clear hs0
 refine wp_loopUp [(9,11),(22,59)] l.length (fun i s=>s.tm 11 = .int .i64 i∧(∃ u w,TokL s.tk s.nx (s.tm 9) (RwS.ofI r.c (l.take i)) u∧TokL s.tk s.nx (s.tm 10) (RwS.ofI r.d (l.take i)) w∧u≠w)∧(r.hop=true→i=0)) rfl rfl
  ⟨g11,⟨960,1024,⟨by simp [g9,RwS.ofI],gk9,by omega⟩,⟨by simp [g10,RwS.ofI],gk10,by omega⟩,by decide⟩,fun _=>rfl⟩ ?_
 rintro i s hi ⟨h11,⟨u,w,⟨hu1,hu2,hu3⟩,⟨hw1,hw2,hw3⟩,huw⟩,hhop⟩ f
 have f5:s.tm 5 = .sl t1 false r.c.length (r.c.flatMap blC):=by rw [f.t 5 (by simp),g5]
 have f6:s.tm 6 = .sl t2 false r.d.length (r.d.flatMap blC):=by rw [f.t 6 (by simp),g6]
 have f7:s.tm 7 = .bool r.hop:=by rw [f.t 7 (by simp),g7]
 have f8:s.tm 8 = .sl t3 false l.length (l.flatMap intC):=by rw [f.t 8 (by simp),g8]
 have fd:s.df=[]:=by rw [f.d,gd]
 clear f
 have fin:∀ s':St,s'.tm 2=s.tm 9→s'.tm 3=s.tm 10→s'.tm 4 = .bool r.hop→s'.df=[]→(r.hop=true∨i=l.length)→kEndE [.t 2,.t 3,.t 4] Q .ret s':=by
  intro s' k9 k10 k7 kd hor
  have ex:RwS.ofI r.c (l.take i)=(if r.hop=true then [] else RwS.ofI r.c l)∧RwS.ofI r.d (l.take i)=(if r.hop=true then [] else RwS.ofI r.d l):=by
   cases hh:r.hop
   ·rw [hh] at hor
    have:i=l.length:=by simpa using hor
    rw [this,List.take_length]
    exact ⟨rfl,rfl⟩
   ·have:=hhop hh
    subst this
    exact ⟨rfl,rfl⟩
  rw [ex.1] at hu1
  rw [ex.2] at hw1
  rw [← hQ]
  refine tupE (ns:=[2,3,4]) (vs:=[s.tm 9,s.tm 10,.bool r.hop]) (fun r h=>h) kd (by simp [k9,k10,k7]) (by simp) (by simp) ?_
  rw [hu1,hw1]
  exact ⟨outOk_sl rfl (slOut_sl _ _ _ _ _),outOk_sl rfl (slOut_sl _ _ _ _ _),outOk_pure rfl,trivial⟩
 by_cases hlt:i<l.length
 ·cases hh:r.hop
  ·have hwk:=wrapU hlt (by omega)
   have hia:=int_at l hlt
   obtain ⟨h0,h1⟩:=hlx l[i] (List.getElem_mem hlt)
   have hxs:RwS.ofI r.c (l.take (i+1))=RwS.ofI r.c (l.take i)++if r.c.getD l[i].toNat false then [l[i]] else []:=by
    unfold RwS.ofI
    rw [List.take_succ_eq_append_getElem hlt,List.filter_append]
    simp only [List.filter_cons,List.filter_nil]
   have hys:RwS.ofI r.d (l.take (i+1))=RwS.ofI r.d (l.take i)++if r.d.getD l[i].toNat false then [l[i]] else []:=by
    unfold RwS.ofI
    rw [List.take_succ_eq_append_getElem hlt,List.filter_append]
    simp only [List.filter_cons,List.filter_nil]
   have hXl:(RwS.ofI r.c (l.take i)).length≤1000:=by
    have h1:=List.length_filter_le (fun t:Int=>r.c.getD t.toNat false) (l.take i)
    rw [List.length_take] at h1
    unfold RwS.ofI
    omega
   have hYl:(RwS.ofI r.d (l.take i)).length≤1000:=by
    have h1:=List.length_filter_le (fun t:Int=>r.d.getD t.toNat false) (l.take i)
    rw [List.length_take] at h1
    unfold RwS.ofI
    omega
   clear fin
   generalize RwS.ofI r.c (l.take i)=X at *
   generalize RwS.ofI r.d (l.take i)=Y at *
   generalize l[i]=x at *
   obtain ⟨j,rfl⟩:∃ j:Nat,x=j:=⟨x.toNat,by omega⟩
   have hjc:j<r.c.length:=by omega
   have hjd:j<r.d.length:=by omega
   have hbc:=bl_at r.c hjc
   have hbd:=bl_at r.d hjd
   rw [Int.toNat_natCast,show r.c.getD j false=r.c[j] by simp [List.getD_eq_getElem?_getD,hjc]] at hxs
   rw [Int.toNat_natCast,show r.d.getD j false=r.d[j] by simp [List.getD_eq_getElem?_getD,hjd]] at hys
   cases hc:r.c[j] <;> cases hd:r.d[j] <;> rw [hc] at hxs <;> rw [hd] at hys <;> simp [h11,f5,f6,f7,f8,hh,hlt,idx_slT intC_len,idx_slT blC_len,hia,hbc,hbd,hjc,hjd,hc,hd,hwk]
   ·simp only [Bool.false_eq_true,if_false,List.append_nil] at hxs hys
    rw [hxs,hys]
    exact ⟨u,⟨hu1,hu2,by omega⟩,w,⟨hw1,hw2,by omega⟩,huw⟩
   ·simp only [Bool.false_eq_true,if_false,if_true,List.append_nil] at hxs hys
    refine kS_buildSl (cs:=[.int .i64 j]) (by simp [splice]) rfl rfl ?_
    simp
    refine kS_append_tok (u:=w) (nl:=false) (n:=Y.length) (cs:=Y.flatMap intC) (ys:=[.int .i64 j]) (by simp [hw1]) (by simp [app_tk,hw2,Ne.symm huw]) (by simp [slCells]) (by simp) (by rw [flatMap_len intC_len];try omega) (by decide) rfl (by simp;omega) (by simp;omega) ?_
    simp [h11,hwk]
    rw [hxs,hys]
    exact ⟨hlt,u,⟨hu1,by simp [app_tk,hu2,huw],by omega⟩,(s.nx+64+64+64+64+64+64+64+64+64+64+64+64+64+64+64+64+64+64+64+64+64+64+64+64+64+64+64+64),⟨by simp [show intC (j:Int)=[.int .i64 j] from rfl],by simp [app_tk],by omega⟩,by omega⟩
   ·simp only [Bool.false_eq_true,if_false,if_true,List.append_nil] at hxs hys
    refine kS_buildSl (cs:=[.int .i64 j]) (by simp [splice]) rfl rfl ?_
    simp
    refine kS_append_tok (u:=u) (nl:=false) (n:=X.length) (cs:=X.flatMap intC) (ys:=[.int .i64 j]) (by simp [hu1]) (by simp [app_tk,hu2]) (by simp [slCells]) (by simp) (by rw [flatMap_len intC_len];try omega) (by decide) rfl (by simp;omega) (by simp;omega) ?_
    simp [h11,f6,f8,hlt,idx_slT intC_len,idx_slT blC_len,hia,hbd,hjd,hd,hwk]
    rw [hxs,hys]
    exact ⟨(s.nx+64+64+64+64+64+64+64+64+64+64+64+64+64+64+64+64+64+64+64+64+64),⟨by simp [show intC (j:Int)=[.int .i64 j] from rfl],by simp [app_tk],by omega⟩,w,⟨hw1,by simp [app_tk,hw2,Ne.symm huw],by omega⟩,by omega⟩
   ·simp only [if_true] at hxs hys
    refine kS_buildSl (cs:=[.int .i64 j]) (by simp [splice]) rfl rfl ?_
    simp
    refine kS_append_tok (u:=u) (nl:=false) (n:=X.length) (cs:=X.flatMap intC) (ys:=[.int .i64 j]) (by simp [hu1]) (by simp [app_tk,hu2]) (by simp [slCells]) (by simp) (by rw [flatMap_len intC_len];try omega) (by decide) rfl (by simp;omega) (by simp;omega) ?_
    simp [h11,f6,f8,hlt,idx_slT intC_len,idx_slT blC_len,hia,hbd,hjd,hd]
    refine kS_buildSl (cs:=[.int .i64 j]) (by simp [splice]) rfl rfl ?_
    simp
    refine kS_append_tok (u:=w) (nl:=false) (n:=Y.length) (cs:=Y.flatMap intC) (ys:=[.int .i64 j]) (by simp [hw1]) (by simp [app_tk,hw2,Ne.symm huw]) (by simp [slCells]) (by simp) (by rw [flatMap_len intC_len];try omega) (by decide) rfl (by simp;omega) (by simp;omega) ?_
    simp [h11,hwk]
    rw [hxs,hys]
    have z1:¬ (s.nx+64+64+64+64+64+64+64+64+64+64+64+64+64+64+64+64+64+64+64+64+64)=w:=by omega
    exact ⟨hlt,(s.nx+64+64+64+64+64+64+64+64+64+64+64+64+64+64+64+64+64+64+64+64+64),⟨by simp [show intC (j:Int)=[.int .i64 j] from rfl],by simp [app_tk,z1],by omega⟩,(s.nx+64+64+64+64+64+64+64+64+64+64+64+64+64+64+64+64+64+64+64+64+64+64+64+64+64+64+64+64+64+64+64+64+64+64+64+64),⟨by simp [show intC (j:Int)=[.int .i64 j] from rfl],by simp [app_tk],by omega⟩,by omega⟩
  ·simp [h11,f8,f7,hlt,hh]
   exact fin _ (by simp) (by simp) (by simp [hh]) (by simp [fd]) (.inl hh)
 ·have:i=l.length:=by omega
  subst this
  simp [h11,f8]
  exact fin _ (by simp) (by simp) (by simp [f7]) (by simp [fd]) (.inr rfl)
end Go.Pv.T

/- The reference's Against; both say the same. -/
namespace Go.Pv.T
open Go Go.Pv
def rAg (X Y:List Int) (x:Int) (b:Bool):Bool:=(b && Y.contains x) || (!b && X.contains x)
def rAgTo (X Y l:List Int) (bs:List Bool) (h:Bool):Nat→Bool
 | 0=>h
 | i+1=>rAgTo X Y l bs h i || rAg X Y (l.getD i 0) (bs.getD i false)
def rAgainst (g:Hist') (bs:List Bool):Bool:=rAgTo (mustX g) (mustY g) (infosH g) bs (RwS.raw g).hop (infosH g).length
theorem mustX_len (g:Hist'):(mustX g).length≤(infosH g).length:=by
 unfold mustX RwS.ofI
 split
 ·simp
 ·exact List.length_filter_le _ _
theorem mustY_len (g:Hist'):(mustY g).length≤(infosH g).length:=by
 unfold mustY RwS.ofI
 split
 ·simp
 ·exact List.length_filter_le _ _
set_option maxRecDepth 100000 in
theorem ev53 {g:Hist'} (hs:Small g) {nl:Bool} (bs:List Bool) (hb:bs.length=(infosH g).length):Ev E 53 [.agg (histC g),slOf nl blC bs] (.bool (rAgainst g bs)):=by
 have hts:=hs.ts
 obtain ⟨v50,e50,h50⟩:=ev50 hs
 have e52:=ev52 g hts
 have hll:(infosH g).length≤1000:=by
  have:=numsTo_len isInfo g.ts g.ts.length
  unfold infosH
  omega
 have hX:=mustX_len g
 have hY:=mustY_len g
 obtain ⟨R,hR⟩:∃ R,rAgainst g bs=R:=⟨_,rfl⟩
 rw [hR]
 unfold rAgainst at hR
 unfold RMustR at h50
 have e87x:=fun k:Int=>ev87 (a:=false) (mustX g) (by omega) k
 have e87y:=fun k:Int=>ev87 (a:=false) (mustY g) (by omega) k
 generalize mustX g=X at *
 generalize mustY g=Y at *
 generalize (RwS.raw g).hop=hop at *
 generalize infosH g=l at *
 refine Ev_wpK (af:=F53) rfl ?_
 simp [F53,histC,objCells]
 refine kS_ev e50 (by simp [histC]) rfl (by simp [histC]) ?_
 refine retSSB h50 fun t1 t2 add1=>?_
 simp [objCells]
 refine kS_ev e52 (by simp [histC]) rfl (by simp [histC]) ?_
 refine retSl (nl:=false) (n:=l.length) (cs:=l.flatMap intC) ⟨some (0,1),rfl,by simp⟩ fun t3 add3=>?_
 simp
 refine wp_loopUp [(7,7),(9,9),(18,53)] l.length (fun i s=>s.tm 9 = .int .i64 i∧s.tm 7 = .bool (rAgTo X Y l bs hop i)) rfl rfl ⟨by simp,by simp [rAgTo]⟩ ?_
 rintro i s hi ⟨h9,h7⟩ f
 have f1:s.tm 1=slOf nl blC bs:=by rw [f.t 1 (by simp)];simp
 have f5:s.tm 5 = .sl t1 false X.length (X.flatMap intC):=by rw [f.t 5 (by simp)];simp
 have f6:s.tm 6 = .sl t2 false Y.length (Y.flatMap intC):=by rw [f.t 6 (by simp)];simp
 have f8:s.tm 8 = .sl t3 false l.length (l.flatMap intC):=by rw [f.t 8 (by simp)];simp
 have fd:s.df=[]:=by rw [f.d];simp
 clear f
 by_cases hlt:i<l.length
 ·have hwk:=wrapU hlt (by omega)
  have hib:i<bs.length:=by omega
  have hia:=int_at l hlt
  have hba:=bl_at bs hib
  have hst:rAgTo X Y l bs hop (i+1)=(rAgTo X Y l bs hop i || rAg X Y l[i] bs[i]):=by
   simp only [rAgTo,List.getD_eq_getElem?_getD,List.getElem?_eq_getElem hlt,List.getElem?_eq_getElem hib,Option.getD_some]
  have ex:=e87x l[i]
  have ey:=e87y l[i]
  unfold rAg at hst
  generalize rAgTo X Y l bs hop i=T at *
  generalize l[i]=x at *
  cases hT:T
  ·rw [hT] at h7 hst
   cases hbb:bs[i]
   ·rw [hbb] at hst hba
    simp [h9,h7,f1,f5,f6,f8,hlt,hib,idx_slT intC_len,idx_slOf blC_len,hia,hba,hbb]
    refine kS_ev ex (by simp [slOf]) rfl (by simp [slOf]) ?_
    simp [h9,hwk]
    rw [hst]
    simp [hlt]
   ·rw [hbb] at hst hba
    simp [h9,h7,f1,f5,f6,f8,hlt,hib,idx_slT intC_len,idx_slOf blC_len,hia,hba,hbb]
    refine kS_ev ey (by simp [slOf]) rfl (by simp [slOf]) ?_
    cases hc:Y.contains x
    ·rw [hc] at hst
     simp [h9,f1,hib,idx_slOf blC_len,hba,hbb,hwk]
     rw [hst]
     simp [hlt]
    ·rw [hc] at hst
     simp [h9,hwk]
     rw [hst]
     simp [hlt]
  ·rw [hT] at h7 hst
   simp [h9,h7,f8,hlt,hwk]
   rw [hst]
   simp
 ·have:i=l.length:=by omega
  subst this
  simp [h9,h7,f8]
  rw [hR]
  exact endV_1 (by simp [fd]) (by simp) rfl
theorem rAgTo_hop (X Y l:List Int) (bs:List Bool):∀ i,rAgTo X Y l bs true i=true
 | 0=>rfl
 | i+1=>by simp [rAgTo,rAgTo_hop X Y l bs i]
theorem known_of (g:Hist'):(KnS.known g).hop=(RwS.raw g).hop∧∀ x∈infosH g,(!(mcnt (KnS.known g).m x == 0))=(RwS.raw g).c.getD x.toNat false∧(!(mcnt (KnS.known g).n x == 0))=(RwS.raw g).d.getD x.toNat false∧decide (0<mcnt (KnS.known g).m x)=(RwS.raw g).c.getD x.toNat false∧decide (0<mcnt (KnS.known g).n x)=(RwS.raw g).d.getD x.toNat false:=by
 obtain ⟨hA,hP⟩:=known_raw g
 refine ⟨hA.2.2.2.2.1,fun x hx=>?_⟩
 obtain ⟨h0,h1⟩:=(numsTo_lt (p:=isInfo) (ts:=g.ts) g.ts.length (Nat.le_refl _)).1 x hx
 obtain ⟨j,rfl⟩:∃ j:Nat,x=j:=⟨x.toNat,by omega⟩
 have hc:=hA.2.2.1 j (by omega)
 have hd:=hA.2.2.2.1 j (by omega)
 have hp:=hP (j:Int)
 rw [Int.toNat_natCast,hc,hd]
 refine ⟨?_,?_,rfl,rfl⟩
 ·rw [Bool.eq_iff_iff];simp;omega
 ·rw [Bool.eq_iff_iff];simp;omega
theorem against_same {g:Hist'} {bs:List Bool} (hm:mayH g=true) (hb:bs.length=(infosH g).length):againstH g bs=(rAgainst g bs,0):=by
 unfold againstH rAgainst
 rw [hm,if_pos rfl,if_pos hb,hb]
 obtain ⟨hh,hk⟩:=known_of g
 rw [hh]
 congr 1
 cases hop:(RwS.raw g).hop
 ·rw [Bool.or_false]
  have key:∀ i,i≤(infosH g).length→(KnS.known g).agTo (infosH g) bs i=rAgTo (mustX g) (mustY g) (infosH g) bs false i:=by
   intro i
   induction i with
   | zero=>intro _;rfl
   | succ i ih =>
    intro hi
    simp only [KnS.agTo,rAgTo,ih (by omega)]
    congr 1
    have hx:(infosH g).getD i 0∈infosH g:=by
     rw [List.getD_eq_getElem?_getD,List.getElem?_eq_getElem (by omega)]
     exact List.getElem_mem _
    obtain ⟨_,_,h3,h4⟩:=hk _ hx
    have hcX:(mustX g).contains ((infosH g).getD i 0)=(RwS.raw g).c.getD ((infosH g).getD i 0).toNat false:=by
     unfold mustX RwS.ofI
     rw [hop,Bool.eq_iff_iff,List.contains_iff_mem]
     simp only [Bool.false_eq_true,if_false,List.mem_filter,hx,true_and]
    have hcY:(mustY g).contains ((infosH g).getD i 0)=(RwS.raw g).d.getD ((infosH g).getD i 0).toNat false:=by
     unfold mustY RwS.ofI
     rw [hop,Bool.eq_iff_iff,List.contains_iff_mem]
     simp only [Bool.false_eq_true,if_false,List.mem_filter,hx,true_and]
    unfold KnS.ag rAg
    rw [h3,h4,hcX,hcY]
  exact key _ (Nat.le_refl _)
 ·rw [rAgTo_hop,Bool.or_true]
end Go.Pv.T

/- A fixed text is read, by the kernel: unit's example. -/
namespace Go.Pv.T
open Go Go.Pv
def txt49:List UInt8:=[98,101,103,105,110,32,115,10,119,114,105,116,101,32,115,32,120,32,49,10,105,110,102,111,32,115,10,98,101,103,105,110,32,116,10,114,101,97,100,32,116,32,120,32,49,10,111,107,32,116]
def H49:Hist':=⟨false,[[115],[116]],false,[[120]],false,[⟨0,3,false,[⟨true,0,⟨1,1⟩⟩]⟩,⟨1,1,false,[⟨false,0,⟨1,1⟩⟩]⟩]⟩
theorem k67u:(callers E 100 noY).d 67 [.str txt49]=some (.tup [(.agg [(.sl (some (0,1)) false 2 [(.str [115]),(.str [116])]),(.sl (some (1,1)) false 1 [(.str [120])]),(.sl (some (2,3)) false 2 [(.int .i64 0),(.int .i64 3),(.sl none false 1 [(.bool true),(.int .i64 0),(.int .i64 1),(.int .i64 1)]),(.int .i64 1),(.int .i64 1),(.sl none false 1 [(.bool false),(.int .i64 0),(.int .i64 1),(.int .i64 1)])])]),(.int .i64 0),(.int .i64 0)]):=by kernel_rfl
end Go.Pv.T

/- The fixed example of unit. -/
namespace Go.Pv.T
open Go Go.Pv
theorem map4 {α β:Type} {f:α→β} {ws:List α} {a b c d:β} (h:ws.map f=[a,b,c,d]):∃ x y z w,ws=[x,y,z,w]∧f x=a∧f y=b∧f z=c∧f w=d:=by
 match ws with
 | [x,y,z,w]=>simp only [List.map_cons,List.map_nil,List.cons.injEq,and_true] at h;exact ⟨x,y,z,w,rfl,h.1,h.2.1,h.2.2.1,h.2.2.2⟩
 | []=>simp at h
 | [_]=>simp at h
 | [_,_]=>simp at h
 | [_,_,_]=>simp at h
 | _::_::_::_::_::_=>simp at h
theorem retSSBI {ub:Nat} {v:V} {a1 a2 b:Bool} {n1 n2:Nat} {c1 c2:List V} {k:IntKind} {e:Int} {K:Delta→Prop} (hv:TupS [.sl none a1 n1 c1,.sl none a2 n2 c2,.bool b,.int k e] v)
 (h:∀ t1 t2 add,K { v:=.tup [.sl t1 a1 n1 c1,.sl t2 a2 n2 c2,.bool b,.int k e],add:=add }):wpD (retA ub v) K:=by
 refine retTup hv rfl fun ws add hw=>?_
 obtain ⟨x,y,z,w,rfl,h1,h2,h3,h4⟩:=map4 hw
 obtain ⟨t1,rfl⟩:=strip1_sl h1
 obtain ⟨t2,rfl⟩:=strip1_sl h2
 obtain rfl:=strip1_bool h3
 obtain rfl:=strip1_int h4
 exact h t1 t2 add
theorem small49:Small H49:=⟨by decide,by decide,by decide,by decide,by decide,by decide⟩
theorem may49:mayH H49=true:=by decide +kernel
theorem hop49:(KnS.known H49).hop=false:=by decide +kernel
theorem m49:(infosH H49).filter (fun t=>!(mcnt (KnS.known H49).m t == 0))=[0]:=by decide +kernel
theorem n49:(infosH H49).filter (fun t=>!(mcnt (KnS.known H49).n t == 0))=[]:=by decide +kernel
theorem ag49:againstH H49 [false]=(true,0):=by decide +kernel
set_option maxRecDepth 100000 in
theorem ev49:Ev E 49 [] (.bool true):=by
 obtain ⟨v48,e48,hv48⟩:=ev48 small49
 have e51:=ev51 small49 (nl:=false) [false] (by decide)
 unfold MustR at hv48
 rw [may49,hop49,m49,n49] at hv48
 simp only [if_true,Bool.false_eq_true,if_false] at hv48
 rw [ag49] at e51
 obtain ⟨a,b,hv48⟩:=hv48
 have e1:=ev26 (a:=a) (b:=false) [0] [0] (by decide) (by decide)
 have e67:Ev E 67 [.str txt49] _:=⟨100,k67u⟩
 refine Ev_wpK (af:=F49) rfl ?_
 simp [F49]
 refine kS_ev e67 rfl rfl rfl ?_
 simp [retA,toksRes,V.toks,V.tok,inRes,inTop,inLeaf,Nat.blt,objCells,splice]
 refine kS_ev e48 (by simp [histC,H49,slOf,strC,txnC,opC,V.strip,V.strip1]) rfl (by simp [histC]) ?_
 refine retSSBI hv48 fun t1 t2 add1=>?_
 simp [objCells]
 refine kS_buildSl (cs:=[.bool false]) (by simp [splice]) rfl rfl ?_
 simp
 refine kS_ev e51 (by simp [histC,H49,slOf,strC,txnC,opC,V.strip,V.strip1,blC]) rfl (by simp [histC,slOf,blC]) ?_
 rw [retA_tupl rfl]
 simp
 refine kS_buildSl (cs:=[.int .i64 0]) (by simp [splice]) rfl rfl ?_
 simp
 refine kS_ev e1 (by simp [slOf,intC]) rfl (by simp [slOf,intC]) ?_
 simp
 exact endV_1 rfl (by simp) rfl
end Go.Pv.T

/- Where each member of a map stands: wr.places. -/
namespace Go.Pv.T
open Go Go.Pv
end Go.Pv.T

/- Whether a list is a map: the given answer is the reference's. -/
namespace Go.Pv.T
open Go Go.Pv
end Go.Pv.T

/- WrTells, but for its fixed example. -/
namespace Go.Pv.T
open Go Go.Pv
@[simp] theorem eqVV_bool (ob:Nat→Option Obj') (neg a b:Bool):eqVV ob neg .bool (.bool a) (.bool b)=some (.bool (xor neg (a == b))):=rfl
theorem retHist {ub:Nat} {r:V} {g:Hist'} {K:Delta→Prop} (h:HistR r g)
 (hK:∀ a b c add,K { v:=.agg [.sl a g.sn g.ss.length (g.ss.flatMap strC),.sl b g.kn g.ks.length (g.ks.flatMap strC),.sl c g.tn g.ts.length (g.ts.flatMap txnC)],add:=add }):wpD (retA ub r) K:=by
 obtain ⟨a,b,c,add,hr⟩:=retA_hist1 (ub:=ub) h
 rw [hr,wpD_some]
 exact hK a b c add
theorem take_flat {α:Type} {f:α→List V} {k:Nat} (hf:∀ a,(f a).length=k):∀ (l:List α) (n:Nat),(l.flatMap f).take (n * k)=(l.take n).flatMap f
 | [],n=>by simp
 | a::l,0=>by simp
 | a::l,n+1=>by
  rw [List.flatMap_cons,List.take_succ_cons,List.flatMap_cons,Nat.succ_mul,Nat.add_comm,← hf a,List.take_length_add_append,hf a,take_flat hf l n]
end Go.Pv.T

/- UnitMust, UnitAgainst. -/
namespace Go.Pv.T
open Go Go.Pv
theorem head_ofB (b:Bool) (l:List Bool) (n:Nat):∃ k:Nat,minmaxV false [.int .i64 (l.length:Int),.int .i64 (n:Int)]=some (.int .i64 (k:Int))∧slSlV 1 none (some (.int .i64 (k:Int))) (slOf b blC l)=some (slOf b blC (l.take n)):=by
 by_cases h:(n:Int)<l.length
 ·refine ⟨n,by simp [minmaxV,minmaxL,minmax2,h],?_⟩
  have h1:(l.take n).length=n:=by rw [List.length_take];omega
  have e:=take_flat blC_len l n
  rw [Nat.mul_one] at e
  have h2:(n:Int)≤l.length:=by omega
  simp [slSlV,slOf,bounds,flatMap_len blC_len,h1,e,h2]
 ·refine ⟨l.length,by simp [minmaxV,minmaxL,minmax2,h],?_⟩
  have h1:l.take n=l:=List.take_of_length_le (by omega)
  have h2:(l.flatMap blC).take l.length=l.flatMap blC:=List.take_of_length_le (by rw [flatMap_len blC_len];omega)
  simp [slSlV,slOf,bounds,flatMap_len blC_len,h1,h2]
theorem bl_pure (l:List Bool):(l.flatMap blC).all V.pureLeaf=true:=by
 rw [← bl_map,List.all_eq_true]
 intro v hv
 obtain ⟨b,_,rfl⟩:=List.mem_map.1 hv
 rfl
set_option maxRecDepth 100000 in
theorem ev12 (h:Hist') (b:Bool) (B0:List Bool):Ev E 12 [.agg (histC h),slOf b blC B0] (.bool true):=by
 obtain ⟨r,ev,hr⟩:=ev14 h
 obtain ⟨r2,ev2,hr2⟩:=ev14 (fewH h)
 rw [fewH_few] at hr2
 have hs:=small_few h
 generalize fewH h=g at *
 obtain ⟨kk,hk1,hk2⟩:=head_ofB b B0 50
 replace hk1:minmaxV false [.int .i64 (B0.length:Int),.int .i64 50]=some (.int .i64 (kk:Int)):=hk1
 obtain ⟨B,hB⟩:∃ B,B0.take 50=B:=⟨_,rfl⟩
 have hBl:B.length≤50:=by rw [← hB,List.length_take];omega
 rw [hB] at hk2
 have e51:=ev51 hs (nl:=false) B (by omega)
 have e32:=ev32 hs
 have e49:=ev49
 have e52:=ev52 g hs.ts
 have hll:(infosH g).length≤1000:=by
  have:=numsTo_len isInfo g.ts g.ts.length
  have:=hs.ts
  unfold infosH
  omega
 refine Ev_wpK (af:=F12) rfl ?_
 simp [F12,histC,objCells]
 refine kS_ev ev (by simp [histC]) rfl (by simp [histC]) ?_
 refine retHist hr fun a1 b1 c1 add1=>?_
 simp [objCells,splice]
 refine kS_buildSl (cs:=[]) rfl rfl rfl ?_
 simp [hk1,hk2]
 refine kS_append_allT (f:=blC) (l:=B) (u:=320) (by simp) (by simp [app_tk]) (by simp [slCells_slOf blC_len]) blC_len (by decide) (bl_pure B) (by omega) (by omega) (fun t3 del3 add3 ha3 hd3=>?_)
 simp [objCells]
 refine kS_ev ev2 (by simp [histC,slOf]) rfl (by simp [histC]) ?_
 refine retHist hr2 fun a2 b2 c2 add2=>?_
 simp
 refine kS_buildSl (cs:=[]) rfl rfl rfl ?_
 simp
 refine kS_append_allT (f:=blC) (l:=B) (u:=960) (by simp) (by simp [app_tk]) (by simp [slCells_sl blC_len]) blC_len (by decide) (bl_pure B) (by omega) (by omega) (fun t4 del4 add4 ha4 hd4=>?_)
 simp
 refine kS_ev e51 (by simp [histC,slOf]) rfl (by simp [histC,slOf]) ?_
 rw [retA_tupl rfl]
 simp [objCells]
 refine kS_ev e32 (by simp [histC,slOf]) rfl (by simp [histC]) ?_
 cases hm:mayH g
 ·have hag:againstH g B=(false,4):=by unfold againstH;rw [hm];rfl
  rw [may_bad hm,hag]
  simp
  refine kS_ev e49 rfl rfl rfl ?_
  simp
  exact endV_1 rfl (by simp) rfl
 ·rw [may_err hm]
  simp [objCells]
  refine kS_ev e52 (by simp [histC,slOf]) rfl (by simp [histC]) ?_
  refine retSl (nl:=false) (n:=(infosH g).length) (cs:=(infosH g).flatMap intC) ⟨some (0,1),rfl,by simp⟩ fun t5 add5=>?_
  by_cases hlen:B.length=(infosH g).length
  ·have e53:=ev53 hs (nl:=false) B hlen
   rw [against_same hm hlen]
   simp [hlen,objCells]
   refine kS_ev e53 (by simp [histC,slOf,hlen]) rfl (by simp [histC,slOf]) ?_
   simp
   refine kS_ev e49 rfl rfl rfl ?_
   simp
   exact endV_1 rfl (by simp) rfl
  ·have hag:againstH g B=(false,2):=by unfold againstH;rw [hm,if_pos rfl,if_neg hlen]
   have hbn:((B.length:Int) != (infosH g).length)=true:=by
    rw [bne_iff_ne]
    omega
   rw [hag]
   simp [hbn]
   refine kS_ev e49 rfl rfl rfl ?_
   simp
   exact endV_1 rfl (by simp) rfl
end Go.Pv.T

/- The environment is what the program's code says. -/
namespace Go.Pv.T
open Go Go.Pv Go.Proofs

theorem afOk_of {P:Program} {m r:Bool} {f:FuncId} {fn:Func} {af:AF} (h1:P.funcs[f]? = some fn) (h2:compF P m r fn=some af) (h3:(fn.name == "runtime.NumGoroutine")=false) (h4:af.body.dstOk fn.ntmps=true):AfOk P r f af:=by
  unfold compF at h2
  cases hb:fn.body with
  | none=>rw [hb] at h2;cases h2
  | some c =>
    rw [hb,Option.bind_some] at h2
    cases hc:comp P m r c with
    | none=>rw [hc] at h2;cases h2
    | some b =>
      rw [hc,Option.bind_some] at h2
      cases hr:fn.results.toList.mapM (compRes P) with
      | none=>rw [hr] at h2;cases h2
      | some res =>
        rw [hr] at h2
        cases h2
        exact ⟨m,fn,c,h1,hb,hc,hr,h3,h4⟩

theorem okc12:AfOk Tryz.prog false 12 F12:=afOk_of (m:=false) Tryz.func12 (by kernel_rfl) (by kernel_rfl) (by kernel_rfl)
theorem okc14:AfOk Tryz.prog false 14 F14:=afOk_of (m:=false) Tryz.func14 (by kernel_rfl) (by kernel_rfl) (by kernel_rfl)
theorem okc26:AfOk Tryz.prog false 26 F26:=afOk_of (m:=false) Tryz.func26 (by kernel_rfl) (by kernel_rfl) (by kernel_rfl)
theorem okc27:AfOk Tryz.prog false 27 F27:=afOk_of (m:=true) Tryz.func27 (by kernel_rfl) (by kernel_rfl) (by kernel_rfl)
theorem okc28:AfOk Tryz.prog false 28 F28:=afOk_of (m:=false) Tryz.func28 (by kernel_rfl) (by kernel_rfl) (by kernel_rfl)
theorem okc32:AfOk Tryz.prog false 32 F32:=afOk_of (m:=true) Tryz.func32 (by kernel_rfl) (by kernel_rfl) (by kernel_rfl)
theorem okc48:AfOk Tryz.prog false 48 F48:=afOk_of (m:=false) Tryz.func48 (by kernel_rfl) (by kernel_rfl) (by kernel_rfl)
theorem okc49:AfOk Tryz.prog false 49 F49:=afOk_of (m:=false) Tryz.func49 (by kernel_rfl) (by kernel_rfl) (by kernel_rfl)
theorem okc50:AfOk Tryz.prog false 50 F50:=afOk_of (m:=false) Tryz.func50 (by kernel_rfl) (by kernel_rfl) (by kernel_rfl)
theorem okc51:AfOk Tryz.prog false 51 F51:=afOk_of (m:=false) Tryz.func51 (by kernel_rfl) (by kernel_rfl) (by kernel_rfl)
theorem okc52:AfOk Tryz.prog false 52 F52:=afOk_of (m:=false) Tryz.func52 (by kernel_rfl) (by kernel_rfl) (by kernel_rfl)
theorem okc53:AfOk Tryz.prog false 53 F53:=afOk_of (m:=false) Tryz.func53 (by kernel_rfl) (by kernel_rfl) (by kernel_rfl)
theorem okc61:AfOk Tryz.prog false 61 F61:=afOk_of (m:=false) Tryz.func61 (by kernel_rfl) (by kernel_rfl) (by kernel_rfl)
theorem okc67:AfOk Tryz.prog false 67 F67:=afOk_of (m:=false) Tryz.func67 (by kernel_rfl) (by kernel_rfl) (by kernel_rfl)
theorem okc70:AfOk Tryz.prog false 70 F70:=afOk_of (m:=false) Tryz.func70 (by kernel_rfl) (by kernel_rfl) (by kernel_rfl)
theorem okc72:AfOk Tryz.prog false 72 F72:=afOk_of (m:=false) Tryz.func72 (by kernel_rfl) (by kernel_rfl) (by kernel_rfl)
theorem okc74:AfOk Tryz.prog false 74 F74:=afOk_of (m:=false) Tryz.func74 (by kernel_rfl) (by kernel_rfl) (by kernel_rfl)
theorem okc77:AfOk Tryz.prog false 77 F77:=afOk_of (m:=false) Tryz.func77 (by kernel_rfl) (by kernel_rfl) (by kernel_rfl)
theorem okc78:AfOk Tryz.prog false 78 F78:=afOk_of (m:=false) Tryz.func78 (by kernel_rfl) (by kernel_rfl) (by kernel_rfl)
theorem okc81:AfOk Tryz.prog false 81 F81:=afOk_of (m:=false) Tryz.func81 (by kernel_rfl) (by kernel_rfl) (by kernel_rfl)
theorem okc87:AfOk Tryz.prog false 87 F87:=afOk_of (m:=false) Tryz.func87 (by kernel_rfl) (by kernel_rfl) (by kernel_rfl)
theorem okc89:AfOk Tryz.prog false 89 F89:=afOk_of (m:=false) Tryz.func89 (by kernel_rfl) (by kernel_rfl) (by kernel_rfl)
theorem okc90:AfOk Tryz.prog false 90 F90:=afOk_of (m:=false) Tryz.func90 (by kernel_rfl) (by kernel_rfl) (by kernel_rfl)
theorem okc93:AfOk Tryz.prog false 93 F93:=afOk_of (m:=false) Tryz.func93 (by kernel_rfl) (by kernel_rfl) (by kernel_rfl)
theorem okc100:AfOk Tryz.prog false 100 F100:=afOk_of (m:=false) Tryz.func100 (by kernel_rfl) (by kernel_rfl) (by kernel_rfl)
theorem okc101:AfOk Tryz.prog false 101 F101:=afOk_of (m:=false) Tryz.func101 (by kernel_rfl) (by kernel_rfl) (by kernel_rfl)
theorem okc104:AfOk Tryz.prog false 104 F104:=afOk_of (m:=false) Tryz.func104 (by kernel_rfl) (by kernel_rfl) (by kernel_rfl)
theorem okc105:AfOk Tryz.prog false 105 F105:=afOk_of (m:=true) Tryz.func105 (by kernel_rfl) (by kernel_rfl) (by kernel_rfl)
theorem okc107:AfOk Tryz.prog false 107 F107:=afOk_of (m:=false) Tryz.func107 (by kernel_rfl) (by kernel_rfl) (by kernel_rfl)
theorem okc110:AfOk Tryz.prog false 110 F110:=afOk_of (m:=false) Tryz.func110 (by kernel_rfl) (by kernel_rfl) (by kernel_rfl)
theorem okc111:AfOk Tryz.prog false 111 F111:=afOk_of (m:=false) Tryz.func111 (by kernel_rfl) (by kernel_rfl) (by kernel_rfl)
theorem okc112:AfOk Tryz.prog false 112 F112:=afOk_of (m:=false) Tryz.func112 (by kernel_rfl) (by kernel_rfl) (by kernel_rfl)
theorem okc116:AfOk Tryz.prog false 116 F116:=afOk_of (m:=false) Tryz.func116 (by kernel_rfl) (by kernel_rfl) (by kernel_rfl)
theorem okc118:AfOk Tryz.prog false 118 F118:=afOk_of (m:=false) Tryz.func118 (by kernel_rfl) (by kernel_rfl) (by kernel_rfl)
theorem okc119:AfOk Tryz.prog false 119 F119:=afOk_of (m:=false) Tryz.func119 (by kernel_rfl) (by kernel_rfl) (by kernel_rfl)
theorem okc124:AfOk Tryz.prog false 124 F124:=afOk_of (m:=false) Tryz.func124 (by kernel_rfl) (by kernel_rfl) (by kernel_rfl)
theorem okc126:AfOk Tryz.prog false 126 F126:=afOk_of (m:=false) Tryz.func126 (by kernel_rfl) (by kernel_rfl) (by kernel_rfl)
theorem okc127:AfOk Tryz.prog false 127 F127:=afOk_of (m:=false) Tryz.func127 (by kernel_rfl) (by kernel_rfl) (by kernel_rfl)
theorem okc129:AfOk Tryz.prog false 129 F129:=afOk_of (m:=false) Tryz.func129 (by kernel_rfl) (by kernel_rfl) (by kernel_rfl)
theorem okc130:AfOk Tryz.prog false 130 F130:=afOk_of (m:=false) Tryz.func130 (by kernel_rfl) (by kernel_rfl) (by kernel_rfl)
theorem okc131:AfOk Tryz.prog false 131 F131:=afOk_of (m:=false) Tryz.func131 (by kernel_rfl) (by kernel_rfl) (by kernel_rfl)
theorem okc132:AfOk Tryz.prog false 132 F132:=afOk_of (m:=false) Tryz.func132 (by kernel_rfl) (by kernel_rfl) (by kernel_rfl)
theorem okc137:AfOk Tryz.prog false 137 F137:=afOk_of (m:=false) Tryz.func137 (by kernel_rfl) (by kernel_rfl) (by kernel_rfl)
theorem okc147:AfOk Tryz.prog false 147 F147:=afOk_of (m:=false) Tryz.func147 (by kernel_rfl) (by kernel_rfl) (by kernel_rfl)
theorem okc148:AfOk Tryz.prog false 148 F148:=afOk_of (m:=false) Tryz.func148 (by kernel_rfl) (by kernel_rfl) (by kernel_rfl)
theorem okc151:AfOk Tryz.prog false 151 F151:=afOk_of (m:=false) Tryz.func151 (by kernel_rfl) (by kernel_rfl) (by kernel_rfl)
theorem okc153:AfOk Tryz.prog false 153 F153:=afOk_of (m:=false) Tryz.func153 (by kernel_rfl) (by kernel_rfl) (by kernel_rfl)
theorem okc155:AfOk Tryz.prog false 155 F155:=afOk_of (m:=false) Tryz.func155 (by kernel_rfl) (by kernel_rfl) (by kernel_rfl)
theorem okc163:AfOk Tryz.prog false 163 F163:=afOk_of (m:=false) Tryz.func163 (by kernel_rfl) (by kernel_rfl) (by kernel_rfl)
theorem okc166:AfOk Tryz.prog false 166 F166:=afOk_of (m:=false) Tryz.func166 (by kernel_rfl) (by kernel_rfl) (by kernel_rfl)
theorem okc167:AfOk Tryz.prog false 167 F167:=afOk_of (m:=false) Tryz.func167 (by kernel_rfl) (by kernel_rfl) (by kernel_rfl)
theorem okc168:AfOk Tryz.prog false 168 F168:=afOk_of (m:=false) Tryz.func168 (by kernel_rfl) (by kernel_rfl) (by kernel_rfl)
theorem okc169:AfOk Tryz.prog false 169 F169:=afOk_of (m:=false) Tryz.func169 (by kernel_rfl) (by kernel_rfl) (by kernel_rfl)
theorem okc172:AfOk Tryz.prog false 172 F172:=afOk_of (m:=false) Tryz.func172 (by kernel_rfl) (by kernel_rfl) (by kernel_rfl)
theorem okc173:AfOk Tryz.prog false 173 F173:=afOk_of (m:=false) Tryz.func173 (by kernel_rfl) (by kernel_rfl) (by kernel_rfl)
theorem okc174:AfOk Tryz.prog false 174 F174:=afOk_of (m:=false) Tryz.func174 (by kernel_rfl) (by kernel_rfl) (by kernel_rfl)
theorem okc176:AfOk Tryz.prog false 176 F176:=afOk_of (m:=false) Tryz.func176 (by kernel_rfl) (by kernel_rfl) (by kernel_rfl)
theorem okc188:AfOk Tryz.prog false 188 F188:=afOk_of (m:=false) Tryz.func188 (by kernel_rfl) (by kernel_rfl) (by kernel_rfl)
theorem okc189:AfOk Tryz.prog false 189 F189:=afOk_of (m:=false) Tryz.func189 (by kernel_rfl) (by kernel_rfl) (by kernel_rfl)
theorem okc190:AfOk Tryz.prog false 190 F190:=afOk_of (m:=false) Tryz.func190 (by kernel_rfl) (by kernel_rfl) (by kernel_rfl)
theorem okc191:AfOk Tryz.prog false 191 F191:=afOk_of (m:=false) Tryz.func191 (by kernel_rfl) (by kernel_rfl) (by kernel_rfl)
theorem okc192:AfOk Tryz.prog false 192 F192:=afOk_of (m:=false) Tryz.func192 (by kernel_rfl) (by kernel_rfl) (by kernel_rfl)
theorem okc193:AfOk Tryz.prog false 193 F193:=afOk_of (m:=false) Tryz.func193 (by kernel_rfl) (by kernel_rfl) (by kernel_rfl)
theorem okc194:AfOk Tryz.prog false 194 F194:=afOk_of (m:=false) Tryz.func194 (by kernel_rfl) (by kernel_rfl) (by kernel_rfl)
theorem okc195:AfOk Tryz.prog false 195 F195:=afOk_of (m:=false) Tryz.func195 (by kernel_rfl) (by kernel_rfl) (by kernel_rfl)
theorem okc198:AfOk Tryz.prog false 198 F198:=afOk_of (m:=false) Tryz.func198 (by kernel_rfl) (by kernel_rfl) (by kernel_rfl)
theorem okc199:AfOk Tryz.prog false 199 F199:=afOk_of (m:=false) Tryz.func199 (by kernel_rfl) (by kernel_rfl) (by kernel_rfl)
theorem okc201:AfOk Tryz.prog false 201 F201:=afOk_of (m:=false) Tryz.func201 (by kernel_rfl) (by kernel_rfl) (by kernel_rfl)
theorem okc205:AfOk Tryz.prog false 205 F205:=afOk_of (m:=false) Tryz.func205 (by kernel_rfl) (by kernel_rfl) (by kernel_rfl)
theorem okc216:AfOk Tryz.prog false 216 F216:=afOk_of (m:=false) Tryz.func216 (by kernel_rfl) (by kernel_rfl) (by kernel_rfl)
theorem okc224:AfOk Tryz.prog false 224 F224:=afOk_of (m:=false) Tryz.func224 (by kernel_rfl) (by kernel_rfl) (by kernel_rfl)
theorem okc225:AfOk Tryz.prog false 225 F225:=afOk_of (m:=false) Tryz.func225 (by kernel_rfl) (by kernel_rfl) (by kernel_rfl)
theorem okc227:AfOk Tryz.prog false 227 F227:=afOk_of (m:=false) Tryz.func227 (by kernel_rfl) (by kernel_rfl) (by kernel_rfl)
theorem okc228:AfOk Tryz.prog false 228 F228:=afOk_of (m:=false) Tryz.func228 (by kernel_rfl) (by kernel_rfl) (by kernel_rfl)
theorem okc229:AfOk Tryz.prog false 229 F229:=afOk_of (m:=false) Tryz.func229 (by kernel_rfl) (by kernel_rfl) (by kernel_rfl)
theorem okc230:AfOk Tryz.prog false 230 F230:=afOk_of (m:=false) Tryz.func230 (by kernel_rfl) (by kernel_rfl) (by kernel_rfl)
theorem okc231:AfOk Tryz.prog false 231 F231:=afOk_of (m:=false) Tryz.func231 (by kernel_rfl) (by kernel_rfl) (by kernel_rfl)
theorem okc232:AfOk Tryz.prog false 232 F232:=afOk_of (m:=false) Tryz.func232 (by kernel_rfl) (by kernel_rfl) (by kernel_rfl)
theorem okc233:AfOk Tryz.prog false 233 F233:=afOk_of (m:=false) Tryz.func233 (by kernel_rfl) (by kernel_rfl) (by kernel_rfl)
theorem okc234:AfOk Tryz.prog false 234 F234:=afOk_of (m:=false) Tryz.func234 (by kernel_rfl) (by kernel_rfl) (by kernel_rfl)
theorem okc235:AfOk Tryz.prog false 235 F235:=afOk_of (m:=false) Tryz.func235 (by kernel_rfl) (by kernel_rfl) (by kernel_rfl)
theorem okc239:AfOk Tryz.prog false 239 F239:=afOk_of (m:=false) Tryz.func239 (by kernel_rfl) (by kernel_rfl) (by kernel_rfl)
theorem okc247:AfOk Tryz.prog false 247 F247:=afOk_of (m:=false) Tryz.func247 (by kernel_rfl) (by kernel_rfl) (by kernel_rfl)
theorem okc248:AfOk Tryz.prog false 248 F248:=afOk_of (m:=false) Tryz.func248 (by kernel_rfl) (by kernel_rfl) (by kernel_rfl)
theorem okc249:AfOk Tryz.prog false 249 F249:=afOk_of (m:=false) Tryz.func249 (by kernel_rfl) (by kernel_rfl) (by kernel_rfl)
theorem okc250:AfOk Tryz.prog false 250 F250:=afOk_of (m:=false) Tryz.func250 (by kernel_rfl) (by kernel_rfl) (by kernel_rfl)
theorem okc251:AfOk Tryz.prog false 251 F251:=afOk_of (m:=false) Tryz.func251 (by kernel_rfl) (by kernel_rfl) (by kernel_rfl)
theorem okc252:AfOk Tryz.prog false 252 F252:=afOk_of (m:=false) Tryz.func252 (by kernel_rfl) (by kernel_rfl) (by kernel_rfl)
theorem okc253:AfOk Tryz.prog false 253 F253:=afOk_of (m:=false) Tryz.func253 (by kernel_rfl) (by kernel_rfl) (by kernel_rfl)
theorem okc256:AfOk Tryz.prog false 256 F256:=afOk_of (m:=false) Tryz.func256 (by kernel_rfl) (by kernel_rfl) (by kernel_rfl)
theorem okc261:AfOk Tryz.prog false 261 F261:=afOk_of (m:=false) Tryz.func261 (by kernel_rfl) (by kernel_rfl) (by kernel_rfl)
theorem okc262:AfOk Tryz.prog false 262 F262:=afOk_of (m:=false) Tryz.func262 (by kernel_rfl) (by kernel_rfl) (by kernel_rfl)
theorem okc263:AfOk Tryz.prog false 263 F263:=afOk_of (m:=false) Tryz.func263 (by kernel_rfl) (by kernel_rfl) (by kernel_rfl)
theorem okc265:AfOk Tryz.prog false 265 F265:=afOk_of (m:=false) Tryz.func265 (by kernel_rfl) (by kernel_rfl) (by kernel_rfl)
theorem okc267:AfOk Tryz.prog false 267 F267:=afOk_of (m:=false) Tryz.func267 (by kernel_rfl) (by kernel_rfl) (by kernel_rfl)
theorem okc271:AfOk Tryz.prog false 271 F271:=afOk_of (m:=false) Tryz.func271 (by kernel_rfl) (by kernel_rfl) (by kernel_rfl)
theorem okc280:AfOk Tryz.prog false 280 F280:=afOk_of (m:=false) Tryz.func280 (by kernel_rfl) (by kernel_rfl) (by kernel_rfl)
theorem oks75:AfOk Tryz.prog true 75 S75:=afOk_of (m:=true) Tryz.func75 (by kernel_rfl) (by kernel_rfl) (by kernel_rfl)
theorem oks76:AfOk Tryz.prog true 76 S76:=afOk_of (m:=true) Tryz.func76 (by kernel_rfl) (by kernel_rfl) (by kernel_rfl)
theorem oks82:AfOk Tryz.prog true 82 S82:=afOk_of (m:=true) Tryz.func82 (by kernel_rfl) (by kernel_rfl) (by kernel_rfl)
theorem oks91:AfOk Tryz.prog true 91 S91:=afOk_of (m:=true) Tryz.func91 (by kernel_rfl) (by kernel_rfl) (by kernel_rfl)
theorem oks92:AfOk Tryz.prog true 92 S92:=afOk_of (m:=true) Tryz.func92 (by kernel_rfl) (by kernel_rfl) (by kernel_rfl)
theorem oks102:AfOk Tryz.prog true 102 S102:=afOk_of (m:=true) Tryz.func102 (by kernel_rfl) (by kernel_rfl) (by kernel_rfl)
theorem oks106:AfOk Tryz.prog true 106 S106:=afOk_of (m:=true) Tryz.func106 (by kernel_rfl) (by kernel_rfl) (by kernel_rfl)
theorem oks108:AfOk Tryz.prog true 108 S108:=afOk_of (m:=true) Tryz.func108 (by kernel_rfl) (by kernel_rfl) (by kernel_rfl)
theorem oks109:AfOk Tryz.prog true 109 S109:=afOk_of (m:=true) Tryz.func109 (by kernel_rfl) (by kernel_rfl) (by kernel_rfl)
theorem oks113:AfOk Tryz.prog true 113 S113:=afOk_of (m:=true) Tryz.func113 (by kernel_rfl) (by kernel_rfl) (by kernel_rfl)
theorem oks114:AfOk Tryz.prog true 114 S114:=afOk_of (m:=true) Tryz.func114 (by kernel_rfl) (by kernel_rfl) (by kernel_rfl)
theorem oks115:AfOk Tryz.prog true 115 S115:=afOk_of (m:=true) Tryz.func115 (by kernel_rfl) (by kernel_rfl) (by kernel_rfl)
theorem oks117:AfOk Tryz.prog true 117 S117:=afOk_of (m:=true) Tryz.func117 (by kernel_rfl) (by kernel_rfl) (by kernel_rfl)
theorem oks133:AfOk Tryz.prog true 133 S133:=afOk_of (m:=true) Tryz.func133 (by kernel_rfl) (by kernel_rfl) (by kernel_rfl)
theorem oks134:AfOk Tryz.prog true 134 S134:=afOk_of (m:=true) Tryz.func134 (by kernel_rfl) (by kernel_rfl) (by kernel_rfl)
theorem oks135:AfOk Tryz.prog true 135 S135:=afOk_of (m:=true) Tryz.func135 (by kernel_rfl) (by kernel_rfl) (by kernel_rfl)
theorem oks136:AfOk Tryz.prog true 136 S136:=afOk_of (m:=true) Tryz.func136 (by kernel_rfl) (by kernel_rfl) (by kernel_rfl)
theorem oks146:AfOk Tryz.prog true 146 S146:=afOk_of (m:=true) Tryz.func146 (by kernel_rfl) (by kernel_rfl) (by kernel_rfl)
theorem oks149:AfOk Tryz.prog true 149 S149:=afOk_of (m:=true) Tryz.func149 (by kernel_rfl) (by kernel_rfl) (by kernel_rfl)
theorem oks150:AfOk Tryz.prog true 150 S150:=afOk_of (m:=true) Tryz.func150 (by kernel_rfl) (by kernel_rfl) (by kernel_rfl)
theorem oks152:AfOk Tryz.prog true 152 S152:=afOk_of (m:=true) Tryz.func152 (by kernel_rfl) (by kernel_rfl) (by kernel_rfl)
theorem oks154:AfOk Tryz.prog true 154 S154:=afOk_of (m:=true) Tryz.func154 (by kernel_rfl) (by kernel_rfl) (by kernel_rfl)
theorem oks156:AfOk Tryz.prog true 156 S156:=afOk_of (m:=true) Tryz.func156 (by kernel_rfl) (by kernel_rfl) (by kernel_rfl)
theorem oks157:AfOk Tryz.prog true 157 S157:=afOk_of (m:=true) Tryz.func157 (by kernel_rfl) (by kernel_rfl) (by kernel_rfl)
theorem oks158:AfOk Tryz.prog true 158 S158:=afOk_of (m:=true) Tryz.func158 (by kernel_rfl) (by kernel_rfl) (by kernel_rfl)
theorem oks159:AfOk Tryz.prog true 159 S159:=afOk_of (m:=true) Tryz.func159 (by kernel_rfl) (by kernel_rfl) (by kernel_rfl)
theorem oks160:AfOk Tryz.prog true 160 S160:=afOk_of (m:=true) Tryz.func160 (by kernel_rfl) (by kernel_rfl) (by kernel_rfl)
theorem oks161:AfOk Tryz.prog true 161 S161:=afOk_of (m:=true) Tryz.func161 (by kernel_rfl) (by kernel_rfl) (by kernel_rfl)
theorem oks162:AfOk Tryz.prog true 162 S162:=afOk_of (m:=true) Tryz.func162 (by kernel_rfl) (by kernel_rfl) (by kernel_rfl)
theorem oks164:AfOk Tryz.prog true 164 S164:=afOk_of (m:=true) Tryz.func164 (by kernel_rfl) (by kernel_rfl) (by kernel_rfl)
theorem oks165:AfOk Tryz.prog true 165 S165:=afOk_of (m:=true) Tryz.func165 (by kernel_rfl) (by kernel_rfl) (by kernel_rfl)
theorem oks175:AfOk Tryz.prog true 175 S175:=afOk_of (m:=true) Tryz.func175 (by kernel_rfl) (by kernel_rfl) (by kernel_rfl)
theorem oks177:AfOk Tryz.prog true 177 S177:=afOk_of (m:=true) Tryz.func177 (by kernel_rfl) (by kernel_rfl) (by kernel_rfl)
theorem oks178:AfOk Tryz.prog true 178 S178:=afOk_of (m:=true) Tryz.func178 (by kernel_rfl) (by kernel_rfl) (by kernel_rfl)
theorem oks179:AfOk Tryz.prog true 179 S179:=afOk_of (m:=true) Tryz.func179 (by kernel_rfl) (by kernel_rfl) (by kernel_rfl)
theorem oks196:AfOk Tryz.prog true 196 S196:=afOk_of (m:=true) Tryz.func196 (by kernel_rfl) (by kernel_rfl) (by kernel_rfl)
theorem oks197:AfOk Tryz.prog true 197 S197:=afOk_of (m:=true) Tryz.func197 (by kernel_rfl) (by kernel_rfl) (by kernel_rfl)
theorem oks200:AfOk Tryz.prog true 200 S200:=afOk_of (m:=true) Tryz.func200 (by kernel_rfl) (by kernel_rfl) (by kernel_rfl)
theorem oks202:AfOk Tryz.prog true 202 S202:=afOk_of (m:=true) Tryz.func202 (by kernel_rfl) (by kernel_rfl) (by kernel_rfl)
theorem oks204:AfOk Tryz.prog true 204 S204:=afOk_of (m:=true) Tryz.func204 (by kernel_rfl) (by kernel_rfl) (by kernel_rfl)
theorem oks217:AfOk Tryz.prog true 217 S217:=afOk_of (m:=true) Tryz.func217 (by kernel_rfl) (by kernel_rfl) (by kernel_rfl)
theorem oks218:AfOk Tryz.prog true 218 S218:=afOk_of (m:=true) Tryz.func218 (by kernel_rfl) (by kernel_rfl) (by kernel_rfl)
theorem oks236:AfOk Tryz.prog true 236 S236:=afOk_of (m:=true) Tryz.func236 (by kernel_rfl) (by kernel_rfl) (by kernel_rfl)
theorem oks237:AfOk Tryz.prog true 237 S237:=afOk_of (m:=true) Tryz.func237 (by kernel_rfl) (by kernel_rfl) (by kernel_rfl)
theorem oks238:AfOk Tryz.prog true 238 S238:=afOk_of (m:=true) Tryz.func238 (by kernel_rfl) (by kernel_rfl) (by kernel_rfl)
theorem oks240:AfOk Tryz.prog true 240 S240:=afOk_of (m:=true) Tryz.func240 (by kernel_rfl) (by kernel_rfl) (by kernel_rfl)
theorem oks254:AfOk Tryz.prog true 254 S254:=afOk_of (m:=true) Tryz.func254 (by kernel_rfl) (by kernel_rfl) (by kernel_rfl)
theorem oks255:AfOk Tryz.prog true 255 S255:=afOk_of (m:=true) Tryz.func255 (by kernel_rfl) (by kernel_rfl) (by kernel_rfl)
theorem oks264:AfOk Tryz.prog true 264 S264:=afOk_of (m:=true) Tryz.func264 (by kernel_rfl) (by kernel_rfl) (by kernel_rfl)
theorem oks272:AfOk Tryz.prog true 272 S272:=afOk_of (m:=true) Tryz.func272 (by kernel_rfl) (by kernel_rfl) (by kernel_rfl)
set_option maxRecDepth 100000 in
theorem fcOk_1 {f:FuncId} {af:AF} (h:fc_1 f=some af):AfOk Tryz.prog false f af:=by
  unfold fc_1 at h
  split at h
  · cases h;exact okc167
  · cases h;exact okc168
  · cases h;exact okc169
  · cases h;exact okc172
  · cases h;exact okc173
  · cases h;exact okc174
  · cases h;exact okc176
  · cases h;exact okc188
  · cases h;exact okc189
  · cases h;exact okc190
  · cases h;exact okc191
  · cases h;exact okc192
  · cases h;exact okc193
  · cases h;exact okc194
  · cases h;exact okc195
  · cases h;exact okc198
  · cases h;exact okc199
  · cases h;exact okc201
  · cases h;exact okc205
  · cases h;exact okc216
  · cases h;exact okc224
  · cases h;exact okc225
  · cases h;exact okc227
  · cases h;exact okc228
  · cases h;exact okc229
  · cases h;exact okc230
  · cases h;exact okc231
  · cases h;exact okc232
  · cases h;exact okc233
  · cases h;exact okc234
  · cases h;exact okc235
  · cases h;exact okc239
  · cases h;exact okc247
  · cases h;exact okc248
  · cases h;exact okc249
  · cases h;exact okc250
  · cases h;exact okc251
  · cases h;exact okc252
  · cases h;exact okc253
  · cases h;exact okc256
  · cases h;exact okc261
  · cases h;exact okc262
  · cases h;exact okc263
  · cases h;exact okc265
  · cases h;exact okc267
  · cases h;exact okc271
  · cases h;exact okc280
  · cases h
set_option maxRecDepth 100000 in
theorem fcOk_0 {f:FuncId} {af:AF} (h:fc f=some af):AfOk Tryz.prog false f af:=by
  unfold fc at h
  split at h
  · cases h;exact okc12
  · cases h;exact okc14
  · cases h;exact okc26
  · cases h;exact okc27
  · cases h;exact okc28
  · cases h;exact okc32
  · cases h;exact okc48
  · cases h;exact okc49
  · cases h;exact okc50
  · cases h;exact okc51
  · cases h;exact okc52
  · cases h;exact okc53
  · cases h;exact okc61
  · cases h;exact okc67
  · cases h;exact okc70
  · cases h;exact okc72
  · cases h;exact okc74
  · cases h;exact okc77
  · cases h;exact okc78
  · cases h;exact okc81
  · cases h;exact okc87
  · cases h;exact okc89
  · cases h;exact okc90
  · cases h;exact okc93
  · cases h;exact okc100
  · cases h;exact okc101
  · cases h;exact okc104
  · cases h;exact okc105
  · cases h;exact okc107
  · cases h;exact okc110
  · cases h;exact okc111
  · cases h;exact okc112
  · cases h;exact okc116
  · cases h;exact okc118
  · cases h;exact okc119
  · cases h;exact okc124
  · cases h;exact okc126
  · cases h;exact okc127
  · cases h;exact okc129
  · cases h;exact okc130
  · cases h;exact okc131
  · cases h;exact okc132
  · cases h;exact okc137
  · cases h;exact okc147
  · cases h;exact okc148
  · cases h;exact okc151
  · cases h;exact okc153
  · cases h;exact okc155
  · cases h;exact okc163
  · cases h;exact okc166
  · exact fcOk_1 h
set_option maxRecDepth 100000 in
theorem fsOk_0 {f:FuncId} {af:AF} (h:fs f=some af):AfOk Tryz.prog true f af:=by
  unfold fs at h
  split at h
  · cases h;exact oks75
  · cases h;exact oks76
  · cases h;exact oks82
  · cases h;exact oks91
  · cases h;exact oks92
  · cases h;exact oks102
  · cases h;exact oks106
  · cases h;exact oks108
  · cases h;exact oks109
  · cases h;exact oks113
  · cases h;exact oks114
  · cases h;exact oks115
  · cases h;exact oks117
  · cases h;exact oks133
  · cases h;exact oks134
  · cases h;exact oks135
  · cases h;exact oks136
  · cases h;exact oks146
  · cases h;exact oks149
  · cases h;exact oks150
  · cases h;exact oks152
  · cases h;exact oks154
  · cases h;exact oks156
  · cases h;exact oks157
  · cases h;exact oks158
  · cases h;exact oks159
  · cases h;exact oks160
  · cases h;exact oks161
  · cases h;exact oks162
  · cases h;exact oks164
  · cases h;exact oks165
  · cases h;exact oks175
  · cases h;exact oks177
  · cases h;exact oks178
  · cases h;exact oks179
  · cases h;exact oks196
  · cases h;exact oks197
  · cases h;exact oks200
  · cases h;exact oks202
  · cases h;exact oks204
  · cases h;exact oks217
  · cases h;exact oks218
  · cases h;exact oks236
  · cases h;exact oks237
  · cases h;exact oks238
  · cases h;exact oks240
  · cases h;exact oks254
  · cases h;exact oks255
  · cases h;exact oks264
  · cases h;exact oks272
  · cases h
theorem envOk:EnvOk Tryz.prog E:=⟨fun _ _ h=>fcOk_0 h,fun _ _ h=>fsOk_0 h⟩
end Go.Pv.T

/- The row's side, the same for every law of the seat. -/
namespace Go.Pv.T
open Go Go.Pv Go.Proofs Go.ChangeShapes Go.WideShapes Go.ChangeAt Go.RowKit Go.Proofs.YtopjfnbonjmnjaaGreatDoor

theorem own:ownKnob Tryz.prog.godebug=none:=by kernel_rfl
theorem laidOut:laidOutB Tryz.prog=true:=by kernel_rfl
theorem mixed:Tryz.prog.follows .mixedOrders=true:=by kernel_rfl

def laidL:List (String × DataW Unit):=[("unicode/utf8.acceptRanges",Rows.laid_unicode_utf8_acceptRanges),("deemster/event.words",Rows.laid_deemster_event_words),("unicode/utf8.first",Rows.laid_unicode_utf8_first)]

def litVal:V→Value
  | .int k n=>.int k n
  | .str s=>.string ⟨s.toArray⟩
  | _=>.nilFunc
def putCells (h:Array Obj) (g:Nat) (cs:Array Value):Array Obj:=h.modify g fun
    | .cells _ t frozen=>.cells cs t frozen
    | o=>o
def acceptCells:Array Value:=#[.int .u8 128,.int .u8 191,.int .u8 160,.int .u8 191,.int .u8 128,.int .u8 159,.int .u8 144,.int .u8 191,.int .u8 128,.int .u8 143,.int .u8 0,.int .u8 0,.int .u8 0,.int .u8 0,.int .u8 0,.int .u8 0,.int .u8 0,.int .u8 0,.int .u8 0,.int .u8 0,.int .u8 0,.int .u8 0,.int .u8 0,.int .u8 0,.int .u8 0,.int .u8 0,.int .u8 0,.int .u8 0,.int .u8 0,.int .u8 0,.int .u8 0,.int .u8 0]
noncomputable def laidWorld (os:Os):World :=
  let w0:=World.holding Tryz.prog os ⟨#[],#[],[]⟩
  { w0 with heap:=putCells (putCells (putCells w0.heap 0 (words.map litVal).toArray) 1 (utf8first.map litVal).toArray) 2 acceptCells }
set_option maxRecDepth 100000 in
theorem door_met (os:Os) (args:Array Value):laidMetH Tryz.prog laidL ((laidWorld os).forCall (fun _ _=>0) ⟨#[],args,[]⟩).memory:=by
  rw [MakeChecks.laidMetH_plain _ _ _ (by kernel_rfl)]
  exact laidMet_of_run' 8 (by kernel_rfl) (by kernel_rfl)

theorem gWords:Tryz.prog.globalNamed "deemster/event.words" = some 0:=by kernel_rfl
theorem gFirst:Tryz.prog.globalNamed "unicode/utf8.first" = some 1:=by kernel_rfl
theorem tWords:(Tryz.prog.globals[0]?).map (·.type)=some 274:=by kernel_rfl
theorem tFirst:(Tryz.prog.globals[1]?).map (·.type)=some 286:=by kernel_rfl

def cellsI (W:World):IMap:=fun b o=>W.cell? ⟨b,o,none⟩
theorem cellsI_ok (W:World):ImmOk (cellsI W) W:=fun _ _ _ h=>h

def litV:DataW Unit→V
  | .lit (.int k n)=>.int k n
  | .lit (.string s)=>.str s
  | _=>.undef

theorem arr_rep {W:World} {t e:TypeId} {n fuel:Nat} {cs:List Value} {ds:List (DataW Unit)} {p:List MemPlace} (ht:Tryz.prog.underlying t=some (.array n e)) (hc:Tryz.prog.cellsOf e=1)
    (he:Tryz.prog.underlying e=some .string∨∃ k,Tryz.prog.underlying e=some (.int k)) (h:DataW.trod (fun _=>()) Tryz.prog W 0 (fun _=>true) false fuel t cs=some (.agg ds,p)) (I:IMap) :
    ∀ (j:Nat) (d:DataW Unit),ds[j]? = some d→∃ x,cs[j]? = some x∧RepP I x (litV d):=by
  obtain ⟨xs,m,rfl,hx,hlen,hn,hel⟩:=DataW.trod_array ht h
  intro j d hd
  simp only [Prod.mk.injEq,DataW.agg.injEq] at hx
  rw [hx.1,List.getElem?_map] at hd
  cases hy:xs[j]? with
  | none=>simp [hy] at hd
  | some y =>
    rw [hy] at hd
    simp only [Option.map_some,Option.some.injEq] at hd
    have hj:j<n:=by rw [← hn];exact (List.getElem?_eq_some_iff.1 hy).1
    have:=hel j hj
    rw [hc,Nat.mul_one,hy] at this
    have one:∀ c,(cs.drop j).take 1=[c]→cs[j]? = some c:=by
      intro c hcc
      have:=congrArg List.head? hcc
      simpa [List.head?_take,List.head?_drop] using this
    rcases he with he | ⟨k,he⟩
    · obtain ⟨s,e1,e2,_⟩:=DataW.trod_string he this
      refine ⟨_,one _ e1,?_⟩
      rw [← hd,e2]
      exact RepP.str s
    · obtain ⟨s,e1,e2,_⟩:=DataW.trod_int he this
      refine ⟨_,one _ e1,?_⟩
      rw [← hd,e2]
      exact RepP.int k s

theorem gl_rep {W:World} {nm:String} {g:Nat} {cs:Array Value} {ds:List (DataW Unit)} (hg:Tryz.prog.globalNamed nm=some g) (hv:W.var? Tryz.prog nm=some cs) (hp:(ds.map litV).all V.pureLeaf=true)
    (h:∀ (j:Nat) (d:DataW Unit),ds[j]? = some d→∃ x,cs.toList[j]? = some x∧RepP (cellsI W) x (litV d)):RepP (cellsI W) (.pointer (some ⟨g,0,none⟩)) (.eptr (ds.map litV) 0):=by
  have hc:=World.var?_cell hg hv
  refine RepP.eptr g 0 0 (ds.map litV) (fun j=>(cs[j]?).getD .nilFunc) (fun j hj=>?_) (fun j v hj=>?_) (fun j v hj=>?_)
  · rw [List.length_map] at hj
    obtain ⟨x,hx,_⟩:=h j ds[j] (List.getElem?_eq_getElem hj)
    have hx':cs[j]? = some x:=by simpa using hx
    show W.cell? ⟨g,0+j,none⟩=_
    rw [Nat.zero_add,hc j,hx']
    rfl
  · exact List.all_eq_true.1 hp v (List.mem_of_getElem? hj)
  · rw [List.getElem?_map] at hj
    cases hd:ds[j]? with
    | none=>rw [hd] at hj;cases hj
    | some d =>
      rw [hd] at hj
      cases hj
      obtain ⟨x,hx,hr⟩:=h j d hd
      have hx':cs[j]? = some x:=by simpa using hx
      rw [hx']
      exact hr

def aggOf:DataW Unit→List (DataW Unit)
  | .agg l=>l
  | _=>[]
theorem words_eq:(aggOf Rows.laid_deemster_event_words).map litV=words:=by kernel_rfl
theorem first_eq:(aggOf Rows.laid_unicode_utf8_first).map litV=utf8first:=by kernel_rfl
theorem first_agg:Rows.laid_unicode_utf8_first = .agg (aggOf Rows.laid_unicode_utf8_first):=by kernel_rfl
theorem words_pure:((aggOf Rows.laid_deemster_event_words).map litV).all V.pureLeaf=true:=by kernel_rfl
theorem first_pure:((aggOf Rows.laid_unicode_utf8_first).map litV).all V.pureLeaf=true:=by kernel_rfl

theorem all_below {H:Type} {enc:TypeId × Value→H} {W W':World} (hb:Below W.heap.size W W'):∀ {ts:List TypeId} {vs:List Value} {ds:List (DataW H)} {ps:List MemPlace},
    (∀ t∈ts,Tryz.prog.readableRec t=true∧t<Tryz.prog.types.size)→(∀ x∈ps,x.block<W.heap.size) →
    DataW.TrodAll enc Tryz.prog W 0 (fun _=>true) true ts vs ds ps→DataW.TrodAll enc Tryz.prog W' 0 (fun b=>decide (b<W.heap.size)) true ts vs ds ps
  | [],[],[],_,_,_,h=>h
  | t::ts,v::vs,d::ds,_,ht,hlt,⟨p,q,h1,h2,e⟩=>by
    subst e
    exact ⟨p,q,Below.trod laidOut (ht t (List.mem_cons_self ..)).1 (ht t (List.mem_cons_self ..)).2 h1 hb (fun x hx=>hlt x (List.mem_append_left _ hx)),
      all_below hb (fun t' h'=>ht t' (List.mem_cons_of_mem _ h')) (fun x hx=>hlt x (List.mem_append_right _ hx)) h2,rfl⟩
  | [],_::_,_,_,_,_,h=>h.elim
  | [],[],_::_,_,_,_,h=>h.elim
  | _::_,[],_,_,_,_,h=>h.elim
  | _::_,_::_,[],_,_,_,h=>h.elim

theorem post_true {H:Type} {enc:TypeId × Value→H} {fn:Func} {s:ChangeSpec} {W W':World} {args:Array Value} {ds gs:List (DataW H)} {before:List MemPlace} (hW:DataW.Whole enc Tryz.prog fn.params.toList s.vars false W args.toList ds gs before)
    (hv:s.vars=[]) (hr:fn.resultTypes = #[4]) (hs:(s.fn H ds).results=[.lit (.bool true)]) (ha:(s.fn H ds).args=ds) (hvs:(s.fn H ds).vars=[])
    (ht:∀ t∈fn.params.toList,Tryz.prog.readableRec t=true∧t<Tryz.prog.types.size) (hg:W.grownBy W' none):s.post enc Tryz.prog fn false true false false W args (.bool true) W':=by
  have hb:Below W.heap.size W W':=(Below.refl _ W).grown hg (Nat.le_refl _) (fun _ h=>by cases h)
  have hW':=hW
  obtain ⟨p,q,hA,hV,rfl,_,_⟩:=hW
  rw [hv] at hV
  obtain ⟨rfl,rfl⟩:=trodVars_none hV
  have hlt:∀ x∈p,x.block<W.heap.size:=fun x hx=>by simpa using hW'.lt x (List.mem_append_left _ hx)
  refine ⟨ds,[],_,[],p,[],hW',?_,?_,?_,hb.frame _,fun h=>by cases h⟩
  · rw [List.append_nil,hs,hr]
    exact trodAll_mk1 (shut_bool Tryz.underlying4 _)
  · rw [List.append_nil,ha]
    exact all_below hb ht hlt hA
  · rw [List.append_nil,hvs,hv]
    rfl
end Go.Pv.T

/- Data that come in, of whatever plain type, as the interpreter has them. -/
namespace Go.Pv.T
open Go Go.Pv Go.Proofs Go.ChangeShapes Go.WideShapes Go.ChangeAt Go.RowKit
inductive Ty where
 | bool
 | int (k:IntKind)
 | str
 | unit
 | pair (a b:Ty)
 | slice (t:Ty)
def Ty.cells:Ty→Nat
 | .unit=>0
 | .pair a b=>a.cells+b.cells
 | _=>1
inductive Sh:Ty→List V→Prop where
 | bool (b:Bool):Sh .bool [.bool b]
 | int (k:IntKind) (n:Int):Sh (.int k) [.int k n]
 | str (s:List UInt8):Sh .str [.str s]
 | unit:Sh .unit []
 | pair {a b:Ty} {va vb:List V} (ha:Sh a va) (hb:Sh b vb):Sh (.pair a b) (va++vb)
 | nil {t:Ty}:Sh (.slice t) [.sl none true 0 []]
 | slice {t:Ty} (es:List (List V)) (hn:es.length≤maxLen) (h:∀ e∈es,Sh t e):Sh (.slice t) [.sl none false es.length es.flatten]
def fieldsTy (P:Program) (g:TypeId→Option Ty):List Field→Nat→Option Ty
 | [],_=>some .unit
 | f::r,off=>if f.offset=off then (g f.type).bind fun a=>if P.cellsOf f.type=a.cells then (fieldsTy P g r (off+a.cells)).map (.pair a) else none else none
def tyOf (P:Program):Nat→TypeId→Option Ty
 | 0,_=>none
 | n+1,t=>match P.underlying t with
  | some .bool=>some .bool
  | some (.int k)=>some (.int k)
  | some .string=>some .str
  | some (.slice e)=>(tyOf P n e).bind fun ty=>if P.cellsOf e=ty.cells then some (.slice ty) else none
  | some (.struct fs)=>(fieldsTy P (tyOf P n) fs.toList 0).bind fun ty=>if P.cellsOf t=ty.cells then some ty else none
  | _=>none
theorem Sh.len {t:Ty} {vs:List V} (h:Sh t vs):vs.length=t.cells:=by
 induction h with
 | pair _ _ iha ihb=>simp [Ty.cells,iha,ihb]
 | _=>rfl
theorem Sh.pure {t:Ty} {vs:List V} (h:Sh t vs):∀ v∈vs,v.pureLeaf=true:=by
 induction h with
 | pair _ _ iha ihb=>intro v hv;rcases List.mem_append.1 hv with h | h;exact iha v h;exact ihb v h
 | unit=>intro v hv;cases hv
 | _=>intro v hv;rw [List.mem_singleton] at hv;subst hv;rfl
def Reps (I:IMap) (cs:List Value) (vs:List V):Prop:=cs.length=vs.length∧∀ (j:Nat) (x:Value) (v:V),cs[j]? = some x→vs[j]? = some v→RepP I x v
theorem Reps.one {I:IMap} {x:Value} {v:V} (h:RepP I x v):Reps I [x] [v] :=
 ⟨rfl,fun j y u hj hu=>by
  match j,hj,hu with
  | 0,hj,hu=>cases hj;cases hu;exact h
  | j+1,hj,_=>simp at hj⟩
theorem flat_get {α:Type} {sz:Nat} (hs:0<sz):∀ (es:List (List α)),(∀ e∈es,e.length=sz)→∀ j,es.flatten[j]? = (es[j / sz]?).bind fun e=>e[j % sz]?
 | [],_,j=>by simp
 | e::es,h,j=>by
  have he:=h e (List.mem_cons_self ..)
  rw [List.flatten_cons,List.getElem?_append,he]
  split
  ·rename_i hlt
   rw [Nat.div_eq_of_lt hlt,Nat.mod_eq_of_lt hlt]
   rfl
  ·rename_i hge
   have hj:j=(j - sz)+sz:=by omega
   rw [flat_get hs es (fun e he=>h e (List.mem_cons_of_mem _ he)) (j - sz)]
   conv=>rhs;rw [hj,Nat.add_div_right _ hs,Nat.add_mod_right]
   rfl
theorem flat_len {α:Type} {sz:Nat}:∀ (es:List (List α)),(∀ e∈es,e.length=sz)→es.flatten.length=es.length * sz
 | [],_=>by simp
 | e::es,h=>by
  rw [List.flatten_cons,List.length_append,h e (List.mem_cons_self ..),flat_len es (fun e he=>h e (List.mem_cons_of_mem _ he)),List.length_cons,Nat.succ_mul]
  omega
section
variable {H:Type} {enc:TypeId × Value→H} {W:World} {P:Program}
theorem pick_list {α:Type} {p:Nat→α→Prop}:∀ (n:Nat),(∀ i,i<n→∃ a,p i a)→∃ l:List α,l.length=n∧∀ i a,l[i]? = some a→p i a
 | 0,_=>⟨[],rfl,fun i a h=>by simp at h⟩
 | n+1,h=>by
  obtain ⟨l,h1,h2⟩:=pick_list n (fun i hi=>h i (by omega))
  obtain ⟨a,ha⟩:=h n (by omega)
  refine ⟨l++[a],by simp [h1],fun i b hb=>?_⟩
  rw [List.getElem?_append] at hb
  split at hb
  ·exact h2 i b hb
  ·rename_i hge
   have:i=n:=by
    have:=(List.getElem?_eq_some_iff.1 hb).1
    simp at this
    omega
   subst this
   simp [h1] at hb
   subst hb
   exact ha
theorem fields_rep {g:TypeId→Option Ty} {n:Nat} {cs:List Value} (ih:∀ t ty,g t=some ty→∀ cs x,DataW.trod enc P W 0 (fun _=>true) true n t cs=some x→∃ vs,Sh ty vs∧Reps (cellsI W) cs vs) :
 ∀ (fs:List Field) (off:Nat) (ty:Ty),fieldsTy P g fs off=some ty→(∀ f∈fs,∃ x,DataW.trod enc P W 0 (fun _=>true) true n f.type ((cs.drop f.offset).take (P.cellsOf f.type))=some x)→cs.length=off+ty.cells →
  ∃ vs,Sh ty vs∧Reps (cellsI W) (cs.drop off) vs
 | [],off,ty,h,_,hl=>by
  simp only [fieldsTy,Option.some.injEq] at h
  subst h
  simp only [Ty.cells,Nat.add_zero] at hl
  exact ⟨[],.unit,by simp [hl],fun j x v _ hv=>by simp at hv⟩
 | f::r,off,ty,h,hx,hl=>by
  simp only [fieldsTy] at h
  split at h
  ·rename_i hoff
   cases hg:g f.type with
   | none=>rw [hg] at h;cases h
   | some a =>
    rw [hg,Option.bind_some] at h
    split at h
    ·rename_i hc
     cases hr:fieldsTy P g r (off+a.cells) with
     | none=>rw [hr] at h;cases h
     | some b =>
      rw [hr] at h
      cases h
      simp only [Ty.cells] at hl
      obtain ⟨x,hx0⟩:=hx f (List.mem_cons_self ..)
      obtain ⟨va,ha,hra⟩:=ih f.type a hg _ _ hx0
      obtain ⟨vb,hb,hrb⟩:=fields_rep ih r (off+a.cells) b hr (fun f' hf=>hx f' (List.mem_cons_of_mem _ hf)) (by omega)
      refine ⟨va++vb,.pair ha hb,?_,fun j y u hj hu=>?_⟩
      ·have:=ha.len;have:=hb.len
       simp only [List.length_drop,List.length_append]
       omega
      ·rw [hoff,hc] at hra
       rw [List.getElem?_append] at hu
       rw [ha.len] at hu
       rw [List.getElem?_drop] at hj
       split at hu
       ·rename_i hlt
        exact hra.2 j y u (by rw [List.getElem?_take,if_pos hlt,List.getElem?_drop];exact hj) hu
       ·rename_i hge
        exact hrb.2 (j - a.cells) y u (by rw [List.getElem?_drop,show off+a.cells+(j - a.cells)=off+j from by omega];exact hj) hu
    ·cases h
  ·cases h
theorem rep_of:∀ (n:Nat) (t:TypeId) (ty:Ty),tyOf P n t=some ty→∀ (fuel:Nat) (cs:List Value) (x:DataW H × List MemPlace),DataW.trod enc P W 0 (fun _=>true) true fuel t cs=some x→∃ vs,Sh ty vs∧Reps (cellsI W) cs vs
 | 0,_,_,h,_,_,_,_=>by cases h
 | n+1,t,ty,h,fuel,cs,x,hx=>by
  simp only [tyOf] at h
  split at h
  ·rename_i ht
   cases h
   obtain ⟨b,rfl,_⟩:=DataW.trod_bool ht hx
   exact ⟨_,.bool b,Reps.one (.bool b)⟩
  ·rename_i k ht
   cases h
   obtain ⟨b,rfl,_⟩:=DataW.trod_int ht hx
   exact ⟨_,.int k b,Reps.one (.int k b)⟩
  ·rename_i ht
   cases h
   obtain ⟨s,rfl,_⟩:=DataW.trod_string ht hx
   exact ⟨_,.str s.data.toList,Reps.one (.str s)⟩
  ·rename_i e ht
   cases he:tyOf P n e with
   | none=>rw [he] at h;cases h
   | some te =>
    rw [he,Option.bind_some] at h
    split at h
    ·rename_i hc
     cases h
     rcases DataW.trod_slice ht hx with ⟨rfl,_⟩ | ⟨a,len,cap,elems,rest,m,_,rfl,_,_,hl,hm,hlen,hel,_,_⟩
     ·exact ⟨_,.nil,Reps.one .slnil⟩
     ·have each:∀ i,i<len→∃ vs,Sh te vs∧∃ c,W.cells? 0 (a.add (i * te.cells)) te.cells=some c∧Reps (cellsI W) c vs:=by
       intro i hi
       have h1:=hel i hi
       rw [List.getElem?_eq_getElem (by omega),hc] at h1
       obtain ⟨c,hc1,hc2⟩:=Option.bind_eq_some_iff.1 h1
       obtain ⟨vs,h3,h4⟩:=rep_of n e te he m c _ hc2
       exact ⟨vs,h3,c,hc1,h4⟩
      obtain ⟨es,h1,h2⟩:=pick_list len each
      have hsh:∀ e∈es,Sh te e:=fun e he=>by
       obtain ⟨i,hi⟩:=List.getElem?_of_mem he
       exact (h2 i e hi).1
      have hsz:∀ e∈es,e.length=te.cells:=fun e he=>(hsh e he).len
      have key:∀ (j:Nat) (v:V),es.flatten[j]? = some v→0<te.cells∧j / te.cells<len∧∃ y,W.cell? ((a.add (j / te.cells * te.cells)).add (j % te.cells))=some y∧RepP (cellsI W) y v∧v.pureLeaf=true:=by
       intro j v hj
       have h0:0<te.cells:=by
        rcases Nat.eq_zero_or_pos te.cells with h | h
        ·have:=flat_len es hsz
         rw [h,Nat.mul_zero] at this
         rw [List.length_eq_zero_iff.1 this] at hj
         simp at hj
        ·exact h
       rw [flat_get h0 es hsz] at hj
       cases hee:es[j / te.cells]? with
       | none=>rw [hee] at hj;cases hj
       | some e =>
        rw [hee,Option.bind_some] at hj
        have hlt:j / te.cells<len:=by rw [← h1];exact (List.getElem?_eq_some_iff.1 hee).1
        obtain ⟨hse,c,hcc,hrr⟩:=h2 _ e hee
        have hme:=Nat.mod_lt j h0
        have hcell:=(World.cells?_some hcc).2.2 _ hme
        have hclen:c.length=te.cells:=by rw [hrr.1,hse.len]
        rw [List.getElem?_eq_getElem (by omega)] at hcell
        exact ⟨h0,hlt,_,hcell,hrr.2 _ _ v (List.getElem?_eq_getElem (by omega)) hj,hse.pure v (List.mem_of_getElem? hj)⟩
      have spot:es.flatten≠[]→a.spot=none:=by
       intro hne
       obtain ⟨v,hv⟩:∃ v,es.flatten[0]? = some v:=by
        cases hf:es.flatten with
        | nil=>exact absurd hf hne
        | cons v l=>exact ⟨v,rfl⟩
       obtain ⟨h0,_,y,hy,_⟩:=key 0 v hv
       rw [Nat.zero_div,Nat.zero_mod,Nat.zero_mul] at hy
       simpa [Addr.add] using World.cell?_spot hy
      have cellAt:∀ (j:Nat) (v:V),es.flatten[j]? = some v→∃ y,W.cell? ⟨a.block,a.off+j,none⟩=some y∧RepP (cellsI W) y v:=by
       intro j v hj
       obtain ⟨h0,_,y,hy,hr,_⟩:=key j v hj
       have hs:=spot (fun h=>by rw [h] at hj;simp at hj)
       obtain ⟨b,off,sp⟩:=a
       simp only at hs
       subst hs
       rw [add_plain,add_plain] at hy
       refine ⟨y,?_,hr⟩
       rw [← hy,Nat.add_assoc,Nat.div_add_mod']
      rw [← h1] at hl
      refine ⟨_,.slice es (Nat.le_trans hl hm) hsh,Reps.one ?_⟩
      rw [h1] at hl ⊢
      refine RepP.sl a len cap es.flatten (fun j=>(W.cell? ⟨a.block,a.off+j,none⟩).getD .nilFunc) spot hl hm (fun j hj=>?_) (fun j v hj=>?_) (fun j v hj=>?_)
      ·obtain ⟨y,hy,_⟩:=cellAt j _ (List.getElem?_eq_getElem hj)
       show W.cell? _=some ((W.cell? _).getD _)
       rw [hy]
       rfl
      ·exact (key j v hj).2.2.choose_spec.2.2
      ·obtain ⟨y,hy,hr⟩:=cellAt j v hj
       show RepP _ ((W.cell? _).getD _) v
       rw [hy]
       exact hr
    ·cases h
  ·rename_i fs ht
   cases hf:fieldsTy P (tyOf P n) fs.toList 0 with
   | none=>rw [hf] at h;cases h
   | some b =>
    rw [hf,Option.bind_some] at h
    split at h
    ·rename_i hc
     cases h
     obtain ⟨xs,m,rfl,_,hl,hn,hel⟩:=DataW.trod_struct ht hx
     have:=fields_rep (n:=m) (cs:=cs) (fun t ty h cs x hx=>rep_of n t ty h m cs x hx) fs.toList 0 ty hf (fun f hfm=>by
      obtain ⟨i,hi⟩:=List.getElem?_of_mem hfm
      have hi':fs[i]? = some f:=by simpa using hi
      have h1:=hel i f hi'
      have hlt:i<xs.length:=by rw [hn];exact (Array.getElem?_eq_some_iff.1 hi').1
      rw [List.getElem?_eq_getElem hlt] at h1
      exact ⟨_,h1⟩) (by rw [Nat.zero_add,hl,hc])
     simpa using this
    ·cases h
  ·cases h
end
end Go.Pv.T

/- The laid variables read as the interpreter has them; a call that answers true. -/
namespace Go.Pv.T
open Go Go.Pv Go.Proofs Go.ChangeShapes Go.WideShapes Go.ChangeAt Go.RowKit Go.Proofs.YtopjfnbonjmnjaaGreatDoor

theorem arr2_rep {W:World} {t e:TypeId} {n fuel:Nat} {cs:List Value} {ds:List (DataW Unit)} {p:List MemPlace} {f0 f1:Field} {k0 k1:IntKind} (ht:Tryz.prog.underlying t=some (.array n e)) (hc:Tryz.prog.cellsOf e=2)
    (he:Tryz.prog.underlying e=some (.struct #[f0,f1])) (o0:f0.offset=0) (o1:f1.offset=1) (c0:Tryz.prog.cellsOf f0.type=1) (c1:Tryz.prog.cellsOf f1.type=1)
    (u0:Tryz.prog.underlying f0.type=some (.int k0)) (u1:Tryz.prog.underlying f1.type=some (.int k1)) (h:DataW.trod (fun _=>()) Tryz.prog W 0 (fun _=>true) false fuel t cs=some (.agg ds,p)) (I:IMap) :
    ∀ (j:Nat) (d:DataW Unit),(ds.map aggOf).flatten[j]? = some d→∃ x,cs[j]? = some x∧RepP I x (litV d):=by
  obtain ⟨xs,m,rfl,hx,hlen,hn,hel⟩:=DataW.trod_array ht h
  simp only [Prod.mk.injEq,DataW.agg.injEq] at hx
  have one:∀ (l:List Value) (j:Nat) c,(l.drop j).take 1=[c]→l[j]? = some c:=by
    intro l j c hcc
    have:=congrArg List.head? hcc
    simpa [List.head?_take,List.head?_drop] using this
  have each:∀ (j:Nat) (y:DataW Unit × List MemPlace),xs[j]? = some y→∃ d0 d1 x0 x1,y.1 = .agg [d0,d1]∧cs[j * 2]? = some x0∧RepP I x0 (litV d0)∧cs[j * 2+1]? = some x1∧RepP I x1 (litV d1):=by
    intro j y hy
    have hj:j<n:=by rw [← hn];exact (List.getElem?_eq_some_iff.1 hy).1
    have h2:=hel j hj
    rw [hc,hy] at h2
    obtain ⟨y0,y1,m',e1,hl2,g0,g1⟩:=trod_struct2 he h2
    rw [o0,c0] at g0
    rw [o1,c1] at g1
    obtain ⟨z0,a0,b0,_⟩:=DataW.trod_int u0 g0
    obtain ⟨z1,a1,b1,_⟩:=DataW.trod_int u1 g1
    have q0:=one _ _ _ a0
    have q1:=one _ _ _ a1
    rw [List.getElem?_take,if_pos (by omega),List.getElem?_drop] at q0 q1
    refine ⟨y0.1,y1.1,_,_,by rw [e1],by simpa using q0,?_,q1,?_⟩
    · rw [b0];exact RepP.int k0 z0
    · rw [b1];exact RepP.int k1 z1
  have hds:ds=xs.map (·.1):=hx.1
  have len2:∀ e∈ds.map aggOf,e.length=2:=by
    intro e he
    rw [hds,List.map_map] at he
    obtain ⟨y,hy,rfl⟩:=List.mem_map.1 he
    obtain ⟨j,hj⟩:=List.getElem?_of_mem hy
    obtain ⟨d0,d1,x0,x1,e,_⟩:=each j y hj
    simp only [Function.comp,e,aggOf,List.length_cons,List.length_nil]
  intro k d hd
  rw [flat_get (by decide) _ len2] at hd
  rw [hds,List.map_map,List.getElem?_map] at hd
  cases hy:xs[k / 2]? with
  | none=>rw [hy] at hd;cases hd
  | some y =>
    rw [hy] at hd
    obtain ⟨d0,d1,x0,x1,e,g0,r0,g1,r1⟩:=each _ y hy
    simp only [Option.map_some,Option.bind_some,Function.comp,e,aggOf] at hd
    rcases Nat.mod_two_eq_zero_or_one k with hk | hk
    · rw [hk] at hd
      cases hd
      rw [show k / 2 * 2=k from by omega] at g0
      exact ⟨x0,g0,r0⟩
    · rw [hk] at hd
      cases hd
      rw [show k / 2 * 2+1=k from by omega] at g1
      exact ⟨x1,g1,r1⟩

def accD:List (DataW Unit):=((aggOf Rows.laid_unicode_utf8_acceptRanges).map aggOf).flatten
theorem gAcc:Tryz.prog.globalNamed "unicode/utf8.acceptRanges" = some 2:=by kernel_rfl
theorem acc_eq:accD.map litV=accR:=by kernel_rfl
theorem acc_agg:Rows.laid_unicode_utf8_acceptRanges = .agg (aggOf Rows.laid_unicode_utf8_acceptRanges):=by kernel_rfl
theorem acc_pure:(accD.map litV).all V.pureLeaf=true:=by kernel_rfl
theorem tAcc:(Tryz.prog.globals[2]?).map (·.type)=some 289:=by kernel_rfl

theorem glOk {W:World} (h:laidMetH Tryz.prog laidL W):GlOk E (cellsI W):=by
  rw [MakeChecks.laidMetH_plain _ _ _ (by kernel_rfl)] at h
  obtain ⟨ps,⟨g2,t2,cs2,f2,p2,q2,hg2,ht2,hv2,hd2,⟨g0,t0,cs0,f0,p0,q0,hg0,ht0,hv0,hd0,⟨g1,t1,cs1,f1,p1,q1,hg1,ht1,hv1,hd1,_,_⟩,_⟩,_⟩,_,_⟩:=h
  obtain rfl:=Option.some.inj (gWords.symm.trans hg0)
  obtain rfl:=Option.some.inj (gFirst.symm.trans hg1)
  obtain rfl:=Option.some.inj (tWords.symm.trans ht0)
  obtain rfl:=Option.some.inj (tFirst.symm.trans ht1)
  obtain rfl:=Option.some.inj (gAcc.symm.trans hg2)
  obtain rfl:=Option.some.inj (tAcc.symm.trans ht2)
  intro g cs hcs
  simp only [E] at hcs
  split at hcs
  · cases hcs
    rw [← words_eq]
    exact gl_rep gWords hv0 words_pure (arr_rep Tryz.underlying274 (by kernel_rfl) (Or.inl (by kernel_rfl)) hd0 _)
  · cases hcs
    rw [← first_eq]
    rw [first_agg] at hd1
    exact gl_rep gFirst hv1 first_pure (arr_rep Tryz.underlying286 (by kernel_rfl) (Or.inr ⟨.u8,by kernel_rfl⟩) hd1 _)
  · cases hcs
    rw [← acc_eq]
    rw [acc_agg] at hd2
    exact gl_rep gAcc hv2 acc_pure (arr2_rep (k0:=.u8) (k1:=.u8) Tryz.underlying289 (by kernel_rfl) Tryz.underlying288 rfl rfl (by kernel_rfl) (by kernel_rfl) (by kernel_rfl) (by kernel_rfl) hd2 _)
  · cases hcs


theorem calls_true {f:FuncId} {W:World} {args:Array Value} {vs:List V} (hL:laidMetH Tryz.prog laidL W) (hlen:args.size=vs.length) (hr:∀ (j:Nat) (x:Value) (v:V),args[j]? = some x→vs[j]? = some v→RepP (cellsI W) x v)
    (he:Ev E f vs (.bool true)):Calls Tryz.prog f args W fun e w'=>e = .returned (.bool true)∧W.grownBy w' none:=by
  refine (Ev.sound mixed envOk he W (cellsI W) args (cellsI_ok W) (glOk hL) hlen hr).mono fun e W' ⟨x,τ,I',h1,h2,_,_,_,h3,_⟩=>⟨?_,h2⟩
  rw [h1]
  have h4:RepP I' x (.bool true):=h3
  cases h4
  rfl
end Go.Pv.T

/- Histories and other arguments that come in. -/
namespace Go.Pv.T
open Go Go.Pv Go.Proofs Go.ChangeShapes Go.WideShapes Go.ChangeAt Go.RowKit Go.Proofs.YtopjfnbonjmnjaaGreatDoor
abbrev valTy:Ty:=.pair (.int .i64) (.pair (.int .i64) .unit)
abbrev opTy:Ty:=.pair .bool (.pair (.int .i64) (.pair valTy .unit))
abbrev txnTy:Ty:=.pair (.int .i64) (.pair (.int .i64) (.pair (.slice opTy) .unit))
abbrev histTy:Ty:=.pair (.slice .str) (.pair (.slice .str) (.pair (.slice txnTy) .unit))
theorem sh_slice {α:Type} {t:Ty} {f:α→List V} (hf:∀ e,Sh t e→∃ a,e=f a) {vs:List V} (h:Sh (.slice t) vs):∃ nl l,vs=[slOf nl f l]:=by
 cases h with
 | nil=>exact ⟨true,[],rfl⟩
 | slice es hn h =>
  have all:∀ es:List (List V),(∀ e∈es,Sh t e)→∃ l:List α,es=l.map f:=by
   intro es
   induction es with
   | nil=>intro _;exact ⟨[],rfl⟩
   | cons e es ih =>
    intro h
    obtain ⟨a,rfl⟩:=hf e (h e (List.mem_cons_self ..))
    obtain ⟨l,rfl⟩:=ih (fun e he=>h e (List.mem_cons_of_mem _ he))
    exact ⟨a::l,rfl⟩
  obtain ⟨l,rfl⟩:=all es h
  exact ⟨false,l,by simp [slOf,List.flatMap]⟩
theorem sh_val {vs:List V} (h:Sh valTy vs):∃ v:Val',vs=valC v:=by
 cases h with
 | pair ha hb=>cases ha with
  | int _ k=>cases hb with
   | pair hc hd=>cases hc with
    | int _ n=>cases hd;exact ⟨⟨k,n⟩,rfl⟩
theorem sh_op {vs:List V} (h:Sh opTy vs):∃ o:Op',vs=opC o:=by
 cases h with
 | pair ha hb=>cases ha with
  | bool w=>cases hb with
   | pair hc hd=>cases hc with
    | int _ k=>cases hd with
     | pair he hf =>
      obtain ⟨v,rfl⟩:=sh_val he
      cases hf
      exact ⟨⟨w,k,v⟩,rfl⟩
theorem sh_txn {vs:List V} (h:Sh txnTy vs):∃ t:Txn',vs=txnC t:=by
 cases h with
 | pair ha hb=>cases ha with
  | int _ s=>cases hb with
   | pair hc hd=>cases hc with
    | int _ f=>cases hd with
     | pair he hf =>
      obtain ⟨nl,l,rfl⟩:=sh_slice (f:=opC) (fun e=>sh_op) he
      cases hf
      exact ⟨⟨s,f,nl,l⟩,rfl⟩
theorem sh_str {vs:List V} (h:Sh .str vs):∃ s:List UInt8,vs=strC s:=by
 cases h with
 | str s=>exact ⟨s,rfl⟩
theorem sh_hist {vs:List V} (h:Sh histTy vs):∃ g:Hist',vs=histC g:=by
 cases h with
 | pair ha hb=>cases hb with
  | pair hc hd=>cases hd with
   | pair he hf =>
    obtain ⟨n0,l0,rfl⟩:=sh_slice (f:=strC) (fun e=>sh_str) ha
    obtain ⟨n1,l1,rfl⟩:=sh_slice (f:=strC) (fun e=>sh_str) hc
    obtain ⟨n2,l2,rfl⟩:=sh_slice (f:=txnC) (fun e=>sh_txn) he
    cases hf
    exact ⟨⟨n0,l0,n1,l1,n2,l2⟩,rfl⟩
theorem leaf_of_pure {v:V} (h:v.pureLeaf=true):v.leaf=true:=by cases v <;> first | rfl | cases h
section
variable {H:Type} {enc:TypeId × Value→H} {W:World} {v:Value} {d:DataW H} {p:List MemPlace} {base:Nat}
set_option maxRecDepth 100000 in
theorem struct_arg {t:TypeId} {fs:Array Field} {n:Nat} {ty:Ty} (ht:Tryz.prog.underlying t=some (.struct fs)) (hty:tyOf Tryz.prog n t=some ty) (hval:Value.okWide Tryz.prog W .any base t v)
 (h:DataW.Trod enc Tryz.prog W 0 (fun _=>true) true t v d p):∃ vs,Sh ty vs∧RepP (cellsI W) v (.agg vs):=by
 obtain ⟨cs,rfl,_⟩:=okWide_struct ht hval
 obtain ⟨fuel,hf⟩:=h
 obtain ⟨vs,hs,hr⟩:=rep_of n t ty hty fuel _ _ hf
 refine ⟨vs,hs,RepP.agg cs vs (by simpa [Value.cells] using hr.1) (fun j v hj=>leaf_of_pure (hs.pure v (List.mem_of_getElem? hj))) (fun j x v hx hv=>hr.2 j x v (by simpa [Value.cells] using hx) hv)⟩
set_option maxRecDepth 100000 in
theorem cell_arg {t:TypeId} {n:Nat} {ty:Ty} (hc:v.cells.toList=[v]) (hty:tyOf Tryz.prog n t=some ty)
 (h:DataW.Trod enc Tryz.prog W 0 (fun _=>true) true t v d p):∃ vs,Sh ty vs∧Reps (cellsI W) [v] vs:=by
 obtain ⟨fuel,hf⟩:=h
 rw [hc] at hf
 exact rep_of n t ty hty fuel _ _ hf
theorem trodAll_two {s t:TypeId} {vs:List Value} {ds:List (DataW H)} {p:List MemPlace} (h:DataW.TrodAll enc Tryz.prog W 0 (fun _=>true) true [s,t] vs ds p) :
 ∃ v0 v1 d0 d1 p0 p1,vs=[v0,v1]∧ds=[d0,d1]∧DataW.Trod enc Tryz.prog W 0 (fun _=>true) true s v0 d0 p0∧DataW.Trod enc Tryz.prog W 0 (fun _=>true) true t v1 d1 p1:=by
 match vs,ds,h with
 | [v0,v1],[d0,d1],⟨p0,q,h0,⟨p1,q',h1,_,_⟩,_⟩=>exact ⟨v0,v1,d0,d1,p0,p1,rfl,rfl,h0,h1⟩
 | [],[],h=>exact h.elim
 | [v0],[d0],⟨_,_,_,h,_⟩=>exact h.elim
 | [],_::_,h=>exact h.elim
 | _::_,[],h=>exact h.elim
 | [_],_::_::_,⟨_,_,_,h,_⟩=>exact h.elim
 | _::_::_,[_],⟨_,_,_,h,_⟩=>exact h.elim
 | _::_::_::_,[_,_],⟨_,_,_,⟨_,_,_,h,_⟩,_⟩=>exact h.elim
 | [_,_],_::_::_::_,⟨_,_,_,⟨_,_,_,h,_⟩,_⟩=>exact h.elim
 | _::_::_::_,_::_::_::_,⟨_,_,_,⟨_,_,_,h,_⟩,_⟩=>exact h.elim
theorem read_ok (ts:List TypeId) (h:(ts.all fun t=>Tryz.prog.readableRec t && decide (t<Tryz.prog.types.size))=true) (t:TypeId) (ht:t∈ts):Tryz.prog.readableRec t=true∧t<Tryz.prog.types.size:=by
 have:=List.all_eq_true.1 h t ht
 simpa using this
set_option maxRecDepth 100000 in
theorem hist_arg (hval:Value.okWide Tryz.prog W .any base 25 v) (h:DataW.Trod enc Tryz.prog W 0 (fun _=>true) true 25 v d p):∃ g:Hist',RepP (cellsI W) v (.agg (histC g)):=by
 obtain ⟨vs,hs,hr⟩:=struct_arg (n:=8) (ty:=histTy) Tryz.underlying25 (by kernel_rfl) hval h
 obtain ⟨g,rfl⟩:=sh_hist hs
 exact ⟨g,hr⟩
end
end Go.Pv.T

/- Slices of bools that come in. -/
namespace Go.Pv.T
open Go Go.Pv Go.Proofs Go.ChangeShapes Go.WideShapes Go.ChangeAt Go.RowKit Go.Proofs.YtopjfnbonjmnjaaGreatDoor
section
variable {H:Type} {enc:TypeId × Value→H} {W:World} {v:Value} {d:DataW H} {p:List MemPlace} {base:Nat}
set_option maxRecDepth 100000 in
theorem bools_arg (hval:Value.okWide Tryz.prog W .any base 71 v) (h:DataW.Trod enc Tryz.prog W 0 (fun _=>true) true 71 v d p):∃ (nl:Bool) (l:List Bool),RepP (cellsI W) v (slOf nl blC l):=by
 obtain ⟨a0,len,cap,rfl⟩:=okWide_slice Tryz.underlying71 hval
 obtain ⟨vs,hs,hr⟩:=cell_arg (n:=4) (ty:=.slice .bool) rfl (by kernel_rfl) h
 obtain ⟨nl,l,rfl⟩:=sh_slice (f:=blC) (fun e he=>by cases he with | bool k=>exact ⟨k,rfl⟩) hs
 exact ⟨nl,l,hr.2 0 _ _ rfl rfl⟩
end
end Go.Pv.T
