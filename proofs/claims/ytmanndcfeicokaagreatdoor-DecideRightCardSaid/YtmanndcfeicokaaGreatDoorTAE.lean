/- Part. -/
import Derived.Test.YtmanndcfeicokaaGreatDoorTAD
import Derived.Lib.ValidLaws
import Derived.Laws.Bits64
set_option maxRecDepth 100000
set_option maxHeartbeats 8000000
set_option linter.all false
namespace Go.Pv.T
open Go Go.Pv
def jV (n b0 b1 b2 b3:Nat):Nat×Nat :=
 if b0<128 then (1,b0)
 else if 194<=b0/\b0<=223 then (if n<2\/b1<128\/191<b1 then (1,65533) else (2,64*(b0-192)+b1-128))
 else if 224<=b0/\b0<=239 then (if n<3\/b1<128\/191<b1\/b2<128\/191<b2 then (1,65533) else
  if 64*(64*(b0-224)+b1-128)+b2-128<2048\/55296<=64*(64*(b0-224)+b1-128)+b2-128/\64*(64*(b0-224)+b1-128)+b2-128<=57343 then (1,65533) else (3,64*(64*(b0-224)+b1-128)+b2-128))
 else if 240<=b0/\b0<=244 then (if n<4\/b1<128\/191<b1\/b2<128\/191<b2\/b3<128\/191<b3 then (1,65533) else
  if 64*(64*(64*(b0-240)+b1-128)+b2-128)+b3-128<65536\/1114111<64*(64*(64*(b0-240)+b1-128)+b2-128)+b3-128 then (1,65533) else (4,64*(64*(64*(b0-240)+b1-128)+b2-128)+b3-128))
 else (1,65533)
def jxp (n a b1 b2 b3:Nat) (_:1<=n) (d:a<256) (c:b1<256) (b:b2<256) (e:b3<256):jV n a b1 b2 b3=((Lib.decodeN n a b1 b2 b3).2,(Lib.decodeN n a b1 b2 b3).1):=by
 unfold jV Lib.decodeN;repeat' split
 all_goals first|(exfalso;omega)|(apply Prod.ext<;>simp only<;>omega)
def dlt_t {a b:Int}(h:a<b):decide (a<b)=true:=zi h
def jvl {a b:Int}(h:b<=a):decide (a<b)=false:=decide_eq_false zO
def jvm {a b:Int}(h:a<=b):decide (a<=b)=true:=zi h
def jh3 {a b:Int}(h:b<a):decide (a<=b)=false:=decide_eq_false zO
def YY {s:List UInt8}{i:Nat}{x:Int}(kk:IntKind) (h:i<s.length) (a:x=(i:Int)):jaa (.str s) (.int kk x)=some (.int .u8 ((s.getD i 0).toNat:Nat)):=by subst a;simp[jaa,aa h,List.getD]
def ev243 (s:List UInt8) (S:s.length<=1000000) (p:Nat) (h:p<s.length):Ev E 243 [.str s,.int .i64 p]
 (.tup [.int .i64 ((jV (s.length-p) (s.getD p 0).toNat (s.getD (p+1) 0).toNat (s.getD (p+2) 0).toNat (s.getD (p+3) 0).toNat).1:Nat),
  .int .i64 ((jV (s.length-p) (s.getD p 0).toNat (s.getD (p+1) 0).toNat (s.getD (p+2) 0).toNat (s.getD (p+3) 0).toNat).2:Nat)]):=by
 have K:=YY (s:=s) (x:=(p:Int)) .i64 h rfl;have b:p+1<s.length->_:=λh=>YY (s:=s) (x:=(p:Int)+1) .i64 h zS;have e:p+2<s.length->_:=λh=>YY (s:=s) (x:=(p:Int)+2) .i64 h zS;have n:p+3<s.length->_:=λh=>YY (s:=s) (x:=(p:Int)+3) .i64 h zS;have O:=(s.getD p 0).toNat_lt;have T:=(s.getD (p+1) 0).toNat_lt;have U:=(s.getD (p+2) 0).toNat_lt;have N:=(s.getD (p+3) 0).toNat_lt;generalize (s.getD p 0).toNat=d at *;generalize (s.getD (p+1) 0).toNat=i at *;generalize (s.getD (p+2) 0).toNat=k at *;generalize (s.getD (p+3) 0).toNat=r at *;have L:IntKind.i64.wrap (d:Int)=d:=jk zO zO;have P:IntKind.i64.wrap (i:Int)=i:=jk zO zO;have X:IntKind.i64.wrap (k:Int)=k:=jk zO zO;have Q:IntKind.i64.wrap (r:Int)=r:=jk zO zO;refine jQ rfl ?_;conv in(occs:=*)F243=>all_goals cbv
 simp[K,Xy,L];by_cases a1:(d:Int)<128;simp[a1];exact Jx rfl (by simp[jV,show d<128 by omega]) (by simp[jV,show d<128 by omega]) rfl rfl;have a:∀x:Int,-1000000000<=x->x<=1000000000->IntKind.i64.wrap x=x:=λx h M=>jk zO zO;by_cases I:194<=(d:Int)/\(d:Int)<=223
 ·obtain⟨D,v⟩:=I;by_cases m:(s.length:Int)<(p:Int)+2
  ·simp(disch:=omega) [a1,D,v,m,a,jh3,aD]
   exact Jx     rfl (by simp;unfold jV    ;repeat' split
                        all_goals omega) (by simp;unfold jV    ;repeat' split
                                             all_goals omega) rfl rfl
  have b:=b zO;simp(disch:=omega) [a1,D,v,m,a,jh3,aD];refine jb4 2 ?_;by_cases c:(i:Int)<128
  ·simp(disch:=omega) [b,c,a,Xy,aD]
   exact Jx     rfl (by simp;unfold jV    ;repeat' split
                        all_goals omega) (by simp;unfold jV    ;repeat' split
                                             all_goals omega) rfl rfl
  by_cases u:191<(i:Int)
  ·simp(disch:=omega) [b,c,u,a,Xy,aD]
   exact Jx     rfl (by simp;unfold jV    ;repeat' split
                        all_goals omega) (by simp;unfold jV    ;repeat' split
                                             all_goals omega) rfl rfl
  simp(disch:=omega) [b,c,u,a,Xy,aD,jvl,jh3]
  exact Jx     rfl (by simp;unfold jV    ;repeat' split
                       all_goals omega) (by simp;unfold jV    ;repeat' split
                                            all_goals omega) rfl rfl
 by_cases H:224<=(d:Int)/\(d:Int)<=239
 ·obtain⟨t,z⟩:=H;by_cases m:(s.length:Int)<(p:Int)+3
  ·simp(disch:=omega) [a1,t,z,m,a,jvm,jh3,aD]
   exact Jx     rfl (by simp;unfold jV    ;repeat' split
                        all_goals omega) (by simp;unfold jV    ;repeat' split
                                             all_goals omega) rfl rfl
  have b:=b zO;have e:=e zO;simp(disch:=omega) [a1,t,z,m,a,jvm,jh3,aD];refine jb4 3 ?_;by_cases c:(i:Int)<128
  ·simp(disch:=omega) [b,c,a,Xy,aD]
   exact Jx     rfl (by simp;unfold jV    ;repeat' split
                        all_goals omega) (by simp;unfold jV    ;repeat' split
                                             all_goals omega) rfl rfl
  by_cases f:191<(i:Int)
  ·simp(disch:=omega) [b,c,f,a,Xy,aD]
   exact Jx     rfl (by simp;unfold jV    ;repeat' split
                        all_goals omega) (by simp;unfold jV    ;repeat' split
                                             all_goals omega) rfl rfl
  by_cases g:(k:Int)<128
  ·simp(disch:=omega) [b,e,c,f,g,a,Xy,aD]
   exact Jx     rfl (by simp;unfold jV    ;repeat' split
                        all_goals omega) (by simp;unfold jV    ;repeat' split
                                             all_goals omega) rfl rfl
  by_cases j:191<(k:Int)
  ·simp(disch:=omega) [b,e,c,f,g,j,a,Xy,aD]
   exact Jx     rfl (by simp;unfold jV    ;repeat' split
                        all_goals omega) (by simp;unfold jV    ;repeat' split
                                             all_goals omega) rfl rfl
  by_cases l:64*(64*((d:Int)-224)+i-128)+k-128<2048
  ·simp(disch:=omega) [b,e,c,f,g,j,l,a,Xy,aD]
   exact Jx     rfl (by simp;unfold jV    ;repeat' split
                        all_goals omega) (by simp;unfold jV    ;repeat' split
                                             all_goals omega) rfl rfl
  by_cases o:55296<=64*(64*((d:Int)-224)+i-128)+k-128
  ·by_cases G:64*(64*((d:Int)-224)+i-128)+k-128<=57343
   ·simp(disch:=omega) [b,e,c,f,g,j,l,o,G,a,jvl,Xy,aD]
    exact Jx     rfl (by simp;unfold jV    ;repeat' split
                         all_goals omega) (by simp;unfold jV    ;repeat' split
                                              all_goals omega) rfl rfl
   simp(disch:=omega) [b,e,c,f,g,j,l,o,G,a,jvl,Xy,aD]
   exact Jx     rfl (by simp;unfold jV    ;repeat' split
                        all_goals omega) (by simp;unfold jV    ;repeat' split
                                             all_goals omega) rfl rfl
  simp(disch:=omega) [b,e,c,f,g,j,l,o,a,jvl,Xy,aD]
  exact Jx     rfl (by simp;unfold jV    ;repeat' split
                       all_goals omega) (by simp;unfold jV    ;repeat' split
                                            all_goals omega) rfl rfl
 by_cases J:240<=(d:Int)/\(d:Int)<=244
 ·obtain⟨y,w⟩:=J;by_cases m:(s.length:Int)<(p:Int)+4
  ·simp(disch:=omega) [a1,y,w,m,a,jvm,jh3,aD]
   exact Jx     rfl (by simp;unfold jV    ;repeat' split
                        all_goals omega) (by simp;unfold jV    ;repeat' split
                                             all_goals omega) rfl rfl
  have b:=b zO;have e:=e zO;have n:=n zO;simp(disch:=omega) [a1,y,w,m,a,jvm,jh3,aD];refine jb4 4 ?_;by_cases c:(i:Int)<128
  ·simp(disch:=omega) [b,c,a,Xy,aD]
   exact Jx     rfl (by simp;unfold jV    ;repeat' split
                        all_goals omega) (by simp;unfold jV    ;repeat' split
                                             all_goals omega) rfl rfl
  by_cases f:191<(i:Int)
  ·simp(disch:=omega) [b,c,f,a,Xy,aD]
   exact Jx     rfl (by simp;unfold jV    ;repeat' split
                        all_goals omega) (by simp;unfold jV    ;repeat' split
                                             all_goals omega) rfl rfl
  by_cases g:(k:Int)<128
  ·simp(disch:=omega) [b,e,c,f,g,a,Xy,aD]
   exact Jx     rfl (by simp;unfold jV    ;repeat' split
                        all_goals omega) (by simp;unfold jV    ;repeat' split
                                             all_goals omega) rfl rfl
  by_cases j:191<(k:Int)
  ·simp(disch:=omega) [b,e,c,f,g,j,a,Xy,aD]
   exact Jx     rfl (by simp;unfold jV    ;repeat' split
                        all_goals omega) (by simp;unfold jV    ;repeat' split
                                             all_goals omega) rfl rfl
  by_cases B:(r:Int)<128
  ·simp(disch:=omega) [b,e,n,c,f,g,j,B,a,Xy,aD]
   exact Jx     rfl (by simp;unfold jV    ;repeat' split
                        all_goals omega) (by simp;unfold jV    ;repeat' split
                                             all_goals omega) rfl rfl
  by_cases F:191<(r:Int)
  ·simp(disch:=omega) [b,e,n,c,f,g,j,B,F,a,Xy,aD]
   exact Jx     rfl (by simp;unfold jV    ;repeat' split
                        all_goals omega) (by simp;unfold jV    ;repeat' split
                                             all_goals omega) rfl rfl
  by_cases l:64*(64*(64*((d:Int)-240)+i-128)+k-128)+r-128<65536
  ·simp(disch:=omega) [b,e,n,c,f,g,j,B,F,l,a,Xy,aD]
   exact Jx     rfl (by simp;unfold jV    ;repeat' split
                        all_goals omega) (by simp;unfold jV    ;repeat' split
                                             all_goals omega) rfl rfl
  by_cases o:1114111<64*(64*(64*((d:Int)-240)+i-128)+k-128)+r-128
  ·simp(disch:=omega) [b,e,n,c,f,g,j,B,F,l,o,a,Xy,aD]
   exact Jx     rfl (by simp;unfold jV    ;repeat' split
                        all_goals omega) (by simp;unfold jV    ;repeat' split
                                             all_goals omega) rfl rfl
  simp(disch:=omega) [b,e,n,c,f,g,j,B,F,l,o,a,jvm,jh3,Xy,aD]
  exact Jx     rfl (by simp;unfold jV    ;repeat' split
                       all_goals omega) (by simp;unfold jV    ;repeat' split
                                            all_goals omega) rfl rfl
 have q:d<194\/244<d:=zO;rcases q with q|q
 ·simp(disch:=omega) [a1,jh3]
  exact Jx     rfl (by simp;unfold jV    ;repeat' split
                       all_goals omega) (by simp;unfold jV    ;repeat' split
                                            all_goals omega) rfl rfl
 ·simp(disch:=omega) [a1,jvm,jh3]
  exact Jx     rfl (by simp;unfold jV    ;repeat' split
                       all_goals omega) (by simp;unfold jV    ;repeat' split
                                            all_goals omega) rfl rfl
@[simp] theorem str_strip (s:List UInt8):(V.str s).strip=.str s:=rfl
@[simp] theorem j7p (s:List UInt8):(V.str s).pureTop=true:=rfl
@[simp] theorem j50 (s:List UInt8):(V.str s).pureLeaf=true:=rfl
@[simp] theorem sl_strip (t:Option (Nat×Nat)) (nl:Bool) (n:Nat) (cs:List V):(V.sl t nl n cs).strip=.sl none nl n cs:=rfl
@[simp] theorem sl_strip1 (t:Option (Nat×Nat)) (nl:Bool) (n:Nat) (cs:List V):(V.sl t nl n cs).strip1=.sl none nl n cs:=rfl
@[simp] theorem sl_pureTop (nl:Bool) (n:Nat) (cs:List V):(V.sl none nl n cs).pureTop=true:=rfl
@[simp] theorem j7v (nl:Bool) (n:Nat) (cs:List V):(V.sl none nl n cs).pureLeaf=true:=rfl
def rU (s:List UInt8) (p:Nat):Nat:=(Utf8.decode ⟨s.toArray⟩ p).1
def rW (s:List UInt8) (p:Nat):Nat:=(Utf8.decode ⟨s.toArray⟩ p).2
def jx9 {s:List UInt8}{p:Nat}(h:p<s.length):jV (s.length-p) (s.getD p 0).toNat (s.getD (p+1) 0).toNat (s.getD (p+2) 0).toNat (s.getD (p+3) 0).toNat=(rW s p,rU s p):=by rw[jxp _ _ _ _ _ zO (s.getD p 0).toNat_lt (s.getD (p+1) 0).toNat_lt (s.getD (p+2) 0).toNat_lt (s.getD (p+3) 0).toNat_lt];unfold rW rU;rw[Lib.decode_N]
def one_w (n a b1 b2 b3:Nat) (b:1<=n):1<=(jV n a b1 b2 b3).1/\(jV n a b1 b2 b3).1<=n:=by
 unfold jV;repeat' split
 all_goals (simp only;omega)
def j8o (n a b1 b2 b3:Nat) (b:b1<256) (_:b2<256) (h:(jV n a b1 b2 b3).2=65533):(jV n a b1 b2 b3).1=1\/(jV n a b1 b2 b3).1=3:=by
 revert h;unfold jV;repeat' split
 all_goals (intro h;simp at h ⊢;try omega)
def jmg {s:List UInt8}{p:Nat}(h:p<s.length):1<=rW s p/\p+rW s p<=s.length:=by have:=one_w (s.length-p) (s.getD p 0).toNat (s.getD (p+1) 0).toNat (s.getD (p+2) 0).toNat (s.getD (p+3) 0).toNat zO;rw[jx9 h]at this;simp only at this;omega
def rU_bad {s:List UInt8}{p:Nat}(h:p<s.length) (a:rU s p=65533):rW s p=1\/rW s p=3:=by have:=j8o (s.length-p) (s.getD p 0).toNat (s.getD (p+1) 0).toNat (s.getD (p+2) 0).toNat (s.getD (p+3) 0).toNat (s.getD (p+1) 0).toNat_lt (s.getD (p+2) 0).toNat_lt;rw[jx9 h]at this;exact this a
def RN (s:List UInt8) (p:Nat):List Int:=(Xi s (s.length-p) p).map λr=>((r:Nat):Int)
def jf0 (s:List UInt8):JV s=RN s 0:=rfl
def jfz (s:List UInt8):∀(b c p:Nat),s.length<=p+b->s.length<=p+c->Xi s b p=Xi s c p
 |0,0,_,_,_=>rfl
 |0,c+1,p,h,_=>by unfold Xi;rw[za zO]
 |b+1,0,p,_,h=>by unfold Xi;rw[za zO]
 |b+1,c+1,p,h,h'=>by unfold Xi;by_cases a:p<s.length;rw[zb a,zb a];have:=(jmg a).1;unfold rW at this;rw[jfz s b c _ zO zO];rw[za a,za a]
def j1d {s:List UInt8}{p:Nat}(h:p<s.length):RN s p=(rU s p:Int)::RN s (p+rW s p):=by
 have a:=jmg h;unfold RN;obtain⟨n,b⟩:∃n,s.length-p=n+1:=⟨s.length-p-1,zO⟩;rw[b];conv=>lhs;unfold Xi
 rw[zb h,bc];congr 2;exact jfz s _ _ _ (by unfold rW at a;omega) (by unfold rW at a ⊢;omega)
def j62 {s:List UInt8}{p:Nat}(h:s.length<=p):RN s p=[]:=by unfold RN;rw[show s.length-p=0 by omega];rfl
def jii (s:List UInt8):∀(b p:Nat),(Xi s b p).length<=b
 |0,_=>dx _
 |b+1,p=>by unfold Xi;split;have:=jii s b (p+(Utf8.decode ⟨s.toArray⟩ p).2);simp only[bh];omega;simp
def Yp (s:List UInt8):(JV s).length<=s.length:=by rw[jf0,RN,bm];exact jii s _ _
def VD (s:List UInt8) (p:Nat):Bool:=Lib.validD (s.drop p)
def j5f (s:List UInt8) (p:Nat):Lib.decodeL (s.drop p)=(rU s p,rW s p):=Lib.decodeL_drop ⟨s.toArray⟩ p
def VD_step {s:List UInt8}{p:Nat}(h:p<s.length):VD s p=if rU s p=65533/\rW s p=1 then false else VD s (p+rW s p):=by
 have a:s.drop p≠[]:=λe=>by have:=zg List.length e;rw[aY]at this;simp at this;omega
 unfold VD;rw[Lib.validD_step _ a,j5f];simp only[dI]
def VD_end {s:List UInt8}{p:Nat}(h:s.length<=p):VD s p=true:=by unfold VD;rw[bM h];rfl
def j6t (s:List UInt8) (a:s.length<=1000000) (p:Nat) (h:p<s.length):Ev E 243 [.str s,.int .i64 p] (.tup [.int .i64 (rW s p:Nat),.int .i64 (rU s p:Nat)]):=by have:=ev243 s a p h;rw[jx9 h]at this;exact this
def ev188 (s:List UInt8) (m:s.length<=1000000):Ev E 188 [.str s] (.sl (some (0,1)) false (JV s).length ((JV s).flatMap yf)):=by
 refine jQ rfl ?_;conv in(occs:=*)F188=>all_goals cbv
 simp;refine jN (cs:=[]) rfl rfl rfl ?_;simp;refine Yl (n:=s.length) [(3,24)] (λk e=>∃p u a,k=s.length-p/\p<=s.length/\e.tm 4=.int .i64 (p:Nat)/\JV s=a++RN s p/\e.tm 3=.sl (some (u,1)) false a.length (a.flatMap yf)/\e.tk u=true) rfl rfl
  ⟨0,64,[],by simp[jf0]⟩ ?_
 rintro k e ⟨p,u,a,rfl,r,g,b,i,h⟩ f;have j:e.tm 0=.str s:=by rw[f.t 0 zS];simp
 have l:a.length<=1000000:=by have o:=zg List.length b;have v:=Yp s;rw[aw]at o;omega
 by_cases c:p<s.length;have q:=jmg c;simp[g,j,c];refine jL (j6t s m p c) zS rfl rfl ?_;simp[i];refine jN (cs:=[.int .i64 (rU s p)]) (by simp[j6]) rfl rfl ?_;simp;refine XQ (u:=u) (nl:=false) (n:=a.length) (cs:=a.flatMap yf) (ys:=[.int .i64 (rU s p)]) zS (by simp[jf,h]) (by simp[jF]) zS (by rw[j4 j8]) zQ rfl zP zP ?_;simp[g];refine⟨s.length-(p+rW s p),zO,p+rW s p,zO,zO,by rw[jk zO zO];simp,_,a++[(rU s p:Int)],?_,?_,Or.inl rfl⟩;rw[b,j1d c];simp;simp[yf];have:p=s.length:=zO;subst this;simp[g,j];rw[j62 zK,aP]at b;exact jaf (u:=u) (by simp[f.d]) (by simp[i,b]) (zU h)
def ev190 (s:List UInt8) (j:s.length<=1000000):Ev E 190 [.str s] (.bool (Lib.validD s)):=by
 refine jQ rfl ?_;conv in(occs:=*)F190=>all_goals cbv
 simp;refine Yl (n:=s.length) [(2,24)] (λk h=>∃p,k=s.length-p/\p<=s.length/\h.tm 3=.int .i64 (p:Nat)/\Lib.validD s=VD s p) rfl rfl
  ⟨0,by simp[VD]⟩ ?_
 rintro k h ⟨p,rfl,m,c,b⟩ f;have i:h.tm 0=.str s:=by rw[f.t 0 zS];simp
 by_cases a:p<s.length;have l:=jmg a;rw[VD_step a]at b;simp[c,i,a];refine jL (j6t s j p a) zS rfl rfl ?_;by_cases e:rU s p=65533;rcases rU_bad a e with h1|h1;rw[zb ⟨e,h1⟩]at b;simp[e,h1];exact j5 (by simp[f.d]) (by simp[b]) rfl;rw[za zO]at b;simp[e,h1,c];exact⟨s.length-(p+3),zO,p+3,rfl,zO,by rw[jk zO zO];simp,by rw[b,h1]⟩;rw[za zO]at b;have g:((rU s p:Int)==65533)=false:=by rw[zk];omega
 simp[g,c];exact⟨s.length-(p+rW s p),zO,p+rW s p,rfl,zO,by rw[jk zO zO];simp,b⟩;have:p=s.length:=zO;subst this;rw[VD_end zK]at b;simp[c,i];exact j5 (by simp[f.d]) (by simp[b]) rfl
def JS {b:Type}{f:b->List V}{k:Nat}(c:∀a,(f a).length=k) (t:Option (Nat×Nat)) (nl:Bool) (l:List b) (kk:IntKind) {i:Nat}(h:i<l.length):ju k (.sl t nl l.length (l.flatMap f)) (.int kk i)=some (.eptr (l.flatMap f) (i*k)):=by simp only[JF,j4 c];rw[zb zP];rfl
def jp4 {b:Type}{f:b->List V}{k:Nat}(c:∀a,(f a).length=k) (t:Option (Nat×Nat)) (nl:Bool) (l:List b) (kk:IntKind) (h:0<l.length):ju k (.sl t nl l.length (l.flatMap f)) (.int kk 0)=some (.eptr (l.flatMap f) 0):=by have:=JS c t nl l kk h;simpa using this
def jt (l:List Int) {i:Nat}(h:i<l.length):(l.flatMap yf)[i]? = some (.int .i64 l[i]):=by have:=jZ (f:=yf) j8 l h (by decide:0<1);rw[bB,bp]at this;rw[this];rfl
def jib (l:List (List UInt8)) {i:Nat}(h:i<l.length):(l.flatMap Jp)[i]? = some (.str l[i]):=by have:=jZ (f:=Jp) Ym l h (by decide:0<1);rw[bB,bp]at this;rw[this];rfl
def jb {i N:Nat}(h:i<N) (a:N<=1000000000):IntKind.i64.wrap ((i:Int)+1)=(i:Int)+1:=jk zO zO
def dne_t {a b:Int}(h:a<b\/b<a):(a != b)=true:=by simp;omega
def dne_f {a b:Int}(h:a=b):(a != b)=false:=by simp[h]
def jg3:List Int->Bool
 |[]=>false
 |c::_=>Wx c
def nmOk (l:List Int):Bool:=decide (1<=l.length)&&decide (l.length<=20) && !(jg3 l)&&l.all jdq
def jkv (s:List UInt8):Bool:=!j8f s&&Lib.validD s&&nmOk (JV s)
def jkz (a b:List UInt8):Bool:=decide (jnz (JV a) (JV b)<0)
def juo (t:List (List UInt8)) (j:Nat):Bool:=jkv (t.getD j [])&&(j==0||jkz (t.getD (j-1) []) (t.getD j []))
def j1h (t:List (List UInt8)):Bool:=(List.range t.length).all (juo t)
def j0a {l:List Int}(h:0<l.length):jg3 l=Wx l[0]:=by
 cases l with
 |nil=>simp at h
 |cons a l=>rfl
def all_at {b:Type}{p:b->Bool}{l:List b}(h:∀j (a:j<l.length),p l[j]=true):l.all p=true:=by rw[av];intro x c;obtain⟨j,a,rfl⟩:=ba c;exact h j a
def jqo {a:Type}{p:a->Bool}{l:List a}{j:Nat}(b:j<l.length) (h:p l[j]=false):l.all p=false:=by rw[fF];exact⟨_,au b,by rw[h];decide⟩
def juc (c:Int):(jdq c=false/\(c<48\/(57<c/\c<65)\/(90<c/\c<95)\/c=96\/(122<c/\c<128)))\/(jdq c=true/\((48<=c/\c<=57)\/(65<=c/\c<=90)\/c=95\/(97<=c/\c<=122)\/127<c)):=by simp[jdq,Wx];omega
def L126:C:=.seq (.seq (.region [
 ⟨(some 37),.mov (.t 4),none,false⟩,
 ⟨(some 38),.mov (.t 3),none,false⟩,
 ⟨(some 39),.lenSl (.t 38),none,false⟩,
 ⟨(some 40),.bin .lss (.t 37) (.t 39),none,false⟩])
 (.cond (.t 40) (.skip)
  (.exit 0)))
 (.seq (.block 1 (.seq (.region [
  ⟨(some 43),.mov (.t 3),none,false⟩,
  ⟨(some 44),.mov (.t 4),none,false⟩,
  ⟨(some 45),.idxSl 1 (.t 43) (.t 44),none,false⟩,
  ⟨(some 46),.load none (.t 45),none,false⟩,
  ⟨(some 5),.mov (.t 46),none,false⟩])
  (.seq (.region [
   ⟨(some 47),.mov (.t 5),none,false⟩,
   ⟨(some 48),.bin .lss (.t 47) (.c (.int .i64 128)),none,false⟩,
   ⟨(some 49),.mov (.t 48),none,false⟩,
   ⟨(some 50),.mov (.t 5),(some (49,true)),false⟩,
   ⟨(some 51),.bin .neq (.t 50) (.c (.int .i64 95)),(some (49,true)),false⟩,
   ⟨(some 52),.pick (.t 49) (.t 51) (.c (.bool false)),none,false⟩,
   ⟨(some 53),.mov (.t 52),none,false⟩,
   ⟨(some 54),.mov (.t 5),(some (53,true)),false⟩,
   ⟨(some 55),.bin .lss (.t 54) (.c (.int .i64 48)),(some (53,true)),false⟩,
   ⟨(some 56),.mov (.t 55),(some (53,true)),false⟩,
   ⟨(some 57),.mov (.t 5),(some (56,false)),false⟩,
   ⟨(some 58),.bin .gtr (.t 57) (.c (.int .i64 57)),(some (56,false)),false⟩,
   ⟨(some 59),.pick (.t 56) (.c (.bool true)) (.t 58),(some (53,true)),false⟩,
   ⟨(some 60),.pick (.t 53) (.t 59) (.c (.bool false)),none,false⟩,
   ⟨(some 61),.mov (.t 60),none,false⟩,
   ⟨(some 62),.mov (.t 5),(some (61,true)),false⟩,
   ⟨(some 63),.bin .lss (.t 62) (.c (.int .i64 65)),(some (61,true)),false⟩,
   ⟨(some 64),.mov (.t 63),(some (61,true)),false⟩,
   ⟨(some 65),.mov (.t 5),(some (64,false)),false⟩,
   ⟨(some 66),.bin .gtr (.t 65) (.c (.int .i64 90)),(some (64,false)),false⟩,
   ⟨(some 67),.pick (.t 64) (.c (.bool true)) (.t 66),(some (61,true)),false⟩,
   ⟨(some 68),.pick (.t 61) (.t 67) (.c (.bool false)),none,false⟩,
   ⟨(some 69),.mov (.t 68),none,false⟩,
   ⟨(some 70),.mov (.t 5),(some (69,true)),false⟩,
   ⟨(some 71),.bin .lss (.t 70) (.c (.int .i64 97)),(some (69,true)),false⟩,
   ⟨(some 72),.mov (.t 71),(some (69,true)),false⟩,
   ⟨(some 73),.mov (.t 5),(some (72,false)),false⟩,
   ⟨(some 74),.bin .gtr (.t 73) (.c (.int .i64 122)),(some (72,false)),false⟩,
   ⟨(some 75),.pick (.t 72) (.c (.bool true)) (.t 74),(some (69,true)),false⟩,
   ⟨(some 76),.pick (.t 69) (.t 75) (.c (.bool false)),none,false⟩])
   (.cond (.t 76) (.seq (.region [
    ⟨(some 2),.mov (.c (.bool false)),none,false⟩])
    (.ret))
    (.skip)))))
  (.region [
   ⟨(some 41),.mov (.t 4),none,false⟩,
   ⟨(some 42),.bin .add (.t 41) (.c (.int .i64 1)),none,false⟩,
   ⟨(some 4),.mov (.t 42),none,false⟩]))
def ev128 (s:List UInt8) (B:s.length<=1000000):Ev E 128 [.str s] (.bool (jkv s)):=by
 refine jQ rfl ?_;conv in(occs:=*)F128=>all_goals cbv
 simp;refine jL (ev188 s B) zS rfl rfl ?_;have H:=Yp s;unfold jkv nmOk;generalize I:JV s=l at *;simp[Xt,yx,V.toks,V.tok,ja9,Qa,Y4];by_cases a1:(l.length:Int)<1;simp[a1];exact j5 rfl zP rfl;by_cases a2:20<(l.length:Int);simp[a1,a2];exact j5 rfl zP rfl;have g:0<l.length:=zO;have u:=j0a g;simp[a1,a2];refine jL (ev189 s) zS rfl rfl ?_;cases b1:j8f s;case true=>simp;exact j5 rfl zS rfl
 simp;refine jL (ev190 s B) zS rfl rfl ?_;cases b2:Lib.validD s;case false=>simp;exact j5 rfl zS rfl
 have e:∀{k:St},k.df=[]->k.tm 4=.int .i64 0->k.tm 3=.sl (some (128,1)) false l.length (l.flatMap yf)->jg3 l=false ->
  wpC E YU (.loop L126) k (kBlk 0 (juz E YU (.seq (.region [⟨(some 2),.mov (.c (.bool true)),none,false⟩]) (.ret)) (j6e [.t 2] (.bool (!false&&true&&(decide (1<=l.length)&&decide (l.length<=20) && !(jg3 l)&&l.all jdq)))))):=by
  intro k y n F G
  refine j9 [(2,2),(4,5),(37,76)] l.length (λi s=>s.tm 4=.int .i64 i/\∀j (m:j<l.length),j<i->jdq l[j]=true) rfl rfl ⟨by simp[n],λj _ h=>by omega⟩ ?_
  rintro i s J ⟨n,z⟩ f
  have w:s.tm 3=.sl (some (128,1)) false l.length (l.flatMap yf):=by rw[f.t 3 zS];simp[F]
  by_cases b:i<l.length
  ·have D:=jb b zO;obtain⟨c,p⟩:∃c,l[i]=c:=⟨_,rfl⟩;have a:=jt l b;rw[p]at a;rcases juc c with⟨v,q⟩|⟨v,q⟩
   ·rcases q with q|q|q|q|q;all_goals
     simp(disch:=omega) [L126,n,w,b,JS j8,a,dlt_t,jvl,dne_t]
     exact j5 (by simp[f.d,y]) (by simp[jqo b (p▸v)]) rfl
   ·rcases q with q|q|q|q|q;all_goals
     simp(disch:=omega) [L126,n,w,b,JS j8,a,dlt_t,jvl,dne_t,dne_f,D]
     intro j m x
     rcases bg.1 x with h|rfl
     ·exact z j m h
     ·exact p▸v
  ·have:i=l.length:=zO;subst this;simp[L126,n,w];exact j5 (by simp[f.d,y]) (by simp[G,all_at (λj m=>z j m m)];omega) rfl
 obtain⟨c,p⟩:∃c,l[0]=c:=⟨_,rfl⟩;have a:=jt l g;rw[p]at u a;by_cases o:48<=c;by_cases r:c<=57;simp[jp4 j8 _ _ l _ g,a,o,r];exact j5 rfl (by simp[u,Wx,o,r]) rfl;simp[jp4 j8 _ _ l _ g,a,o,r];exact e rfl zS zS (by simp[u,Wx,r]);simp[jp4 j8 _ _ l _ g,a,o];exact e rfl zS zS (by simp[u,Wx,o])
def cmpI_lt (a b:Int):(j1k a b<0)=(a<b):=by unfold j1k;split;simp[*];split<;>simp[*]
def cmpI_z {a b:Int}:j1k a b=0 ↔ a=b:=by unfold j1k;split;simp;omega;split;simp;omega;simp;omega
def ev129 (a b:List UInt8) (I:a.length<=1000000) (G:b.length<=1000000):Ev E 129 [.str a,.str b] (.bool (jkz a b)):=by
 refine jQ rfl ?_;conv in(occs:=*)F129=>all_goals cbv
 simp;refine jL (ev188 a I) zS rfl rfl ?_;have D:=Yp a;have H:=Yp b;unfold jkz;simp[Xt,yx,V.toks,V.tok,ja9,Qa,Y4];refine jL (ev188 b G) zS rfl rfl ?_;generalize JV a=x at *;generalize JV b=y at *;simp[Xt,yx,V.toks,V.tok,ja9,Qa,Y4];refine j9 [(4,4),(7,7),(12,41)] x.length (λi s=>s.tm 7=.int .i64 i/\i<=y.length/\jnz (x.drop i) (y.drop i)=jnz x y) rfl rfl ⟨zS,zS,zS⟩ ?_;rintro i s J ⟨r,F,k⟩ f;have o:s.tm 5=.sl (some (128,1)) false x.length (x.flatMap yf):=by rw[f.t 5 zS];simp
 have p:s.tm 6=.sl (some (256,1)) false y.length (y.flatMap yf):=by rw[f.t 6 zS];simp
 have n:s.df=[]:=by rw[f.d];simp
 clear f;by_cases j:i<x.length;by_cases g:i<y.length;have B:=jb j zO;rw[aR j,aR g,jnz]at k;obtain⟨c,z⟩:∃c,x[i]=c:=⟨_,rfl⟩;obtain⟨d,v⟩:∃d,y[i]=d:=⟨_,rfl⟩;have l:=jt x j;have m:=jt y g;rw[z]at k l;rw[v]at k m;by_cases q:c=d;rw[zb (cmpI_z.2 q)]at k;simp[r,o,p,j,g,JS j8,l,m,q,B];exact⟨zO,k⟩;rw[za (λh=>q (cmpI_z.1 h))]at k;have w:(c != d)=true:=by simpa using q
 simp[r,o,p,j,g,JS j8,l,m,w];exact j5 (by simp[n]) (by simp[<- k,cmpI_lt]) rfl;have e:y.drop i=[]:=bM zO;rw[aR j,e,jnz]at k;have u:¬x.length<y.length:=zO;simp[r,o,p,j,g];exact j5 (by simp[n]) (by simp[<- k,u]) rfl;have:i=x.length:=zO;subst this;rw[dc]at k;simp[r,o,p];by_cases g:x.length<y.length;rw[aR g,jnz]at k;exact j5 (by simp[n]) (by simp[<- k,g]) rfl;rw[bM (by omega:y.length<=x.length),jnz]at k;exact j5 (by simp[n]) (by simp[<- k,g]) rfl
def j5z {t:List (List UInt8)}(h:∀j,j<t.length->juo t j=true):j1h t=true:=av.2 λj a=>h j (aM.1 a)
def jq2 {t:List (List UInt8)}{j:Nat}(a:j<t.length) (h:juo t j=false):j1h t=false:=fF.2 ⟨j,aM.2 a,by rw[h];decide⟩
def JN {a:Type}{l:List a}{i:Nat}{d:a}(h:i<l.length):l.getD i d=l[i]:=by simp[List.getD,h]
def wrapP {i:Nat}(h:0<i) (a:i<=1000000000):IntKind.i64.wrap ((i:Int)-1)=((i-1:Nat):Int):=by rw[jk zO zO];omega
def ev79 (nl:Bool) (t:List (List UInt8)) (J:t.length<=1000000) (z:∀s∈t,s.length<=1000000):Ev E 79 [yl nl Jp t] (.bool (j1h t)):=by
 refine jQ rfl ?_;conv in(occs:=*)F79=>all_goals cbv
 simp;refine j9 [(2,4),(5,32)] t.length (λi s=>s.tm 3=.int .i64 i/\∀j,j<t.length->j<i->juo t j=true) rfl rfl ⟨zS,λj _ h=>by omega⟩ ?_;rintro i s I ⟨o,D⟩ f;have w:s.tm 0=yl nl Jp t:=by rw[f.t 0 zS];simp
 have v:s.df=[]:=by rw[f.d];simp
 clear f;by_cases a:i<t.length;have F:=jb a zO;have b:juo t i=(jkv t[i]&&(i==0||jkz (t.getD (i-1) []) t[i])):=by unfold juo;rw[JN a]
 have k:=z _ (au a);obtain⟨c,H⟩:∃c,t[i]=c:=⟨_,rfl⟩;have l:=jib t a;rw[H]at b l k;have jec:juo t i=true->∀j,j<t.length->j<i+1->juo t j=true:=λh j m x=>by rcases bg.1 x with h'|rfl;exact D j m h';exact h
 simp[o,w,a,j7 Ym,l];refine Jb (ev128 c k) zS rfl rfl ?_;cases q:jkv c;rw[q]at b;simp;exact j5 (by simp[v]) (by simp[jq2 a b]) rfl;rw[q]at b;by_cases B:i=0;subst B;simp[o];exact⟨a,zQ,λj m h=>by subst h;exact jec (by simp[b]) 0 m zO⟩;have u:0<i:=zO;have y:=wrapP u zO;have g:i-1<t.length:=zO;have p:=z _ (au g);have n:=jib t g;rw[JN g]at b;obtain⟨e,G⟩:∃e,t[i-1]=e:=⟨_,rfl⟩;rw[G]at b n p;simp[o,w,u,y,g,j7 Ym,n,a,l];refine Jb (ev129 e c p k) zS rfl rfl ?_;cases r:jkz e c;simp;exact j5 (by simp[v]) (by simp[jq2 a (by simp[b,r,B])]) rfl;simp[o,F];exact⟨a,jec (by simp[b,r])⟩;have:i=t.length:=zO;subst this;simp[o,w];exact j5 (by simp[v]) (by simp[j5z (λj m=>D j m m)]) rfl
def jfm {a b:Nat}(d:a<2^64) (c:b<2^64):YN .or (.int .u64 (a:Int)) (.int .u64 (b:Int))=some (.int .u64 ((a|||b:Nat):Int)):=by
 have h:a|||b<2^64:=dP d c;simp only[YN,Xb,zd];have e:(BitVec.ofInt IntKind.u64.bits (a:Int)|||BitVec.ofInt IntKind.u64.bits (b:Int)).toNat=a|||b:=by rw[BitVec.toNat_or,dR,dR,fy,fy];rw[show IntKind.u64.bits=64 from rfl,eu d,eu c]
 rw[e,IntKind.wrap_u64];congr 2;omega
def joq {a b:Nat}{m:Int}(d:m=(b:Int)) (f:a<2^64) (c:b<2^64):YN .and (.int .u64 (a:Int)) (.int .u64 m)=some (.int .u64 ((a&&&b:Nat):Int)):=by
 subst d;have h:a&&&b<2^64:=Nat.and_lt_two_pow _ c;simp only[YN,Xb,zd];have e:(BitVec.ofInt IntKind.u64.bits (a:Int)&&&BitVec.ofInt IntKind.u64.bits (b:Int)).toNat=a&&&b:=by rw[BitVec.toNat_and,dR,dR,fy,fy];rw[show IntKind.u64.bits=64 from rfl,eu f,eu c]
 rw[e,IntKind.wrap_u64];congr 2;omega
def jwm {a k:Nat}{m:Int}(b:m=(k:Int)) (c:k<=64) (h:a*2^k<2^64):YN .shl (.int .u64 (a:Int)) (.int .u64 m)=some (.int .u64 ((a*2^k:Nat):Int)):=by subst b;simp only[YN,jal];rw[za zO];simp only[aX,show IntKind.u64.bits=64 from rfl,cC c];rw[IntKind.wrap_u64];congr 2;have:((a:Int)*2^k)=((a*2^k:Nat):Int):=zS;rw[this];omega
def Jq {l:List UInt8}{kk:IntKind}{k:Nat}{x:Int}(a:x=(k:Int)) (h:k<=l.length):Y1 (some (.int kk x)) none (.str l)=some (.str (l.drop k)):=by subst a;simp[Y1,Js,h]
def wd (l:List UInt8):Nat:=Lib.leNat (l.take 8)
def or_add (a b k:Nat) (h:a<2^k):a|||b*2^k=a+b*2^k:=by have:=Nat.shiftLeft_add_eq_or_of_lt h b;rw[Nat.shiftLeft_eq]at this;rw[Nat.or_comm,<- this,fl]
def wd_8 (a b c d e f g h:UInt8) (t:List UInt8):wd (a::b::c::d::e::f::g::h::t) =
 a.toNat+b.toNat*2^8+c.toNat*2^16+d.toNat*2^24+e.toNat*2^32+f.toNat*2^40+g.toNat*2^48+h.toNat*2^56:=by
 simp only[wd,List.take,Lib.leNat];omega
def jfv (x:UInt8) (k:Nat) {m:Int}(a:m=(k:Int)) (d:k<=56):∃B:Nat,B=x.toNat*2^k/\YN .shl (.int .u64 (x.toNat:Int)) (.int .u64 m)=some (.int .u64 (B:Int)):=by
 have c:=x.toNat_lt;have b:x.toNat*2^k<2^64:=by
  calc x.toNat*2^k<2^8*2^k:=Nat.mul_lt_mul_of_pos_right c (Nat.two_pow_pos k)
   _=2^(8+k):=(Nat.pow_add ..).symm
   _<=2^64:=cu zQ zO
 exact⟨_,rfl,jwm a zO b⟩
def jpb {O B:Nat}(k c:Nat) (h:O<2^k) (b:B=c*2^k) (d:c<2^8) (e:k<=56):∃a:Nat,a=O+B/\a<2^(k+8)/\YN .or (.int .u64 (O:Int)) (.int .u64 (B:Int))=some (.int .u64 (a:Int)):=by
 have f:B+2^k<=2^(k+8):=by rw[b,Nat.pow_add,Nat.mul_comm (2^k),<- cJ];exact bf _ d
 have g:2^(k+8)<=2^64:=cu zQ zO;refine⟨O+B,rfl,zO,?_⟩;rw[jfm zO zO,b,or_add _ _ _ h]
def jqe (l:List UInt8) (hl:8<=l.length):Ev E 250 [.str l] (.int .u64 (wd l)):=by
 match l,hl with
 |a::b::c::d::e::f::g::h::t,_=>
  rw[wd_8];have l0:=a.toNat_lt;have l1:=b.toNat_lt;have l2:=c.toNat_lt;have Z:=d.toNat_lt;have l4:=e.toNat_lt;have l5:=f.toNat_lt;have l6:=g.toNat_lt;have l7:=h.toNat_lt;refine jQ rfl ?_;have cv:∀x:UInt8,Xy .u64 (.int .u8 (x.toNat:Int))=some (.int .u64 (x.toNat:Int)):=λx=>by have:=x.toNat_lt;simp only[Xy,IntKind.wrap_u64];congr 2;omega
  have j:∀(s:List UInt8) (i:Nat) (x:UInt8) (y:Int),y=(i:Int)->s[i]? = some x->jaa (.str s) (.int .i64 y)=some (.int .u8 (x.toNat:Int)):=by intro s i x y hy hx;subst hy;simp[jaa,hx]
  have i0:=j (a::b::c::d::e::f::g::h::t) 0 a 0 rfl rfl;have i1:=j (a::b::c::d::e::f::g::h::t) 1 b 1 rfl rfl;have S:=j (a::b::c::d::e::f::g::h::t) 2 c 2 rfl rfl;have i3:=j (a::b::c::d::e::f::g::h::t) 3 d 3 rfl rfl;have i4:=j (a::b::c::d::e::f::g::h::t) 4 e 4 rfl rfl;have i5:=j (a::b::c::d::e::f::g::h::t) 5 f 5 rfl rfl;have i6:=j (a::b::c::d::e::f::g::h::t) 6 g 6 rfl rfl;have i7:=j (a::b::c::d::e::f::g::h::t) 7 h 7 rfl rfl;obtain⟨B1,k,s1⟩:=jfv b 8 (m:=8) rfl zQ;obtain⟨B2,u,s2⟩:=jfv c 16 (m:=16) rfl zQ;obtain⟨B3,p,s3⟩:=jfv d 24 (m:=24) rfl zQ;obtain⟨B4,q,P⟩:=jfv e 32 (m:=32) rfl zQ;obtain⟨B5,o,s5⟩:=jfv f 40 (m:=40) rfl zQ;obtain⟨B6,v,s6⟩:=jfv g 48 (m:=48) rfl zQ;obtain⟨B7,r,s7⟩:=jfv h 56 (m:=56) rfl zQ;obtain⟨O1,w,M,o1⟩:=jpb (O:=a.toNat) 8 _ l0 k l1 zQ;obtain⟨O2,D,K,o2⟩:=jpb (O:=O1) 16 _ M u l2 zQ;obtain⟨O3,B,I,o3⟩:=jpb (O:=O2) 24 _ K p Z zQ;obtain⟨O4,H,N,o4⟩:=jpb (O:=O3) 32 _ I q l4 zQ;obtain⟨O5,z,J,U⟩:=jpb (O:=O4) 40 _ N o l5 zQ;obtain⟨T,G,L,Q⟩:=jpb (O:=O5) 48 _ J v l6 zQ;obtain⟨O7,F,q7,X⟩:=jpb (O:=T) 56 _ L r l7 zQ;have n:O7=a.toNat+b.toNat*2^8+c.toNat*2^16+d.toNat*2^24+e.toNat*2^32+f.toNat*2^40+g.toNat*2^48+h.toNat*2^56:=zO;rw[<- n];clear n k u p q o v r F q7 G L z J H N B I D K w M;simp[F250,cv,i0,i1,S,i3,i4,i5,i6,i7,s1,o1,s2,o2,s3,o3,P,o4,s5,U,s6,Q,s7,X];exact j5 rfl zS rfl
end Go.Pv.T
