/- Part. -/
import Derived.Test.YtmanndcfeicokaaGreatDoorTAE
set_option maxRecDepth 100000
set_option maxHeartbeats 8000000
set_option linter.all false
namespace Go.Pv.T
open Go Go.Pv
def eval_g1 (tm:Nat->V):ye E tm (.g 2)=.eptr utf8first 0:=rfl
def eval_g2 (tm:Nat->V):ye E tm (.g 3)=.eptr accR 0:=rfl
def j4y (b:Nat) (h:b<256):utf8first[b]? = some (.int .u8 (Lib.firstT b:Nat)):=by unfold utf8first;rw[aV,dp h];rfl
def acc_at (y:Nat) (h:y<16):(accR.drop (y*2)).take 2=[.int .u8 (Lib.accLo y:Nat),.int .u8 (Lib.accHi y:Nat)]:=by have:y=0\/y=1\/y=2\/y=3\/y=4\/y=5\/y=6\/y=7\/y=8\/y=9\/y=10\/y=11\/y=12\/y=13\/y=14\/y=15:=zO;rcases this with h|h|h|h|h|h|h|h|h|h|h|h|h|h|h|h<;>subst h<;>rfl
def and7:∀x:Fin 256,IntKind.u8.wrap ((BitVec.ofInt IntKind.u8.bits ((x.val:Nat):Int)&&&BitVec.ofInt IntKind.u8.bits 7).toNat:Int)=((x.val % 8:Nat):Int):=by decide +kernel
def j7h (x:Nat) (h:x<256):YN .and (.int .u8 (x:Int)) (.int .u8 7)=some (.int .u8 ((x % 8:Nat):Int)):=by simp only[YN,Xb,zd];have:=and7 ⟨x,h⟩;simp only at this;rw[this]
def j7g (x:Nat) (_:x<256):YN .shr (.int .u8 (x:Int)) (.int .u64 4)=some (.int .u8 ((x/16:Nat):Int)):=by
 simp only[YN,jal];rw[za zQ];have e:min (Int.toNat 4) IntKind.u8.bits=4:=by decide
 rw[e];congr 2;rw[iu _ zQ];omega
def j4w (b:Nat):Lib.firstT b<256:=by
 unfold Lib.firstT;repeat' split
 all_goals omega
abbrev M8:Nat:=9259542123273814144
def joo (l:List UInt8):wd l<2^64:=by
 have h:=Lib.leNat_lt (l.take 8);have a:(256:Nat)^(l.take 8).length<=256^8:=cu zQ (by rw[ai];omega);have b:(256:Nat)^8=2^64:=by decide
 unfold wd;omega
def Q6 {l:List UInt8}(a:8<=l.length) (h:wd l&&&M8=0):Lib.validD l=Lib.validD (l.drop 8):=by
 have e:(l.take 8).length=8:=by rw[ai];omega
 have:=(Lib.leNat_mask (l.take 8)).1 (by rw[e,Lib.maskN8];exact h);exact Lib.validD_ascii 8 l this
def j09 (w:Nat) (a:w<2^64):∃q:Nat,q=w&&&M8/\YN .and (.int .u64 (w:Int)) (.int .u64 9259542123273814144)=some (.int .u64 (q:Int)) :=
 ⟨_,rfl,joq (b:=M8) rfl a zQ⟩
def jrq {a b:Nat}(d:a<2^64) (c:b<2^64):∃q:Nat,q=a|||b/\q<2^64/\YN .or (.int .u64 (a:Int)) (.int .u64 (b:Int))=some (.int .u64 (q:Int)) :=
 ⟨_,rfl,dP d c,jfm d c⟩
def beq0 (q:Nat):((q:Int)==0)=decide (q=0):=by rw[bz];simp
def ev198 (s:List UInt8) (_:s.length<=1000000):Ev E 198 [.str s] (.bool (Lib.validD s)):=by
 refine jQ rfl ?_;conv in(occs:=*)F198=>all_goals cbv
 simp;refine Yl (n:=s.length) [(0,200)] (λk st=>∃l,k=l.length/\st.tm 0=.str l/\Lib.validD s=Lib.validD l/\l.length<=s.length) rfl rfl ⟨s,zS⟩ ?_;rintro k st ⟨l,rfl,p,hv,hl⟩ f;have H:st.df=[]:=by rw[f.d];simp
 have fb:st.fb=0:=by rw[f.b];simp
 have fr:st.ro=0:=by rw[f.r];simp
 clear f;cases J:l with
 |nil=>subst J;simp[p];exact j5 (by simp[H]) (by simp[hv];rfl) rfl
 |cons b t=>
 rw[<- J];have h3:l.length=t.length+1:=by rw[J];rfl
 have g3:=b.toNat_lt;have M:l.getD 0 0=b:=by rw[J];rfl
 have i0:jaa (.str l) (.int .i64 0)=some (.int .u8 (b.toNat:Int)):=by have:=YY (s:=l) (i:=0) (x:=0) .i64 zO rfl;rw[M]at this;exact this
 have O:0<l.length:=zO;by_cases hb:(b.toNat:Int)<128;have c4:Lib.validD s=Lib.validD t:=by rw[hv,J,Lib.validD_cons b t zO]
 have d1:Y1 (some (.int .i64 1)) none (.str l)=some (.str t):=by rw[Jq (k:=1) (x:=1) rfl (by omega:1<=l.length),J];rfl
 by_cases h8:8<(t.length:Int);obtain⟨w,hw⟩:∃w,wd t=w:=⟨_,rfl⟩;have g8:w<2^64:=hw▸joo t;obtain⟨q,hq,aq⟩:=j09 w g8;simp[p,O,i0,hb,d1,h8];refine jL (jqe t zO) zS rfl rfl ?_;rw[hw];by_cases c5:q=0;have T:Lib.validD s=Lib.validD (t.drop 8):=by rw[c4,Q6 zO (by rw[hw,<- hq,c5])]
 have d8:Y1 (some (.int .i64 8)) none (.str t)=some (.str (t.drop 8)):=Jq (k:=8) rfl zO;have g1:(t.drop 8).length=t.length-8:=aY;obtain⟨u,hu⟩:∃u,t.drop 8=u:=⟨_,rfl⟩;rw[hu]at T d8 g1;simp[aq,c5,d8];by_cases d0:16<(u.length:Int);have c6:Y1 (some (.int .i64 8)) none (.str u)=some (.str (u.drop 8)):=Jq (k:=8) rfl zO;have d6:Y1 (some (.int .i64 16)) none (.str u)=some (.str (u.drop 16)):=Jq (k:=16) rfl zO;have g4:(u.drop 8).length=u.length-8:=aY;obtain⟨w1,c3⟩:∃w,wd u=w:=⟨_,rfl⟩;obtain⟨w2,b9⟩:∃w,wd (u.drop 8)=w:=⟨_,rfl⟩;obtain⟨o,ho,g7,oo⟩:=jrq (c3▸joo u) (b9▸joo (u.drop 8));obtain⟨q2,h2,f7⟩:=j09 o g7;have e1:=jqe u zO;have G:=jqe (u.drop 8) zO;rw[c3]at e1;rw[b9]at G;obtain⟨u8,U⟩:∃x,u.drop 8=x:=⟨_,rfl⟩;rw[U]at c6 G g4;simp[d0];refine Jb e1 zS rfl rfl ?_;simp[c6];refine Jb G zS rfl rfl ?_;by_cases Q:q2=0;have f6:=(Lib.or_mask w1 w2 M8).1 (by rw[<- ho,<- h2,Q]);have b5:Lib.validD s=Lib.validD (u.drop 16):=by rw[T,Q6 zO (by rw[c3];exact f6.1),U,Q6 zO (by rw[<- U,b9];exact f6.2),<- U,dI]
 have d4:(u.drop 16).length=u.length-16:=aY;obtain⟨v,g9⟩:∃x,u.drop 16=x:=⟨_,rfl⟩;rw[g9]at d6 b5 d4;simp[oo,f7,Q,d6];refine Yl (n:=v.length) [(0,0),(42,64)] (λk st=>∃x,k=x.length/\st.tm 0=.str x/\Lib.validD s=Lib.validD x/\x.length<=v.length) rfl rfl ⟨v,by simp[b5]⟩ ?_;rintro k h5 ⟨x,rfl,g0,gv,gl⟩ _;by_cases c9:32<(x.length:Int);have f0:Y1 (some (.int .i64 8)) none (.str x)=some (.str (x.drop 8)):=Jq (k:=8) rfl zO;have b6:Y1 (some (.int .i64 16)) none (.str x)=some (.str (x.drop 16)):=Jq (k:=16) rfl zO;have b0:Y1 (some (.int .i64 24)) none (.str x)=some (.str (x.drop 24)):=Jq (k:=24) rfl zO;have b7:Y1 (some (.int .i64 32)) none (.str x)=some (.str (x.drop 32)):=Jq (k:=32) rfl zO;have e6:(x.drop 32).length=x.length-32:=aY;obtain⟨y0,X⟩:∃w,wd x=w:=⟨_,rfl⟩;obtain⟨y1,S⟩:∃w,wd (x.drop 8)=w:=⟨_,rfl⟩;obtain⟨y2,Z⟩:∃w,wd (x.drop 16)=w:=⟨_,rfl⟩;obtain⟨y3,a0⟩:∃w,wd (x.drop 24)=w:=⟨_,rfl⟩;obtain⟨p1,e5,d2,f9⟩:=jrq (X▸joo x) (S▸joo (x.drop 8));obtain⟨p2,d3,d5,c7⟩:=jrq (Z▸joo (x.drop 16)) (a0▸joo (x.drop 24));obtain⟨p3,c8,e0,f1⟩:=jrq d2 d5;obtain⟨q3,d9,f8⟩:=j09 p3 e0;have e1:=jqe x zO;have G:=jqe (x.drop 8) (by rw[aY];omega);have e3:=jqe (x.drop 16) (by rw[aY];omega);have e4:=jqe (x.drop 24) (by rw[aY];omega);rw[X]at e1;rw[S]at G;rw[Z]at e3;rw[a0]at e4;have b8:q3=0->Lib.validD s=Lib.validD (x.drop 32):=by
  intro hz;rw[d9,c8,Lib.or_mask,e5,d3,Lib.or_mask,Lib.or_mask]at hz;obtain⟨⟨z0,z1⟩,z2,z3⟩:=hz;rw[gv,Q6 zO (by rw[X];exact z0),Q6 (by rw[aY];omega) (by rw[S];exact z1),dI,
   Q6 (by rw[aY];omega) (by rw[Z];exact z2),dI,Q6 (by rw[aY];omega) (by rw[a0];exact z3),dI]
 clear X S Z a0 e5 d3 c8 d9;obtain⟨x8,g5⟩:∃z,x.drop 8=z:=⟨_,rfl⟩;obtain⟨h6,d7⟩:∃z,x.drop 16=z:=⟨_,rfl⟩;obtain⟨h4,e9⟩:∃z,x.drop 24=z:=⟨_,rfl⟩;obtain⟨f5,e7⟩:∃z,x.drop 32=z:=⟨_,rfl⟩;rw[g5]at f0 G;rw[d7]at b6 e3;rw[e9]at b0 e4;rw[e7]at b7 e6 b8;simp[g0,c9];refine Jb e1 zS rfl rfl ?_;simp[f0,g0];refine Jb G zS rfl rfl ?_;simp[b6,f9,g0];refine Jb e3 zS rfl rfl ?_;simp[b0,g0];refine Jb e4 zS rfl rfl ?_;by_cases P:q3=0;simp[c7,f1,f8,P,b7,g0];exact⟨f5.length,zO,f5,rfl,rfl,b8 P,zO⟩;simp[c7,f1,f8,beq0,P,g0];exact⟨x.length,zO,x,rfl,rfl,gv,zO⟩;simp[g0,c9];exact⟨x.length,zO,x,rfl,rfl,gv,zO⟩;simp[oo,f7,beq0,Q];exact⟨u.length,zO,u,rfl,rfl,T,zO⟩;simp[d0];exact⟨u.length,zO,u,rfl,rfl,T,zO⟩;simp[aq,beq0,c5];exact⟨t.length,zO,t,rfl,rfl,c4,zO⟩;simp[p,O,i0,hb,d1,h8];exact⟨t.length,zO,t,rfl,rfl,c4,zO⟩;have a:=Lib.validD_lead l (by rw[J];simp) (by rw[M];omega);rw[M]at a;rw[<- hv]at a;obtain⟨x,hx⟩:∃x,Lib.firstT b.toNat=x:=⟨_,rfl⟩;have N:x<256:=hx▸j4w _;have e8:=j4y b.toNat b.toNat_lt;have g6:Wf 256 1 (.eptr utf8first 0) (.int .u8 (b.toNat:Int))=some (.eptr utf8first b.toNat):=by simp only[Wf];rw[zb zO];simp
 have a7:=j7h x N;have s4:=j7g x N;obtain⟨y,hy⟩:∃y,x/16=y:=⟨_,rfl⟩;obtain⟨j,g2⟩:∃y,x % 8=y:=⟨_,rfl⟩;have f4:y<16:=zO;have h1:Wf 16 2 (.eptr accR 0) (.int .u8 (y:Int))=some (.eptr accR (y*2)):=by simp only[Wf];rw[zb zO];simp
 have ld2:∀ob,W3 ob (some 2) (.eptr accR (y*2))=some (.agg [.int .u8 (Lib.accLo y:Nat),.int .u8 (Lib.accHi y:Nat)]):=λob=>by rw[jdx,Wo,acc_at y f4,zb (by show y*2+2<=32;omega)]
 have cv:Xy .i64 (.int .u8 (j:Int))=some (.int .i64 (j:Int)):=by simp only[Xy];rw[jk zO zO]
 rw[hx]at a e8;rw[g2]at a7 a;rw[hy]at s4 a;have B:1<l.length->_:=λh=>YY (s:=l) (i:=1) (x:=1) .i64 h rfl;have L:2<l.length->_:=λh=>YY (s:=l) (i:=2) (x:=2) .i64 h rfl;have i3:3<l.length->_:=λh=>YY (s:=l) (i:=3) (x:=3) .i64 h rfl;generalize (l.getD 1 0).toNat=b1 at *;generalize (l.getD 2 0).toNat=b2 at *;generalize (l.getD 3 0).toNat=b3 at *;generalize Lib.accLo y=lo at *;generalize Lib.accHi y=m at *;simp[p,O,i0,hb,eval_g1,g6,e8,a7,cv,s4,eval_g2,h1,ld2,j0,fb,fr,j6];by_cases F:j=2;by_cases D:(l.length:Int)<2;have c:Lib.checkN l.length b1 b2 b3 j lo m=none:=by unfold Lib.checkN;simp[F];omega
 rw[c]at a;simp[F,p,D];exact j5 (by simp[H]) (by simp[a]) rfl;have B:=B zO;by_cases I:(b1:Int)<lo;have c:Lib.checkN l.length b1 b2 b3 j lo m=none:=by unfold Lib.checkN;simp[F];omega
 rw[c]at a;simp[F,p,j0,D,B,I];exact j5 (by simp[H]) (by simp[a]) rfl;by_cases K:(m:Int)<b1;have c:Lib.checkN l.length b1 b2 b3 j lo m=none:=by unfold Lib.checkN;simp[F];omega
 rw[c]at a;simp[F,p,j0,D,B,I,K];exact j5 (by simp[H]) (by simp[a]) rfl;have c:Lib.checkN l.length b1 b2 b3 j lo m=some 2:=by unfold Lib.checkN;simp[F];omega
 rw[c]at a;have dd:Y1 (some (.int .i64 2)) none (.str l)=some (.str (l.drop 2)):=Jq (k:=2) rfl zO;simp[F,p,j0,D,B,I,K,dd];exact⟨(l.drop 2).length,by rw[aY];omega,l.drop 2,zS,rfl,a,by rw[aY];omega⟩;by_cases g:j=3;by_cases D:(l.length:Int)<3;have c:Lib.checkN l.length b1 b2 b3 j lo m=none:=by unfold Lib.checkN;simp[g];omega
 rw[c]at a;simp[g,p,D];exact j5 (by simp[H]) (by simp[a]) rfl;have B:=B zO;have L:=L zO;by_cases I:(b1:Int)<lo;have c:Lib.checkN l.length b1 b2 b3 j lo m=none:=by unfold Lib.checkN;simp[g];omega
 rw[c]at a;simp[g,p,j0,D,B,I];exact j5 (by simp[H]) (by simp[a]) rfl;by_cases K:(m:Int)<b1;have c:Lib.checkN l.length b1 b2 b3 j lo m=none:=by unfold Lib.checkN;simp[g];omega
 rw[c]at a;simp[g,p,j0,D,B,I,K];exact j5 (by simp[H]) (by simp[a]) rfl;by_cases G:(b2:Int)<128;have c:Lib.checkN l.length b1 b2 b3 j lo m=none:=by unfold Lib.checkN;simp[g];omega
 rw[c]at a;simp[g,p,j0,D,B,L,I,K,G];exact j5 (by simp[H]) (by simp[a]) rfl;by_cases f2:191<(b2:Int);have c:Lib.checkN l.length b1 b2 b3 j lo m=none:=by unfold Lib.checkN;simp[g];omega
 rw[c]at a;simp[g,p,j0,D,B,L,I,K,G,f2];exact j5 (by simp[H]) (by simp[a]) rfl;have c:Lib.checkN l.length b1 b2 b3 j lo m=some 3:=by unfold Lib.checkN;simp[g];omega
 rw[c]at a;have dd:Y1 (some (.int .i64 3)) none (.str l)=some (.str (l.drop 3)):=Jq (k:=3) rfl zO;simp[g,p,j0,D,B,L,I,K,G,f2,dd];exact⟨(l.drop 3).length,by rw[aY];omega,l.drop 3,zS,rfl,a,by rw[aY];omega⟩;by_cases e:j=4;by_cases D:(l.length:Int)<4;have c:Lib.checkN l.length b1 b2 b3 j lo m=none:=by unfold Lib.checkN;simp[e];omega
 rw[c]at a;simp[e,p,D];exact j5 (by simp[H]) (by simp[a]) rfl;have B:=B zO;have L:=L zO;have i3:=i3 zO;by_cases I:(b1:Int)<lo;have c:Lib.checkN l.length b1 b2 b3 j lo m=none:=by unfold Lib.checkN;simp[e];omega
 rw[c]at a;simp[e,p,j0,D,B,I];exact j5 (by simp[H]) (by simp[a]) rfl;by_cases K:(m:Int)<b1;have c:Lib.checkN l.length b1 b2 b3 j lo m=none:=by unfold Lib.checkN;simp[e];omega
 rw[c]at a;simp[e,p,j0,D,B,I,K];exact j5 (by simp[H]) (by simp[a]) rfl;by_cases G:(b2:Int)<128;have c:Lib.checkN l.length b1 b2 b3 j lo m=none:=by unfold Lib.checkN;simp[e];omega
 rw[c]at a;simp[e,p,j0,D,B,L,I,K,G];exact j5 (by simp[H]) (by simp[a]) rfl;by_cases f2:191<(b2:Int);have c:Lib.checkN l.length b1 b2 b3 j lo m=none:=by unfold Lib.checkN;simp[e];omega
 rw[c]at a;simp[e,p,j0,D,B,L,I,K,G,f2];exact j5 (by simp[H]) (by simp[a]) rfl;by_cases e3:(b3:Int)<128;have c:Lib.checkN l.length b1 b2 b3 j lo m=none:=by unfold Lib.checkN;simp[e];omega
 rw[c]at a;simp[e,p,j0,D,B,L,i3,I,K,G,f2,e3];exact j5 (by simp[H]) (by simp[a]) rfl;by_cases f3:191<(b3:Int);have c:Lib.checkN l.length b1 b2 b3 j lo m=none:=by unfold Lib.checkN;simp[e];omega
 rw[c]at a;simp[e,p,j0,D,B,L,i3,I,K,G,f2,e3,f3];exact j5 (by simp[H]) (by simp[a]) rfl;have c:Lib.checkN l.length b1 b2 b3 j lo m=some 4:=by unfold Lib.checkN;simp[e];omega
 rw[c]at a;have dd:Y1 (some (.int .i64 4)) none (.str l)=some (.str (l.drop 4)):=Jq (k:=4) rfl zO;simp[e,p,j0,D,B,L,i3,I,K,G,f2,e3,f3,dd];exact⟨(l.drop 4).length,by rw[aY];omega,l.drop 4,zS,rfl,a,by rw[aY];omega⟩;have c:Lib.checkN l.length b1 b2 b3 j lo m=none:=by unfold Lib.checkN;simp[F,g,e]
 rw[c]at a;have z2:((j:Int)==2)=false:=by simp;omega
 have z3:((j:Int)==3)=false:=by simp;omega
 have z4:((j:Int)==4)=false:=by simp;omega
 simp[z2,z3,z4];exact j5 (by simp[H]) (by simp[a]) rfl
def jbg:Nat->List Int->Bool
 |n,[]=>decide (0<n)&&decide (n<=20)
 |n,c::l=>if !jdq c||(decide (n=0)&&Wx c) then false else jbg (n+1) l
def ji2:∀(l:List Int) (n:Nat),0<n->jbg n l=(l.all jdq&&decide (n+l.length<=20))
 |[],n,h=>by simp[jbg,h]
 |c::l,n,h=>by have b:¬n=0:=zO;rw[jbg,ji2 l (n+1) zO];cases a:jdq c;simp[a];simp only[a,b,decide_false,bE,bI,bN,ah,zc,bH,bF,bh];congr 2;exact zj ⟨λh=>by omega,λh=>by omega⟩
def j3g (l:List Int):jbg 0 l=nmOk l:=by
 cases l with
 |nil=>rfl
 |cons c l=>
  rw[jbg,ji2 l 1 zO];unfold nmOk jg3;have e:decide (1+l.length<=20)=decide (l.length+1<=20):=by rw[fl]
  cases b:jdq c<;>cases a:Wx c<;>simp[b,a,e];rw[gz]
def j9f {E:Env}{Yf:YF}{st:St}{ub:Nat}{K:St->Nat->Prop}{d:Option Nat}{nm:Bool}{x:A}{l u pos:Nat}{s:List UInt8}(e:ye E st.tm x=.iter l u) (b:st.ob l=some ⟨u,.siter s pos⟩) (a:st.ro<=u)
 (f:pos<s.length->QW K st d ub { v:=.tup [.bool true,.int .i64 pos,.int .i32 (rU s pos:Nat)],obs:=[(l,⟨u,.siter s (pos+rW s pos)⟩)] })
 (c:¬pos<s.length->jbh K st d ub (.tup [.bool false])):jB E Yf ⟨d,.nextStr x,none,nm⟩ st ub K:=ju0 e b a f c
def ev137 (s:List UInt8) (w:s.length<=1000000):Ev E 137 [.str s] (.bool (jkv s)):=by
 refine jQ rfl ?_;conv in(occs:=*)F137=>all_goals cbv
 simp;refine jL (ev197 s) zS rfl rfl ?_;unfold jkv;cases b1:j8f s;case true=>simp;exact j5 rfl zS rfl
 simp;refine jL (ev198 s w) zS rfl rfl ?_;cases b2:Lib.validD s;case false=>simp;exact j5 rfl zS rfl
 simp;rw[<- j3g];refine Yl (n:=s.length) [(2,3),(5,5),(15,30)] (λk i=>∃p n u,k=s.length-p/\p<=s.length/\n<=p/\i.tm 3=.int .i64 (n:Nat)/\i.tm 14=.iter 28 u/\i.ob 28=some ⟨u,.siter s p⟩/\jbg 0 (JV s)=jbg n (RN s p)) rfl rfl
  ⟨0,0,640,by simp[jf0]⟩ ?_
 rintro k i ⟨p,n,u,rfl,B,y,m,h,v,a⟩ f;have q:i.df=[]:=by rw[f.d];simp
 have D:i.fb=0:=by rw[f.b];simp
 have fr:i.ro=0:=by rw[f.r];simp
 clear f;simp;refine j9f (l:=28) (u:=u) (pos:=p) (s:=s) (by simp[h]) (by simp[v]) (by simp[fr]) (λj=>?_) (λt=>?_);have z:=jmg j;rw[j1d j,jbg]at a;obtain⟨c,x⟩:∃c:Int,(rU s p:Int)=c:=⟨_,rfl⟩;rw[x]at a ⊢;simp;refine jL (ev199 c) zS rfl rfl ?_;cases g:jdq c;rw[g]at a;simp;exact j5 (by simp[q]) (by simp[a]) rfl;by_cases e:n=0;subst e;simp[m];refine jL (ev200 c) zS rfl rfl ?_;cases o:Wx c;simp[m,h,o,g]at a ⊢;exact⟨s.length-(p+rW s p),zO,p+rW s p,rfl,zO,1,zO,zQ,rfl,a⟩;simp[o,g]at a ⊢;exact j5 (by simp[q]) (by simp[a]) rfl;simp[m,h,g,beq0,e]at a ⊢;exact⟨s.length-(p+rW s p),zO,p+rW s p,rfl,zO,n+1,zO,by rw[jk zO zO];simp,rfl,a⟩;have:p=s.length:=zO;subst this;rw[j62 zK,jbg]at a;by_cases e:0<n;simp[m,e]at a ⊢;exact j5 (by simp[q]) (by simp[a];omega) rfl;simp[m,e]at a ⊢;exact j5 (by simp[q]) (by simp[a]) rfl
def ev141 (nl:Bool) (t:List (List UInt8)) (O:t.length<=1000000) (D:∀s∈t,s.length<=1000000):Ev E 141 [yl nl Jp t] (.bool (j1h t)):=by
 refine jQ rfl ?_;conv in(occs:=*)F141=>all_goals cbv
 simp;refine j9 [(2,4),(7,29)] t.length (λi s=>s.tm 7=.int .i64 i/\∀j,j<t.length->j<i->juo t j=true) rfl rfl ⟨zS,λj _ h=>by omega⟩ ?_;rintro i s N ⟨u,B⟩ f;have G:s.tm 0=yl nl Jp t:=by rw[f.t 0 zS];simp
 have I:s.tm 5=yl nl Jp t:=by rw[f.t 5 zS];simp
 have F:s.tm 6=.int .i64 t.length:=by rw[f.t 6 zS];simp
 have v:s.df=[]:=by rw[f.d];simp
 clear f;by_cases a:i<t.length;have H:=jb a zO;have b:juo t i=(jkv t[i]&&(i==0||jkz (t.getD (i-1) []) t[i])):=by unfold juo;rw[JN a]
 have o:=D _ (au a);obtain⟨c,M⟩:∃c,t[i]=c:=⟨_,rfl⟩;have p:=jib t a;rw[M]at b p o;have jec:juo t i=true->∀j,j<t.length->j<i+1->juo t j=true:=λh j m w=>by rcases bg.1 w with h'|rfl;exact B j m h';exact h
 simp[u,I,F,a,j7 Ym,p];refine jL (ev137 c o) zS rfl rfl ?_;cases q:jkv c;rw[q]at b;simp;exact j5 (by simp[v]) (by simp[jq2 a b]) rfl;rw[q]at b;by_cases z:i=0;subst z;simp[u];exact⟨a,zQ,λj m h=>by subst h;exact jec (by simp[b]) 0 m zO⟩;have r:0<i:=zO;have y:=wrapP r zO;have k:i-1<t.length:=zO;have x:=D _ (au k);have n:=jib t k;rw[JN k]at b;obtain⟨e,K⟩:∃e,t[i-1]=e:=⟨_,rfl⟩;rw[K]at b n x;have L:=Yp e;have J:=Yp c;simp[G,r,y,k,j7 Ym,n];refine jL (ev206 e c zO zO) zS rfl rfl ?_;cases l:jkz e c;have g:=l;unfold jkz at g;rw[g];simp;exact j5 (by simp[v]) (by simp[jq2 a (by simp[b,l,z])]) rfl;have g:=l;unfold jkz at g;rw[g];simp[u,H];exact⟨a,jec (by simp[b,l])⟩;have:i=t.length:=zO;subst this;simp[u,F];exact j5 (by simp[v]) (by simp[j5z (λj m=>B j m m)]) rfl
def Fr1 (n:Nat) (ob ob':ZO):Prop:=∀key,(∀m,n<=m->key≠2*m+1)->ob' key=ob key
def jir (h:Hist') (hn:h.ts.length<=1000) (D:∀t∈h.ts,t.ops.length<=1000000) {asg bd:C}{ps:List Nat}(O:ps.length=2) (S:asg.one=true) (H:bd.one=true) {st:St}{f:A}{lh uh:Nat}
 (hf:ye E st.tm f=.fn (.func 145) [] [.ptr lh uh 0]) (oh:st.ob lh=some ⟨uh,.cells (ya h)⟩) (G:lh≠2*st.nx+1) (N:lh≠2*st.nx+3) (K:st.ro=0)
 (J:Nat->Nat->(ZO)->(Nat->Bool)->Nat->Prop) {Q:Ex->St->Prop}
 (c:∀i k ob d tk ub q,J i k ob tk ub->ub<=q->Fr1 st.nx ob d->J i k d tk q)
 (w:∀i (hi:i<h.ts.length) ob tk ub,J i (h.ts[i]).ops.length ob tk ub->J (i+1) 0 ob tk ub)
 (o:∀i (hi:i<h.ts.length) k (b:k<(h.ts[i]).ops.length) ob tk ub,J i k ob tk ub->ob (2*st.nx+1)=some ⟨st.nx,.loop .ready none⟩->ob (2*st.nx+3)=some ⟨st.nx+1,.dfr⟩->st.nx+64<=ub ->
  wpC E YU asg { tm:=jfw st.tm ps [.agg [.int .i64 i,.int .i64 k],.agg (yQ (h.ts[i]).ops[k])],ob:=ob,tk:=tk,ro:=0,nx:=ub,fb:=st.fb,df:=[] } λe B=>e=.nrm/\B.ob (2*st.nx+1)=some ⟨st.nx,.loop .ready none⟩ /\
   wpC E YU bd { B with ob:=upd B.ob (2*st.nx+1) (some ⟨st.nx,.loop .busy none⟩) } λe n=>n.ob (2*st.nx+1)=some ⟨st.nx,.loop .busy none⟩/\n.ob (2*st.nx+3)=some ⟨st.nx+1,.dfr⟩/\st.nx+64<=n.nx/\e=.nrm/\J i (k+1) n.ob n.tk n.nx)
 (h0:J 0 0 st.ob st.tk (st.nx+64))
 (hQ:∀ob tk ub,J h.ts.length 0 ob tk ub->ob (2*st.nx+3)=some ⟨st.nx+1,.dfr⟩->st.nx+64<=ub->Q .nrm { st with ob:=ob,tk:=tk,nx:=ub,df:=(2*st.nx+3,st.nx+1)::st.df }) :
 wpC E YU (.rangeFunc f ps asg bd) st Q:=by
 refine Q5 (g:=145) (first:=[]) (captured:=[.ptr lh uh 0]) hf ?_;have v:¬2*st.nx+3=2*st.nx+1:=zO;have X:¬2*st.nx+1=2*st.nx+3:=zO;have:=j55 (Yf:=jik E YU asg bd st ps (2*st.nx+1) st.nx) h hn D (l:=2*st.nx+1) (u:=st.nx) (lh:=lh) (uh:=uh)
  (ob0:=upd (upd st.ob (2*st.nx+3) (some ⟨st.nx+1,.dfr⟩)) (2*st.nx+1) (some ⟨st.nx,.loop .ready none⟩)) (tk0:=st.tk) (ro:=st.ro) (base:=(st.fb+1023)*1024) (ub0:=st.nx+64)
  (by simp only[yg,G,N,zc,oh]) zO
  (λi k ob tk ub=>J i k ob tk ub/\ob (2*st.nx+1)=some ⟨st.nx,.loop .ready none⟩/\ob (2*st.nx+3)=some ⟨st.nx+1,.dfr⟩/\st.nx+64<=ub)
  (λr=>∃s j,r.2.1 (2*st.nx+1)=some ⟨st.nx,.loop s j⟩/\s≠.busy/\st.ro<=st.nx/\Q (j.getD .nrm) { st with ob:=λk=>if Nat.beq (2*st.nx+1) k then none else r.2.1 k,tk:=r.2.2.1,nx:=r.2.2.2,df:=(2*st.nx+3,st.nx+1)::st.df })
  ?_ ?_ ?_ ?_ ?_
 obtain⟨r,M,hP⟩:=this;exact⟨r,M,hP⟩;rintro i k ob d tk ub q ⟨p,x,y,z⟩ F I;have f:∀a,(∀m,ub<=m->a≠2*m+1)->d a=ob a:=I;exact⟨c _ _ _ _ _ _ _ p F (λa b=>f a (λm D=>b m zO)),by rw[f _ (λm D=>by omega)];exact x,by rw[f _ (λm D=>by omega)];exact y,zO⟩;rintro i hi ob tk ub ⟨p,g⟩;exact⟨w i hi ob tk ub p,g⟩;rintro i hi k b ob tk ub ⟨p,x,y,z⟩ a0;have hb:=o i hi k b ob tk ub p x y z;have:=jhu (E:=E) (Yf:=YU) (asg:=asg) (bd:=bd) (st:=st) (ps:=ps) (l:=2*st.nx+1) (u:=st.nx) (xs:=[.agg [.int .i64 i,.int .i64 k],.agg (yQ (h.ts[i]).ops[k])]) (ob:=ob) (tk:=tk) (ro:=st.ro) (ub:=ub)
  (P:=λr=>st.ro<=r.2.2.2/\r.1=.bool true/\J i (k+1) r.2.1 r.2.2.1 r.2.2.2/\r.2.1 (2*st.nx+1)=some ⟨st.nx,.loop .ready none⟩/\r.2.1 (2*st.nx+3)=some ⟨st.nx+1,.dfr⟩/\st.nx+64<=r.2.2.2)
  (by simp[O]) zO x S H (by
   rw[K];refine XM (λe B h1=>?_) hb;obtain⟨e1,e2,e3⟩:=h1;refine⟨e1,e2,XM (λe n U=>?_) e3⟩;obtain⟨k1,k2,k3,k4,k5⟩:=U;subst k4;refine⟨k1,zO,rfl,?_,?_,?_,k3⟩;exact c _ _ _ _ _ _ _ k5 zK (λa b=>JQ _ _ (b st.nx zK));exact WL _ _ _;show upd n.ob _ _ _=_;rw[JQ _ _ v];exact k2)
 obtain⟨r,M,p1,Z,T,p4,p5,p6⟩:=this;exact⟨r,M,p1,.inl ⟨Z,T,p4,p5,p6⟩⟩;rintro ob tk ub ⟨p,x,y,z⟩;refine⟨.ready,none,x,zS,zO,?_⟩;have L:Fr1 st.nx ob (λk=>if Nat.beq (2*st.nx+1) k then none else ob k):=λa b=>j60 ob (b st.nx zK);exact hQ _ _ _ (c _ _ _ _ _ _ _ p zK L) ((j60 ob v).trans y) z;refine⟨c _ _ _ _ _ _ _ h0 zK (λa b=>?_),WL _ _ _,?_,zO⟩;have h3:=b (st.nx+1) zO;rw[JQ _ _ (b st.nx zK),JQ _ _ zO];rw[JQ _ _ v,WL]
@[simp] theorem cells_map (l u:Nat):(V.map l u).cells=[.map l u]:=rfl
@[simp] theorem leaf_map (l u:Nat):(V.map l u).leaf=true:=rfl
@[simp] theorem j6y:V.nilmap.cells=[.nilmap]:=rfl
@[simp] theorem j87:V.nilmap.leaf=true:=rfl
def Xx (h:Hist'):Bool:=j1h h.ss&&(j1h h.ks&&(decide (h.ss.length<=20)&&(decide (h.ks.length<=40)&&decide (h.ts.length<=40))))
structure Small (h:Hist'):Prop where
 ss:h.ss.length<=1000
 sl:∀s∈h.ss,s.length<=1000
 ks:h.ks.length<=1000
 kl:∀s∈h.ks,s.length<=1000
 ts:h.ts.length<=1000
 os:∀t∈h.ts,t.ops.length<=1000
def ev87 {h:Hist'}(a:Small h):Ev E 87 [.agg (ya h)] (.bool (Xx h)):=by
 refine jQ rfl ?_;have b:=ev141 h.sn h.ss (by have:=a.ss;omega) (λs h=>by have:=a.sl s h;omega);have c:=ev141 h.kn h.ks (by have:=a.ks;omega) (λs h=>by have:=a.kl s h;omega);conv in(occs:=*)F87=>all_goals cbv
 simp[ya,j0];refine jL b zS rfl rfl ?_;unfold Xx;cases b1:j1h h.ss;simp;exact j5 rfl zS rfl;simp[j0];refine jL c zS rfl rfl ?_;cases b2:j1h h.ks;simp;exact j5 rfl zS rfl;by_cases b3:(h.ss.length:Int)<=20;by_cases b4:(h.ks.length:Int)<=40;simp[j0,b3,b4];exact j5 rfl (by simp[show h.ss.length<=20 by omega,show h.ks.length<=40 by omega];omega) rfl;simp[j0,b3,b4];exact j5 rfl zP rfl;simp[j0,b3];exact j5 rfl zP rfl
def usesS (h:Hist'):List Int:=h.ts.map (·.s)
def usesK (h:Hist'):List Int:=(jdr h).map (·.key)
def jto (h:Hist'):Bool:=decide ((dd (usesS h)).length=h.ss.length)&&decide ((dd (usesK h)).length=h.ks.length)
def jgi (h:Hist') (i k:Nat):List Op':=(h.ts.take i).flatMap (·.ops)++(h.ts.getD i ⟨0,0,true,[]⟩).ops.take k
def jui {h:Hist'}{i k:Nat}(hi:i<h.ts.length) (a:k<(h.ts[i]).ops.length):jgi h i (k+1)=jgi h i k++[(h.ts[i]).ops[k]]:=by unfold jgi;rw[JN hi,ay a,bj]
def juj {h:Hist'}{i:Nat}(hi:i<h.ts.length):jgi h i (h.ts[i]).ops.length=jgi h (i+1) 0:=by unfold jgi;rw[JN hi,bk,eK,aP,ay hi,cn];simp
def jx3 (h:Hist'):jgi h h.ts.length 0=jdr h:=by simp[jgi,jdr]
def juh (h:Hist'):jgi h 0 0=[]:=by simp[jgi]
def jag {res:List ARes}{st:St}{l u:Nat}{v:V}(a:st.df=[(l,u)]) (b:st.ob l=some ⟨u,.dfr⟩) (d:st.ro<=u)
 (h:jc2 res (.ret,{ st with ob:=λk=>if Nat.beq l k then none else st.ob k,df:=[] })=some v):jc2 res (.ret,st)=some v:=by
 have e:j6w st=true:=by unfold j6w;rw[a];simp only[bH,List.all_nil,b,eA,bc,co,yH,ce,cp,ab,cL,true_and];exact bY▸d
 have c:st.noDf={ st with ob:=λk=>if Nat.beq l k then none else st.ob k,df:=[] }:=by unfold St.noDf;rw[a];simp
 simp only[jc2,e,c,zd];simp only[jc2]at h;rw[WB rfl,W0 rfl]at h;exact h
def ev93 {h:Hist'}(hs:Small h):Ev E 93 [.agg (ya h)] (.bool (jto h)):=by
 refine jQ rfl ?_;have b0:=hs.ts;conv in(occs:=*)F93=>all_goals cbv
 simp[ya,j0,j6];refine j9 [(6,6),(15,23),(14,14)] h.ts.length (λi s=>s.tm 14=.int .i64 i/\s.ob 2=some ⟨0,.cells (ya h)⟩/\s.ob 8=some ⟨256,.cells [.map 20 192]⟩/\s.ob 20=some ⟨192,.mp 0 []⟩ /\
  ∃ver m,s.ob 18=some ⟨128,.mp ver (MP jh1 m)⟩/\m.map (·.1)=dd ((h.ts.take i).map (·.s))) rfl rfl ⟨zS,zI,zS,zS,0,[],by simp[MP],by simp[dd]⟩ ?_
 rintro i s O ⟨y,o2,o8,I,ver,m,z,hm⟩ f;have Z:s.tm 12=yl h.tn jl h.ts:=by rw[f.t 12 zS];simp
 have M:s.tm 13=.int .i64 h.ts.length:=by rw[f.t 13 zS];simp
 have f1:s.tm 1=.ptr 2 0 0:=by rw[f.t 1 zS];simp
 have f3:s.tm 3=.map 18 128:=by rw[f.t 3 zS];simp
 have f4:s.tm 4=.ptr 8 256 0:=by rw[f.t 4 zS];simp
 have fd:s.df=[]:=by rw[f.d];simp
 have fb:s.fb=0:=by rw[f.b];simp
 have fr:s.ro=0:=by rw[f.r];simp
 clear f;by_cases q:i<h.ts.length;have hw:=jb q zO;simp[y,Z,M,q,j7 jA,jd jA,jl,j0,fb,fr,j6,f3,jje m,jY,z];refine jcu (f:=jh1) (a:=IntKind.i64.wrap (mcnt m h.ts[i].s+1)) (ver:=ver) (l:=18) (u:=128) (k:=h.ts[i].s) m zS zS (by simp[jh1]) (by simp[z]) (by simp[fr]) ?_;simp[y,hw,o2,o8,I,ya];refine⟨q,ver+1,Wi m h.ts[i].s (IntKind.i64.wrap (mcnt m h.ts[i].s+1)),zS,?_⟩;rw[jm3,hm,<- fI,ay q,bA];exact(j0s _ _).symm;have:i=h.ts.length:=zO;subst this;rw[bk]at hm;simp[y,M];simp[f1,o2,j0,ya];refine jcv (vs:=[.agg (ya h)]) zI rfl ?_;obtain⟨r,hr,e1,D,e3,e4⟩:=ev91 (Yf:=YU) h s.ob s.tk 0 (26*1024) (s.nx+64+64);refine⟨r,by simpa[fr,fb] using hr,?_⟩;simp;refine jg λe c=>?_;have n2:¬(2:Nat)=2*(s.nx+64+64)+1:=zO;have n8:¬(8:Nat)=2*(s.nx+64+64)+1:=zO;have X:¬(18:Nat)=2*(s.nx+64+64)+1:=zO;have b6:¬(20:Nat)=2*(s.nx+64+64)+1:=zO;have a0:e.tm 25=.fn (.func 145) [] [.ptr (2*(s.nx+64+64)+1) (s.nx+64+64) 0]:=by rw[c];simp[put,e1]
 have g1:e.tm 1=.ptr 2 0 0:=by rw[c];simp[put,yg,f1]
 have g3:e.tm 3=.map 18 128:=by rw[c];simp[put,yg,f3]
 have g4:e.tm 4=.ptr 8 256 0:=by rw[c];simp[put,yg,f4]
 have gd:e.df=[]:=by rw[c];simp[fd]
 have gb:e.fb=0:=by rw[c];simp[fb]
 have gr:e.ro=0:=by rw[c];simp[fr]
 have gn:e.nx=s.nx+64+64+256:=by rw[c];simp[e4]
 have p2:e.ob 2=some ⟨0,.cells (ya h)⟩:=by rw[c];simp only[JU];rw[D,za n2];exact o2
 have p8:e.ob 8=some ⟨256,.cells [.map 20 192]⟩:=by rw[c];simp only[JU];rw[D,za n8];exact o8
 have b7:e.ob 18=some ⟨128,.mp ver (MP jh1 m)⟩:=by rw[c];simp only[JU];rw[D,za X];exact z
 have T:e.ob 20=some ⟨192,.mp 0 []⟩:=by rw[c];simp only[JU];rw[D,za b6];exact I
 have pl:e.ob (2*(s.nx+64+64)+1)=some ⟨s.nx+64+64,.cells (ya h)⟩:=by rw[c];simp only[JU];rw[D,zb rfl]
 clear c e1 D e3 e4 hr;refine jir h b0 (λt ht=>by have:=hs.os t ht;omega) rfl rfl rfl (zU a0) pl zO zO gr
  (λi k ob N P=>ob 2=some ⟨0,.cells (ya h)⟩/\ob 8=some ⟨256,.cells [.map 20 192]⟩/\ob 18=some ⟨128,.mp ver (MP jh1 m)⟩/\∃F p,ob 20=some ⟨192,.mp F (MP jh1 p)⟩/\p.map (·.1)=dd ((jgi h i k).map (·.key)))
  ?_ ?_ ?_ ?_ ?_
 rintro i k ob b9 N P c2 ⟨x,w,n,B,p,j,K⟩ G v;exact⟨(v 2 (λm _=>by omega)).trans x,(v 8 (λm _=>by omega)).trans w,(v 18 (λm _=>by omega)).trans n,B,p,(v 20 (λm _=>by omega)).trans j,K⟩;rintro i O ob N P ⟨x,w,n,B,p,j,K⟩;exact⟨x,w,n,B,p,j,by rw[K,juj O]⟩;rintro i O k K ob N P ⟨x,w,n,B,p,j,g⟩ w1 Q G;have r1:¬2*e.nx+1=16:=zO;have r3:¬2*e.nx+3=16:=zO;have c0:¬2*e.nx+3=2*e.nx+1:=zO;have L:¬2*e.nx+1=20:=zO;have J:¬2*e.nx+3=20:=zO;have S:¬16=2*e.nx+1:=zO;have b8:¬8=2*e.nx+1:=zO;have H:¬20=2*e.nx+1:=zO;have b2:¬2=2*e.nx+1:=zO;have U:¬18=2*e.nx+1:=zO;simp[jfw,yg,yQ,j0,gb,j6,g4,r1,w1,S,b8,w,jje p,jY,H,j];obtain⟨o,ho⟩:∃o,(h.ts[i]).ops[k]=o:=⟨_,rfl⟩;rw[ho];refine jcu (f:=jh1) (a:=IntKind.i64.wrap (mcnt p o.key+1)) (ver:=B) (l:=20) (u:=192) (k:=o.key) p zS zS (by simp[jh1]) (by simp[yg,H,j]) zS ?_;simp[yg,L,J,r3,b2,b8,U,x,w,n,Q];refine⟨zO,B+1,Wi p o.key (IntKind.i64.wrap (mcnt p o.key+1)),zS,?_⟩;rw[jm3,g,jui O K,bA,ho];exact(j0s _ _).symm;exact⟨p2,p8,b7,0,[],T,by rw[juh];rfl⟩;rintro ob N P ⟨x,w,n,B,p,j,g⟩ Q G;rw[jx3]at g;have l1:m.length=(dd (usesS h)).length:=by rw[<- bm (f:=(·.1)),hm];rfl
 have l2:p.length=(dd (usesK h)).length:=by rw[<- bm (f:=(·.1)),g];rfl
 simp[g3,g1,jY,n,x,j0,ya,l1];unfold jto;by_cases c1:(dd (usesS h)).length=h.ss.length;simp[c1,g4,g1,w,x,jY,j,j0,ya,l2];refine jag (l:=2*e.nx+3) (u:=e.nx+1) (by simp[gd]) (by simp[Q]) (by simp[gr]) (j5 rfl ?_ rfl);simp;rw[bz];simp;omega;have b5:(((dd (usesS h)).length:Int)==(h.ss.length:Int))=false:=by simp;omega
 simp[b5];refine jag (l:=2*e.nx+3) (u:=e.nx+1) (by simp[gd]) (by simp[Q]) (by simp[gr]) (j5 rfl ?_ rfl);simp[c1]
def Yr (h:Hist'):Bool:=Xx h&&(h.ts.all (jex h)&&((jdr h).all (opB h)&&jto h))
def errH (h:Hist'):Int:=if Yr h then 0 else 4
def any_not {b:Type}(p:b->Bool) (l:List b):(l.any λt=>!p t) = !(l.all p):=by
 induction l with
 |nil=>rfl
 |cons a l c=>simp[c]
def ev53 {h:Hist'}(s:Small h):Ev E 53 [.agg (ya h)] (.int .i64 (errH h)):=by
 refine jQ rfl ?_;have F:=s.ts;have G:∀t∈h.ts,t.ops.length<=1000000:=λt T=>by have:=s.os t T;omega
 have o:=ev87 s;have j:=ev93 s;obtain⟨R,H⟩:∃R,errH h=R:=⟨_,rfl⟩;have a:R=if Xx h&&(h.ts.all (jex h)&&((jdr h).all (opB h)&&jto h)) then 0 else 4:=H.symm
 rw[H];clear H;conv in(occs:=*)F53=>all_goals cbv
 simp[ya,j0];refine jL o zI rfl zI ?_;cases b1:Xx h;rw[b1]at a;simp at a;subst a;simp[j0,j6];exact JM rfl (l:=[.int .i64 4]) (by simp[jv,j0]) rfl rfl;rw[b1]at a;simp[j0];refine jW (vs:=[yl h.tn jl h.ts,.fn (.func 89) [] [.ptr 2 0 0]]) zS rfl rfl (ev88 (p:=λt=>!jex h t) rfl (λt J k M=>ev89 (h:=h) ⟨rfl,zI⟩ t J k M) h.tn h.ts zO _ _ _) ?_;rw[any_not];cases b2:h.ts.all (jex h);rw[b2]at a;replace a:R=4:=a;subst a;simp[j0,j6];exact JM rfl (l:=[.int .i64 4]) (by simp[jv,j0]) rfl rfl;rw[b2]at a;simp[j0];refine jcv (vs:=[.agg (ya h)]) zI rfl ?_;obtain⟨r,L,N,q,e3,I⟩:=ev91 (Yf:=YU) h _ _ 0 _ _;refine⟨r,L,?_⟩;simp;refine jg λd b=>?_;obtain⟨U,z⟩:∃U,d.nx=U:=⟨_,rfl⟩;obtain⟨m,hm,w,x,P,O,Z⟩:∃m,m % 64=0/\m<U/\d.tm 15=.fn (.func 145) [] [.ptr (2*m+1) m 0]/\d.ob 2=some ⟨0,.cells (ya h)⟩/\d.ob 4=some ⟨64,.cells [.int .i64 0]⟩/\d.ob (2*m+1)=some ⟨m,.cells (ya h)⟩:=by refine⟨_,?_,?_,by rw[b];simp only[jo1,put,WL];exact N,?_,?_,?_⟩;decide;rw[<- z,b,jkd,I];omega;rw[b];simp only[JU];rw[q];simp[ya];rw[b];simp only[JU];rw[q];simp;rw[b];simp only[JU];rw[q];simp
 have K:d.tm 1=.ptr 2 0 0:=by rw[b];simp[put,yg]
 have i:d.tm 2=.ptr 4 64 0:=by rw[b];simp[put,yg]
 have y:d.df=[]:=by rw[b];simp
 have S:d.fb=0:=by rw[b];simp
 have v:d.ro=0:=by rw[b];simp
 have n:64<=U:=by rw[<- z,b,jkd,I];omega
 clear b N q e3 I L;refine j8k h F G U z n x ⟨m,rfl,w⟩ K i v S P O Z ?_;intro e ob J M c q2 D B Q f;rcases f with⟨b3,rfl,rfl⟩|⟨b3,rfl,rfl⟩;rw[b3]at a;simp[K,j0,q2,ya];refine jL j zI rfl zI ?_;have g:¬2*U+3=4:=zO;have X:¬4=2*U+3:=zO;cases b4:jto h;rw[b4]at a;replace a:R=4:=a;subst a;simp[j0,i,D,v,j6];refine jag (l:=2*U+3) (u:=U+1) (by simp[y]) (by simp[B,g]) zS (jaz rfl (l:=[.int .i64 4]) ?_ rfl);simp[jv,j0,i,g];rw[b4]at a;replace a:R=0:=a;subst a;simp[j0,i,D,v,j6];refine jag (l:=2*U+3) (u:=U+1) (by simp[y]) (by simp[B,g]) zS (jaz rfl (l:=[.int .i64 0]) ?_ rfl);simp[jv,j0,i,g];rw[b3]at a;replace a:R=4:=a;subst a;have g:¬2*U+3=4:=zO;have X:¬4=2*U+3:=zO;simp;refine jag (l:=2*U+3) (u:=U+1) (by simp[y]) (by simp[B]) (by simp[v]) (jaz rfl (l:=[.int .i64 4]) ?_ rfl);simp[jv,j0,i,g,D]
def yO (bs:List Bool) (ks:List Int):List Bool:=ks.foldl (λb k=>b.set k.toNat true) bs
def YV (ks:List Int):∀a:List Bool,(yO a ks).length=a.length:=by
 induction ks with
 |nil=>intro a;rfl
 |cons k ks b=>intro a;exact(b _).trans dO
def ji8 (bs:List Bool) (ks:List Int) (k:Int):yO bs (ks++[k])=(yO bs ks).set k.toNat true:=by simp[yO]
def jyz (bs:List Bool) (a b:List Int):yO bs (a++b)=yO (yO bs a) b:=by simp[yO]
def jid (bs:List Bool) (k:Nat) (h:k<bs.length):j6 (bs.map V.bool) k [.bool true]=(bs.set k true).map V.bool:=by unfold j6;rw[dv,dK,zb (zU h)];simp
def WJ (h:Hist') (t:Txn'):Bool:=jex h t&&t.ops.all (opB h)
def jk8 {l u n:Nat}{kk:IntKind}{x:Int}(b:0<=x) (a:x<n):ju 1 (.osl l u 0 n 1) (.int kk x)=some (.ptr l u x.toNat):=by simp[ju,b,a]
def jlv {n:Int}{l:Nat}(a:¬n<0) (b:¬(l:Int)<=n):Yi n l=true:=by unfold Yi;simp;omega
def jlx {n:Int}{l:Nat}(a:n<0):Yi n l=false:=by unfold Yi;simp;omega
def jlw {n:Int}{l:Nat}(a:(l:Int)<=n):Yi n l=false:=by unfold Yi;simp;omega
def ev80 {Yf:YF}{h:Hist'}{t:Txn'}(ht:t.ops.length<=1000000) {ob:ZO}{tk:Nat->Bool}{ro base ub l u:Nat}{bs:List Bool}(Q:bs.length=h.ks.length) (ho:ob l=some ⟨u,.cells (bs.map V.bool)⟩) (a0:ro<=u) (c0:ro<=ub)
 (S:∀m,ub<=m->l≠2*m+1) :
 ∃r,EvS E Yf.y 80 [.agg (ya h),.agg (jl t),.osl l u 0 h.ks.length 1] ob tk ro base ub r/\r.1=.bool (WJ h t)/\(WJ h t=true ->
  r.2.1 l=some ⟨u,.cells ((yO bs (t.ops.map (·.key))).map V.bool)⟩/\(∀a,a≠l->(∀m,ub<=m->a≠2*m+1)->r.2.1 a=ob a)/\r.2.2.1=tk/\ub<=r.2.2.2):=by
 refine JI rfl zQ ?_;show wpC E Yf S80.body _ (Jw S80.res _);have n3:¬2*(ub+64)=2*ub:=zO;have O:¬2*ub=2*(ub+64):=zO;have c:∀{e:Ex}{s:St},e=.ret->s.df=[]->s.tm 6=.bool false->WJ h t=false->Jw S80.res (λr=>r.1=.bool (WJ h t)/\(WJ h t=true ->
  r.2.1 l=some ⟨u,.cells ((yO bs (t.ops.map (·.key))).map V.bool)⟩/\(∀a,a≠l->(∀m,ub<=m->a≠2*m+1)->r.2.1 a=ob a)/\r.2.2.1=tk/\ub<=r.2.2.2)) e s:=by
  intro e s he hd h6 hg
  subst he
  refine⟨(.bool false,s.ob,s.tk,s.nx),?_,by rw[hg],λh=>by rw[hg]at h;cases h⟩
  conv in(occs:=*)S80=>all_goals cbv
  simp[endS,hd,jv,h6]
 generalize hP:(λr:V×(ZO)×(Nat->Bool)×Nat=>r.1=.bool (WJ h t)/\(WJ h t=true ->
  r.2.1 l=some ⟨u,.cells ((yO bs (t.ops.map (·.key))).map V.bool)⟩/\(∀a,a≠l->(∀m,ub<=m->a≠2*m+1)->r.2.1 a=ob a)/\r.2.2.1=tk/\ub<=r.2.2.2))=P at c ⊢
 have gf:∀{b:Bool},jex h t=b->b=false->WJ h t=false:=λL x=>by unfold WJ;rw[L,x];rfl
 conv in(occs:=*)S80=>all_goals cbv
 simp[ya,jl,j0];by_cases G:t.s<0;simp[G];exact c rfl zS zS (gf (b:=false) (by unfold jex;rw[jlx G];rfl) rfl);by_cases K:(h.ss.length:Int)<=t.s;simp[G,K,j0,O];exact c rfl zS zS (gf (b:=false) (by unfold jex;rw[jlw K];rfl) rfl);by_cases f1:t.f<1;simp[G,K,f1,j0,O];exact c rfl zS zS (gf (b:=false) (by unfold jex;simp;omega) rfl);by_cases N:3<t.f;simp[G,K,f1,N,j0,O];exact c rfl zS zS (gf (b:=false) (by unfold jex;simp;omega) rfl);by_cases l1:20<(t.ops.length:Int);simp[G,K,f1,N,l1,j0,O];exact c rfl zS zS (gf (b:=false) (by unfold jex;simp;omega) rfl);have b5:jex h t=true:=by unfold jex;rw[jlv G K];simp;omega
 simp[G,K,f1,N,l1,j0,O];refine j9 [(6,8),(36,78)] t.ops.length (λi s=>s.tm 7=.int .i64 i/\s.ob (2*ub+1)=some ⟨ub,.cells (ya h)⟩/\s.ob (2*(ub+64)+1)=some ⟨ub+64,.cells (jl t)⟩ /\
  s.ob l=some ⟨u,.cells ((yO bs ((t.ops.take i).map (·.key))).map V.bool)⟩/\(∀a,a≠l->(∀m,ub<=m->a≠2*m+1)->s.ob a=ob a)/\s.tk=tk/\ub+128<=s.nx/\(t.ops.take i).all (opB h)=true) rfl rfl ?_ ?_
 refine⟨zS,by simp[O,ya],by simp[jl],?_,?_,?_,?_,zS⟩;have e1:=S ub zO;have e2:=S (ub+64) zO;simp[e1,e2,ho,yO];intro a _ hm;have e1:=hm ub zO;have e2:=hm (ub+64) zO;simp[e1,e2];simp[jq];simp;rintro i s hi ⟨h7,oa,B,ol,I,J,c1,k⟩ f;have N:s.tm 2=.osl l u 0 h.ks.length 1:=by rw[f.t 2 zS];simp
 have f3:s.tm 3=.ptr (2*ub+1) ub 0:=by rw[f.t 3 zS];simp
 have f4:s.tm 4=.ptr (2*(ub+64)+1) (ub+64) 0:=by rw[f.t 4 zS];simp
 have Z:s.df=[]:=by rw[f.d];simp
 have fr:s.ro=ro:=by rw[f.r];simp
 clear f;by_cases g:i<t.ops.length;have hw:=jb g zO;have x1:¬2*ub=2*(s.nx+64+64+64+64+64+64+64+64+64+64):=zO;have x2:¬2*(ub+64)=2*(s.nx+64+64+64+64+64+64+64+64+64+64):=zO;have x3:¬l=2*(s.nx+64+64+64+64+64+64+64+64+64+64)+1:=S _ zO;have b8:¬2*(s.nx+64+64+64+64+64+64+64+64+64+64)+1=l:=λe=>x3 e.symm;have x4:¬2*ub+1=l:=λe=>S ub zO e.symm;have x5:¬2*(ub+64)+1=l:=λe=>S (ub+64) zO e.symm;have x6:ro<=s.nx+64+64+64+64+64+64+64+64+64+64:=zO;obtain⟨o,D⟩:∃o,t.ops[i]=o:=⟨_,rfl⟩;have b9:=jd jH s.ob t.ops g;have z:opB h o=false->WJ h t=false:=λhb=>by unfold WJ;rw[jqo g (by rw[D];exact hb),dz]
 simp[h7,f4,B,j0,jl,g,j7 jH,jd jH,D,yQ,j6,fr,x6];by_cases X:o.key<0;simp[X];exact c rfl (by simp[Z]) zS (z (by unfold opB;rw[jlx X];rfl));by_cases k2:(h.ks.length:Int)<=o.key;simp[X,k2,f3,oa,j0,x1,ya];exact c rfl (by simp[Z]) zS (z (by unfold opB;rw[jlw k2];rfl));have q:=jlv X k2;simp[X,k2,f3,oa,j0,x1,ya];refine jL (ev130 o.v) (by simp[J4]) rfl (by simp[J4]) ?_;cases k3:jtn o.v;simp;exact c rfl (by simp[Z]) zS (z (by unfold opB;rw[q,k3];rfl));have b7:0<=o.key:=zO;have b6:o.key<(h.ks.length:Int):=zO;have U:=jk8 (l:=l) (u:=u) (n:=h.ks.length) (kk:=.i64) b7 b6;have T:=jid (yO bs ((t.ops.take i).map (·.key))) o.key.toNat (by rw[YV,Q];omega);have b0:(yO bs ((t.ops.take i).map (·.key))).length=h.ks.length:=by rw[YV,Q]
 have p:yO bs ((t.ops.take (i+1)).map (·.key))=(yO bs ((t.ops.take i).map (·.key))).set o.key.toNat true:=by rw[ay g,bA,D];exact ji8 _ _ _
 have F:o.key.toNat+1<=h.ks.length:=zO;have j:opB h o=true->(t.ops.take (i+1)).all (opB h)=true:=λhb=>by rw[ay g,eX,k,D];simp[hb]
 generalize yO bs ((t.ops.take i).map (·.key))=mk at *;cases k4:o.w;have M:opB h o=true:=by unfold opB;rw[q,k3,k4];rfl
 simp[j0,x1,x2,x3,N,U,ol,a0,b0,F,T,fr,h7,hw];refine⟨g,?_,?_,?_,?_,J,?_,?_⟩;rw[za x4,oa];rfl;rw[za x5,B];rfl;rw[<- fI,p,dv];intro a L x;rw[za L,za (x _ zO),za (x _ zO)];exact I a L x;omega;have:=j M;rw[av]at this;exact this;cases k5:(o.v.kind==1);have H:(o.v.kind != 1)=true:=by simpa using k5
 simp[j0,H];exact c rfl (by simp[Z]) zS (z (by unfold opB;rw[q,k3,k4,k5];rfl));have H:(o.v.kind != 1)=false:=by simpa using k5
 have M:opB h o=true:=by unfold opB;rw[q,k3,k4,k5];rfl
 simp[j0,x1,x2,x3,N,U,ol,a0,b0,F,T,fr,h7,hw,H];refine⟨g,?_,?_,?_,?_,J,?_,?_⟩;rw[za x4,oa];rfl;rw[za x5,B];rfl;rw[<- fI,p,dv];intro a L x;rw[za L,za (x _ zO),za (x _ zO)];exact I a L x;omega;have:=j M;rw[av]at this;exact this;have:i=t.ops.length:=zO;subst this;rw[bk]at k ol;have hg:WJ h t=true:=by unfold WJ;rw[b5,k];rfl
 simp[h7,f4,B,j0,jl];refine⟨(.bool true,s.ob,s.tk,s.nx+64+64+64+64+64+64),?_,?_⟩;simp[endS,jv,Z];rw[<- hP];exact⟨by rw[hg],λ_=>⟨ol,I,J,by show ub<=_;simp;omega⟩⟩
end Go.Pv.T
