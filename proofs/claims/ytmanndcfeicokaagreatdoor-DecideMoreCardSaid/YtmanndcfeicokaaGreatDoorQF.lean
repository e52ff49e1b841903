/- Part. -/
import Derived.Test.YtmanndcfeicokaaGreatDoorQE
set_option maxRecDepth 100000
set_option maxHeartbeats 8000000
set_option linter.all false
namespace Go.Pv.T
open Go Go.Pv
def j7e (tm:Nat->V):yc E tm (.g 2)=.eptr utf8first 0:=rfl
def j7d (tm:Nat->V):yc E tm (.g 3)=.eptr accR 0:=rfl
def j1z (b:Nat) (h:b<256):utf8first[b]? = some (.int .u8 (Lib.firstT b:Nat)):=by unfold utf8first;rw[aR,da h];rfl
def acc_at (y:Nat) (h:y<16):(accR.drop (y*2)).take 2=[.int .u8 (Lib.accLo y:Nat),.int .u8 (Lib.accHi y:Nat)]:=by have:y=0\/y=1\/y=2\/y=3\/y=4\/y=5\/y=6\/y=7\/y=8\/y=9\/y=10\/y=11\/y=12\/y=13\/y=14\/y=15:=zO;rcases this with h|h|h|h|h|h|h|h|h|h|h|h|h|h|h|h<;>subst h<;>rfl
def and7:∀x:Fin 256,IntKind.u8.wrap ((BitVec.ofInt IntKind.u8.bits ((x.val:Nat):Int)&&&BitVec.ofInt IntKind.u8.bits 7).toNat:Int)=((x.val % 8:Nat):Int):=by decide +kernel
def j4f (x:Nat) (h:x<256):Y0 .and (.int .u8 (x:Int)) (.int .u8 7)=some (.int .u8 ((x % 8:Nat):Int)):=by simp only[Y0,XH,zd];have:=and7 ⟨x,h⟩;simp only at this;rw[this]
def j4e (x:Nat) (_:x<256):Y0 .shr (.int .u8 (x:Int)) (.int .u64 4)=some (.int .u8 ((x/16:Nat):Int)):=by
 simp only[Y0,Qg];rw[za zQ];have e:min (Int.toNat 4) IntKind.u8.bits=4:=by decide
 rw[e];congr 2;rw[gN _ zQ];omega
def j1x (b:Nat):Lib.firstT b<256:=by
 unfold Lib.firstT;repeat' split
 all_goals omega
abbrev M8:Nat:=9259542123273814144
def jmh (l:List UInt8):wd l<2^64:=by
 have h:=Lib.leNat_lt (l.take 8);have a:(256:Nat)^(l.take 8).length<=256^8:=cj zQ (by rw[ai];omega);have b:(256:Nat)^8=2^64:=by decide
 unfold wd;omega
def WZ {l:List UInt8}(a:8<=l.length) (h:wd l&&&M8=0):Lib.validD l=Lib.validD (l.drop 8):=by
 have e:(l.take 8).length=8:=by rw[ai];omega
 have:=(Lib.leNat_mask (l.take 8)).1 (by rw[e,Lib.maskN8];exact h);exact Lib.validD_ascii 8 l this
def jyc (w:Nat) (a:w<2^64):∃q:Nat,q=w&&&M8/\Y0 .and (.int .u64 (w:Int)) (.int .u64 9259542123273814144)=some (.int .u64 (q:Int)) :=
 ⟨_,rfl,jmi (b:=M8) rfl a zQ⟩
def jpg {a b:Nat}(d:a<2^64) (c:b<2^64):∃q:Nat,q=a|||b/\q<2^64/\Y0 .or (.int .u64 (a:Int)) (.int .u64 (b:Int))=some (.int .u64 (q:Int)) :=
 ⟨_,rfl,dw d c,jei d c⟩
def beq0 (q:Nat):((q:Int)==0)=decide (q=0):=by rw[bu];simp
def ev198 (s:List UInt8) (_:s.length<=1000000):Ev E 198 [.str s] (.bool (Lib.validD s)):=by
 refine jV rfl ?_;conv in(occs:=*)F198=>all_goals cbv
 simp;refine YQ (n:=s.length) [(0,200)] (λk st=>∃l,k=l.length/\st.tm 0=.str l/\Lib.validD s=Lib.validD l/\l.length<=s.length) rfl rfl ⟨s,zS⟩ ?_;rintro k st ⟨l,rfl,p,hv,hl⟩ f;have H:st.df=[]:=by rw[f.d];simp
 have fb:st.fb=0:=by rw[f.b];simp
 have fr:st.ro=0:=by rw[f.r];simp
 clear f;cases J:l with
 |nil=>subst J;simp[p];exact j4 (by simp[H]) (by simp[hv];rfl) rfl
 |cons b t=>
 rw[<- J];have h3:l.length=t.length+1:=by rw[J];rfl
 have g3:=b.toNat_lt;have M:l.getD 0 0=b:=by rw[J];rfl
 have i0:QV (.str l) (.int .i64 0)=some (.int .u8 (b.toNat:Int)):=by have:=YA (s:=l) (i:=0) (x:=0) .i64 zO rfl;rw[M]at this;exact this
 have O:0<l.length:=zO;by_cases hb:(b.toNat:Int)<128;have c4:Lib.validD s=Lib.validD t:=by rw[hv,J,Lib.validD_cons b t zO]
 have d1:Xf (some (.int .i64 1)) none (.str l)=some (.str t):=by rw[JW (k:=1) (x:=1) rfl (by omega:1<=l.length),J];rfl
 by_cases h8:8<(t.length:Int);obtain⟨w,hw⟩:∃w,wd t=w:=⟨_,rfl⟩;have g8:w<2^64:=hw▸jmh t;obtain⟨q,hq,aq⟩:=jyc w g8;simp[p,O,i0,hb,d1,h8];refine jQ (jn2 t zO) zS rfl rfl ?_;rw[hw];by_cases c5:q=0;have T:Lib.validD s=Lib.validD (t.drop 8):=by rw[c4,WZ zO (by rw[hw,<- hq,c5])]
 have d8:Xf (some (.int .i64 8)) none (.str t)=some (.str (t.drop 8)):=JW (k:=8) rfl zO;have g1:(t.drop 8).length=t.length-8:=aV;obtain⟨u,hu⟩:∃u,t.drop 8=u:=⟨_,rfl⟩;rw[hu]at T d8 g1;simp[aq,c5,d8];by_cases d0:16<(u.length:Int);have c6:Xf (some (.int .i64 8)) none (.str u)=some (.str (u.drop 8)):=JW (k:=8) rfl zO;have d6:Xf (some (.int .i64 16)) none (.str u)=some (.str (u.drop 16)):=JW (k:=16) rfl zO;have g4:(u.drop 8).length=u.length-8:=aV;obtain⟨w1,c3⟩:∃w,wd u=w:=⟨_,rfl⟩;obtain⟨w2,b9⟩:∃w,wd (u.drop 8)=w:=⟨_,rfl⟩;obtain⟨o,ho,g7,oo⟩:=jpg (c3▸jmh u) (b9▸jmh (u.drop 8));obtain⟨q2,h2,f7⟩:=jyc o g7;have e1:=jn2 u zO;have G:=jn2 (u.drop 8) zO;rw[c3]at e1;rw[b9]at G;obtain⟨u8,U⟩:∃x,u.drop 8=x:=⟨_,rfl⟩;rw[U]at c6 G g4;simp[d0];refine YI e1 zS rfl rfl ?_;simp[c6];refine YI G zS rfl rfl ?_;by_cases Q:q2=0;have f6:=(Lib.or_mask w1 w2 M8).1 (by rw[<- ho,<- h2,Q]);have b5:Lib.validD s=Lib.validD (u.drop 16):=by rw[T,WZ zO (by rw[c3];exact f6.1),U,WZ zO (by rw[<- U,b9];exact f6.2),<- U,dE]
 have d4:(u.drop 16).length=u.length-16:=aV;obtain⟨v,g9⟩:∃x,u.drop 16=x:=⟨_,rfl⟩;rw[g9]at d6 b5 d4;simp[oo,f7,Q,d6];refine YQ (n:=v.length) [(0,0),(42,64)] (λk st=>∃x,k=x.length/\st.tm 0=.str x/\Lib.validD s=Lib.validD x/\x.length<=v.length) rfl rfl ⟨v,by simp[b5]⟩ ?_;rintro k h5 ⟨x,rfl,g0,gv,gl⟩ _;by_cases c9:32<(x.length:Int);have f0:Xf (some (.int .i64 8)) none (.str x)=some (.str (x.drop 8)):=JW (k:=8) rfl zO;have b6:Xf (some (.int .i64 16)) none (.str x)=some (.str (x.drop 16)):=JW (k:=16) rfl zO;have b0:Xf (some (.int .i64 24)) none (.str x)=some (.str (x.drop 24)):=JW (k:=24) rfl zO;have b7:Xf (some (.int .i64 32)) none (.str x)=some (.str (x.drop 32)):=JW (k:=32) rfl zO;have e6:(x.drop 32).length=x.length-32:=aV;obtain⟨y0,X⟩:∃w,wd x=w:=⟨_,rfl⟩;obtain⟨y1,S⟩:∃w,wd (x.drop 8)=w:=⟨_,rfl⟩;obtain⟨y2,Z⟩:∃w,wd (x.drop 16)=w:=⟨_,rfl⟩;obtain⟨y3,a0⟩:∃w,wd (x.drop 24)=w:=⟨_,rfl⟩;obtain⟨p1,e5,d2,f9⟩:=jpg (X▸jmh x) (S▸jmh (x.drop 8));obtain⟨p2,d3,d5,c7⟩:=jpg (Z▸jmh (x.drop 16)) (a0▸jmh (x.drop 24));obtain⟨p3,c8,e0,f1⟩:=jpg d2 d5;obtain⟨q3,d9,f8⟩:=jyc p3 e0;have e1:=jn2 x zO;have G:=jn2 (x.drop 8) (by rw[aV];omega);have e3:=jn2 (x.drop 16) (by rw[aV];omega);have e4:=jn2 (x.drop 24) (by rw[aV];omega);rw[X]at e1;rw[S]at G;rw[Z]at e3;rw[a0]at e4;have b8:q3=0->Lib.validD s=Lib.validD (x.drop 32):=by
  intro hz;rw[d9,c8,Lib.or_mask,e5,d3,Lib.or_mask,Lib.or_mask]at hz;obtain⟨⟨z0,z1⟩,z2,z3⟩:=hz;rw[gv,WZ zO (by rw[X];exact z0),WZ (by rw[aV];omega) (by rw[S];exact z1),dE,
   WZ (by rw[aV];omega) (by rw[Z];exact z2),dE,WZ (by rw[aV];omega) (by rw[a0];exact z3),dE]
 clear X S Z a0 e5 d3 c8 d9;obtain⟨x8,g5⟩:∃z,x.drop 8=z:=⟨_,rfl⟩;obtain⟨h6,d7⟩:∃z,x.drop 16=z:=⟨_,rfl⟩;obtain⟨h4,e9⟩:∃z,x.drop 24=z:=⟨_,rfl⟩;obtain⟨f5,e7⟩:∃z,x.drop 32=z:=⟨_,rfl⟩;rw[g5]at f0 G;rw[d7]at b6 e3;rw[e9]at b0 e4;rw[e7]at b7 e6 b8;simp[g0,c9];refine YI e1 zS rfl rfl ?_;simp[f0,g0];refine YI G zS rfl rfl ?_;simp[b6,f9,g0];refine YI e3 zS rfl rfl ?_;simp[b0,g0];refine YI e4 zS rfl rfl ?_;by_cases P:q3=0;simp[c7,f1,f8,P,b7,g0];exact⟨f5.length,zO,f5,rfl,rfl,b8 P,zO⟩;simp[c7,f1,f8,beq0,P,g0];exact⟨x.length,zO,x,rfl,rfl,gv,zO⟩;simp[g0,c9];exact⟨x.length,zO,x,rfl,rfl,gv,zO⟩;simp[oo,f7,beq0,Q];exact⟨u.length,zO,u,rfl,rfl,T,zO⟩;simp[d0];exact⟨u.length,zO,u,rfl,rfl,T,zO⟩;simp[aq,beq0,c5];exact⟨t.length,zO,t,rfl,rfl,c4,zO⟩;simp[p,O,i0,hb,d1,h8];exact⟨t.length,zO,t,rfl,rfl,c4,zO⟩;have a:=Lib.validD_lead l (by rw[J];simp) (by rw[M];omega);rw[M]at a;rw[<- hv]at a;obtain⟨x,hx⟩:∃x,Lib.firstT b.toNat=x:=⟨_,rfl⟩;have N:x<256:=hx▸j1x _;have e8:=j1z b.toNat b.toNat_lt;have g6:W2 256 1 (.eptr utf8first 0) (.int .u8 (b.toNat:Int))=some (.eptr utf8first b.toNat):=by simp only[W2];rw[zb zO];simp
 have a7:=j4f x N;have s4:=j4e x N;obtain⟨y,hy⟩:∃y,x/16=y:=⟨_,rfl⟩;obtain⟨j,g2⟩:∃y,x % 8=y:=⟨_,rfl⟩;have f4:y<16:=zO;have h1:W2 16 2 (.eptr accR 0) (.int .u8 (y:Int))=some (.eptr accR (y*2)):=by simp only[W2];rw[zb zO];simp
 have ld2:∀ob,WG ob (some 2) (.eptr accR (y*2))=some (.agg [.int .u8 (Lib.accLo y:Nat),.int .u8 (Lib.accHi y:Nat)]):=λob=>by rw[jc3,WB,acc_at y f4,zb (by show y*2+2<=32;omega)]
 have cv:Xb .i64 (.int .u8 (j:Int))=some (.int .i64 (j:Int)):=by simp only[Xb];rw[ji zO zO]
 rw[hx]at a e8;rw[g2]at a7 a;rw[hy]at s4 a;have B:1<l.length->_:=λh=>YA (s:=l) (i:=1) (x:=1) .i64 h rfl;have L:2<l.length->_:=λh=>YA (s:=l) (i:=2) (x:=2) .i64 h rfl;have i3:3<l.length->_:=λh=>YA (s:=l) (i:=3) (x:=3) .i64 h rfl;generalize (l.getD 1 0).toNat=b1 at *;generalize (l.getD 2 0).toNat=b2 at *;generalize (l.getD 3 0).toNat=b3 at *;generalize Lib.accLo y=lo at *;generalize Lib.accHi y=m at *;simp[p,O,i0,hb,j7e,g6,e8,a7,cv,s4,j7d,h1,ld2,j0,fb,fr,j2];by_cases F:j=2;by_cases D:(l.length:Int)<2;have c:Lib.checkN l.length b1 b2 b3 j lo m=none:=by unfold Lib.checkN;simp[F];omega
 rw[c]at a;simp[F,p,D];exact j4 (by simp[H]) (by simp[a]) rfl;have B:=B zO;by_cases I:(b1:Int)<lo;have c:Lib.checkN l.length b1 b2 b3 j lo m=none:=by unfold Lib.checkN;simp[F];omega
 rw[c]at a;simp[F,p,j0,D,B,I];exact j4 (by simp[H]) (by simp[a]) rfl;by_cases K:(m:Int)<b1;have c:Lib.checkN l.length b1 b2 b3 j lo m=none:=by unfold Lib.checkN;simp[F];omega
 rw[c]at a;simp[F,p,j0,D,B,I,K];exact j4 (by simp[H]) (by simp[a]) rfl;have c:Lib.checkN l.length b1 b2 b3 j lo m=some 2:=by unfold Lib.checkN;simp[F];omega
 rw[c]at a;have dd:Xf (some (.int .i64 2)) none (.str l)=some (.str (l.drop 2)):=JW (k:=2) rfl zO;simp[F,p,j0,D,B,I,K,dd];exact⟨(l.drop 2).length,by rw[aV];omega,l.drop 2,zS,rfl,a,by rw[aV];omega⟩;by_cases g:j=3;by_cases D:(l.length:Int)<3;have c:Lib.checkN l.length b1 b2 b3 j lo m=none:=by unfold Lib.checkN;simp[g];omega
 rw[c]at a;simp[g,p,D];exact j4 (by simp[H]) (by simp[a]) rfl;have B:=B zO;have L:=L zO;by_cases I:(b1:Int)<lo;have c:Lib.checkN l.length b1 b2 b3 j lo m=none:=by unfold Lib.checkN;simp[g];omega
 rw[c]at a;simp[g,p,j0,D,B,I];exact j4 (by simp[H]) (by simp[a]) rfl;by_cases K:(m:Int)<b1;have c:Lib.checkN l.length b1 b2 b3 j lo m=none:=by unfold Lib.checkN;simp[g];omega
 rw[c]at a;simp[g,p,j0,D,B,I,K];exact j4 (by simp[H]) (by simp[a]) rfl;by_cases G:(b2:Int)<128;have c:Lib.checkN l.length b1 b2 b3 j lo m=none:=by unfold Lib.checkN;simp[g];omega
 rw[c]at a;simp[g,p,j0,D,B,L,I,K,G];exact j4 (by simp[H]) (by simp[a]) rfl;by_cases f2:191<(b2:Int);have c:Lib.checkN l.length b1 b2 b3 j lo m=none:=by unfold Lib.checkN;simp[g];omega
 rw[c]at a;simp[g,p,j0,D,B,L,I,K,G,f2];exact j4 (by simp[H]) (by simp[a]) rfl;have c:Lib.checkN l.length b1 b2 b3 j lo m=some 3:=by unfold Lib.checkN;simp[g];omega
 rw[c]at a;have dd:Xf (some (.int .i64 3)) none (.str l)=some (.str (l.drop 3)):=JW (k:=3) rfl zO;simp[g,p,j0,D,B,L,I,K,G,f2,dd];exact⟨(l.drop 3).length,by rw[aV];omega,l.drop 3,zS,rfl,a,by rw[aV];omega⟩;by_cases e:j=4;by_cases D:(l.length:Int)<4;have c:Lib.checkN l.length b1 b2 b3 j lo m=none:=by unfold Lib.checkN;simp[e];omega
 rw[c]at a;simp[e,p,D];exact j4 (by simp[H]) (by simp[a]) rfl;have B:=B zO;have L:=L zO;have i3:=i3 zO;by_cases I:(b1:Int)<lo;have c:Lib.checkN l.length b1 b2 b3 j lo m=none:=by unfold Lib.checkN;simp[e];omega
 rw[c]at a;simp[e,p,j0,D,B,I];exact j4 (by simp[H]) (by simp[a]) rfl;by_cases K:(m:Int)<b1;have c:Lib.checkN l.length b1 b2 b3 j lo m=none:=by unfold Lib.checkN;simp[e];omega
 rw[c]at a;simp[e,p,j0,D,B,I,K];exact j4 (by simp[H]) (by simp[a]) rfl;by_cases G:(b2:Int)<128;have c:Lib.checkN l.length b1 b2 b3 j lo m=none:=by unfold Lib.checkN;simp[e];omega
 rw[c]at a;simp[e,p,j0,D,B,L,I,K,G];exact j4 (by simp[H]) (by simp[a]) rfl;by_cases f2:191<(b2:Int);have c:Lib.checkN l.length b1 b2 b3 j lo m=none:=by unfold Lib.checkN;simp[e];omega
 rw[c]at a;simp[e,p,j0,D,B,L,I,K,G,f2];exact j4 (by simp[H]) (by simp[a]) rfl;by_cases e3:(b3:Int)<128;have c:Lib.checkN l.length b1 b2 b3 j lo m=none:=by unfold Lib.checkN;simp[e];omega
 rw[c]at a;simp[e,p,j0,D,B,L,i3,I,K,G,f2,e3];exact j4 (by simp[H]) (by simp[a]) rfl;by_cases f3:191<(b3:Int);have c:Lib.checkN l.length b1 b2 b3 j lo m=none:=by unfold Lib.checkN;simp[e];omega
 rw[c]at a;simp[e,p,j0,D,B,L,i3,I,K,G,f2,e3,f3];exact j4 (by simp[H]) (by simp[a]) rfl;have c:Lib.checkN l.length b1 b2 b3 j lo m=some 4:=by unfold Lib.checkN;simp[e];omega
 rw[c]at a;have dd:Xf (some (.int .i64 4)) none (.str l)=some (.str (l.drop 4)):=JW (k:=4) rfl zO;simp[e,p,j0,D,B,L,i3,I,K,G,f2,e3,f3,dd];exact⟨(l.drop 4).length,by rw[aV];omega,l.drop 4,zS,rfl,a,by rw[aV];omega⟩;have c:Lib.checkN l.length b1 b2 b3 j lo m=none:=by unfold Lib.checkN;simp[F,g,e]
 rw[c]at a;have z2:((j:Int)==2)=false:=by simp;omega
 have z3:((j:Int)==3)=false:=by simp;omega
 have z4:((j:Int)==4)=false:=by simp;omega
 simp[z2,z3,z4];exact j4 (by simp[H]) (by simp[a]) rfl
def jak:Nat->List Int->Bool
 |n,[]=>decide (0<n)&&decide (n<=20)
 |n,c::l=>if !jcv c||(decide (n=0)&&WP c) then false else jak (n+1) l
def jhh:∀(l:List Int) (n:Nat),0<n->jak n l=(l.all jcv&&decide (n+l.length<=20))
 |[],n,h=>by simp[jak,h]
 |c::l,n,h=>by have b:¬n=0:=zO;rw[jak,jhh l (n+1) zO];cases a:jcv c;simp[a];simp only[a,b,decide_false,bZ,bx,cl,ak,zc,bW,cp,bg];congr 2;exact zj ⟨λh=>by omega,λh=>by omega⟩
def j0j (l:List Int):jak 0 l=nmOk l:=by
 cases l with
 |nil=>rfl
 |cons c l=>
  rw[jak,jhh l 1 zO];unfold nmOk jfs;have e:decide (1+l.length<=20)=decide (l.length+1<=20):=by rw[fG]
  cases b:jcv c<;>cases a:WP c<;>simp[b,a,e];rw[fU]
def j6c {E:Env}{Yf:YF}{st:St}{ub:Nat}{K:St->Nat->Prop}{d:Option Nat}{nm:Bool}{x:A}{l u pos:Nat}{s:List UInt8}(e:yc E st.tm x=.iter l u) (b:st.ob l=some ⟨u,.siter s pos⟩) (a:st.ro<=u)
 (f:pos<s.length->Q6 K st d ub { v:=.tup [.bool true,.int .i64 pos,.int .i32 (rU s pos:Nat)],obs:=[(l,⟨u,.siter s (pos+rW s pos)⟩)] })
 (c:¬pos<s.length->jal K st d ub (.tup [.bool false])):j5 E Yf ⟨d,.nextStr x,none,nm⟩ st ub K:=jsf e b a f c
def ev137 (s:List UInt8) (w:s.length<=1000000):Ev E 137 [.str s] (.bool (ji1 s)):=by
 refine jV rfl ?_;conv in(occs:=*)F137=>all_goals cbv
 simp;refine jQ (ev197 s) zS rfl rfl ?_;unfold ji1;cases b1:j5b s;case true=>simp;exact j4 rfl zS rfl
 simp;refine jQ (ev198 s w) zS rfl rfl ?_;cases b2:Lib.validD s;case false=>simp;exact j4 rfl zS rfl
 simp;rw[<- j0j];refine YQ (n:=s.length) [(2,3),(5,5),(15,30)] (λk i=>∃p n u,k=s.length-p/\p<=s.length/\n<=p/\i.tm 3=.int .i64 (n:Nat)/\i.tm 14=.iter 28 u/\i.ob 28=some ⟨u,.siter s p⟩/\jak 0 (JK s)=jak n (RN s p)) rfl rfl
  ⟨0,0,640,by simp[jew]⟩ ?_
 rintro k i ⟨p,n,u,rfl,B,y,m,h,v,a⟩ f;have q:i.df=[]:=by rw[f.d];simp
 have D:i.fb=0:=by rw[f.b];simp
 have fr:i.ro=0:=by rw[f.r];simp
 clear f;simp;refine j6c (l:=28) (u:=u) (pos:=p) (s:=s) (by simp[h]) (by simp[v]) (by simp[fr]) (λj=>?_) (λt=>?_);have z:=jkh j;rw[jyf j,jak]at a;obtain⟨c,x⟩:∃c:Int,(rU s p:Int)=c:=⟨_,rfl⟩;rw[x]at a ⊢;simp;refine jQ (ev199 c) zS rfl rfl ?_;cases g:jcv c;rw[g]at a;simp;exact j4 (by simp[q]) (by simp[a]) rfl;by_cases e:n=0;subst e;simp[m];refine jQ (ev200 c) zS rfl rfl ?_;cases o:WP c;simp[m,h,o,g]at a ⊢;exact⟨s.length-(p+rW s p),zO,p+rW s p,rfl,zO,1,zO,zQ,rfl,a⟩;simp[o,g]at a ⊢;exact j4 (by simp[q]) (by simp[a]) rfl;simp[m,h,g,beq0,e]at a ⊢;exact⟨s.length-(p+rW s p),zO,p+rW s p,rfl,zO,n+1,zO,by rw[ji zO zO];simp,rfl,a⟩;have:p=s.length:=zO;subst this;rw[j30 zK,jak]at a;by_cases e:0<n;simp[m,e]at a ⊢;exact j4 (by simp[q]) (by simp[a];omega) rfl;simp[m,e]at a ⊢;exact j4 (by simp[q]) (by simp[a]) rfl
def ev141 (nl:Bool) (t:List (List UInt8)) (O:t.length<=1000000) (D:∀s∈t,s.length<=1000000):Ev E 141 [yj nl Jj t] (.bool (jyk t)):=by
 refine jV rfl ?_;conv in(occs:=*)F141=>all_goals cbv
 simp;refine j7 [(2,4),(7,29)] t.length (λi s=>s.tm 7=.int .i64 i/\∀j,j<t.length->j<i->jr4 t j=true) rfl rfl ⟨zS,λj _ h=>by omega⟩ ?_;rintro i s N ⟨u,B⟩ f;have G:s.tm 0=yj nl Jj t:=by rw[f.t 0 zS];simp
 have I:s.tm 5=yj nl Jj t:=by rw[f.t 5 zS];simp
 have F:s.tm 6=.int .i64 t.length:=by rw[f.t 6 zS];simp
 have v:s.df=[]:=by rw[f.d];simp
 clear f;by_cases a:i<t.length;have H:=jc a zO;have b:jr4 t i=(ji1 t[i]&&(i==0||ji4 (t.getD (i-1) []) t[i])):=by unfold jr4;rw[X1 a]
 have o:=D _ (av a);obtain⟨c,M⟩:∃c,t[i]=c:=⟨_,rfl⟩;have p:=jgr t a;rw[M]at b p o;have jde:jr4 t i=true->∀j,j<t.length->j<i+1->jr4 t j=true:=λh j m w=>by rcases bz.1 w with h'|rfl;exact B j m h';exact h
 simp[u,I,F,a,j6 YR,p];refine jQ (ev137 c o) zS rfl rfl ?_;cases q:ji1 c;rw[q]at b;simp;exact j4 (by simp[v]) (by simp[jos a b]) rfl;rw[q]at b;by_cases z:i=0;subst z;simp[u];exact⟨a,zQ,λj m h=>by subst h;exact jde (by simp[b]) 0 m zO⟩;have r:0<i:=zO;have y:=j82 r zO;have k:i-1<t.length:=zO;have x:=D _ (av k);have n:=jgr t k;rw[X1 k]at b;obtain⟨e,K⟩:∃e,t[i-1]=e:=⟨_,rfl⟩;rw[K]at b n x;have L:=YU e;have J:=YU c;simp[G,r,y,k,j6 YR,n];refine jQ (ev206 e c zO zO) zS rfl rfl ?_;cases l:ji4 e c;have g:=l;unfold ji4 at g;rw[g];simp;exact j4 (by simp[v]) (by simp[jos a (by simp[b,l,z])]) rfl;have g:=l;unfold ji4 at g;rw[g];simp[u,H];exact⟨a,jde (by simp[b,l])⟩;have:i=t.length:=zO;subst this;simp[u,F];exact j4 (by simp[v]) (by simp[j2y (λj m=>B j m m)]) rfl
def Fr1 (n:Nat) (ob ob':ZO):Prop:=∀key,(∀m,n<=m->key≠2*m+1)->ob' key=ob key
def jg7 (h:Hist') (hn:h.ts.length<=1000) (D:∀t∈h.ts,t.ops.length<=1000000) {asg bd:C}{ps:List Nat}(O:ps.length=2) (S:asg.one=true) (H:bd.one=true) {st:St}{f:A}{lh uh:Nat}
 (hf:yc E st.tm f=.fn (.func 145) [] [.ptr lh uh 0]) (oh:st.ob lh=some ⟨uh,.cells (ya h)⟩) (G:lh≠2*st.nx+1) (N:lh≠2*st.nx+3) (K:st.ro=0)
 (J:Nat->Nat->(ZO)->(Nat->Bool)->Nat->Prop) {Q:Ex->St->Prop}
 (c:∀i k ob d tk ub q,J i k ob tk ub->ub<=q->Fr1 st.nx ob d->J i k d tk q)
 (w:∀i (hi:i<h.ts.length) ob tk ub,J i (h.ts[i]).ops.length ob tk ub->J (i+1) 0 ob tk ub)
 (o:∀i (hi:i<h.ts.length) k (b:k<(h.ts[i]).ops.length) ob tk ub,J i k ob tk ub->ob (2*st.nx+1)=some ⟨st.nx,.loop .ready none⟩->ob (2*st.nx+3)=some ⟨st.nx+1,.dfr⟩->st.nx+64<=ub ->
  wpC E YO asg { tm:=jes st.tm ps [.agg [.int .i64 i,.int .i64 k],.agg (yP (h.ts[i]).ops[k])],ob:=ob,tk:=tk,ro:=0,nx:=ub,fb:=st.fb,df:=[] } λe B=>e=.nrm/\B.ob (2*st.nx+1)=some ⟨st.nx,.loop .ready none⟩ /\
   wpC E YO bd { B with ob:=upd B.ob (2*st.nx+1) (some ⟨st.nx,.loop .busy none⟩) } λe n=>n.ob (2*st.nx+1)=some ⟨st.nx,.loop .busy none⟩/\n.ob (2*st.nx+3)=some ⟨st.nx+1,.dfr⟩/\st.nx+64<=n.nx/\e=.nrm/\J i (k+1) n.ob n.tk n.nx)
 (h0:J 0 0 st.ob st.tk (st.nx+64))
 (hQ:∀ob tk ub,J h.ts.length 0 ob tk ub->ob (2*st.nx+3)=some ⟨st.nx+1,.dfr⟩->st.nx+64<=ub->Q .nrm { st with ob:=ob,tk:=tk,nx:=ub,df:=(2*st.nx+3,st.nx+1)::st.df }) :
 wpC E YO (.rangeFunc f ps asg bd) st Q:=by
 refine WX (g:=145) (first:=[]) (captured:=[.ptr lh uh 0]) hf ?_;have v:¬2*st.nx+3=2*st.nx+1:=zO;have X:¬2*st.nx+1=2*st.nx+3:=zO;have:=j25 (Yf:=jg0 E YO asg bd st ps (2*st.nx+1) st.nx) h hn D (l:=2*st.nx+1) (u:=st.nx) (lh:=lh) (uh:=uh)
  (ob0:=upd (upd st.ob (2*st.nx+3) (some ⟨st.nx+1,.dfr⟩)) (2*st.nx+1) (some ⟨st.nx,.loop .ready none⟩)) (tk0:=st.tk) (ro:=st.ro) (base:=(st.fb+1023)*1024) (ub0:=st.nx+64)
  (by simp only[yf,G,N,zc,oh]) zO
  (λi k ob tk ub=>J i k ob tk ub/\ob (2*st.nx+1)=some ⟨st.nx,.loop .ready none⟩/\ob (2*st.nx+3)=some ⟨st.nx+1,.dfr⟩/\st.nx+64<=ub)
  (λr=>∃s j,r.2.1 (2*st.nx+1)=some ⟨st.nx,.loop s j⟩/\s≠.busy/\st.ro<=st.nx/\Q (j.getD .nrm) { st with ob:=λk=>if Nat.beq (2*st.nx+1) k then none else r.2.1 k,tk:=r.2.2.1,nx:=r.2.2.2,df:=(2*st.nx+3,st.nx+1)::st.df })
  ?_ ?_ ?_ ?_ ?_
 obtain⟨r,M,hP⟩:=this;exact⟨r,M,hP⟩;rintro i k ob d tk ub q ⟨p,x,y,z⟩ F I;have f:∀a,(∀m,ub<=m->a≠2*m+1)->d a=ob a:=I;exact⟨c _ _ _ _ _ _ _ p F (λa b=>f a (λm D=>b m zO)),by rw[f _ (λm D=>by omega)];exact x,by rw[f _ (λm D=>by omega)];exact y,zO⟩;rintro i hi ob tk ub ⟨p,g⟩;exact⟨w i hi ob tk ub p,g⟩;rintro i hi k b ob tk ub ⟨p,x,y,z⟩ a0;have hb:=o i hi k b ob tk ub p x y z;have:=jga (E:=E) (Yf:=YO) (asg:=asg) (bd:=bd) (st:=st) (ps:=ps) (l:=2*st.nx+1) (u:=st.nx) (xs:=[.agg [.int .i64 i,.int .i64 k],.agg (yP (h.ts[i]).ops[k])]) (ob:=ob) (tk:=tk) (ro:=st.ro) (ub:=ub)
  (P:=λr=>st.ro<=r.2.2.2/\r.1=.bool true/\J i (k+1) r.2.1 r.2.2.1 r.2.2.2/\r.2.1 (2*st.nx+1)=some ⟨st.nx,.loop .ready none⟩/\r.2.1 (2*st.nx+3)=some ⟨st.nx+1,.dfr⟩/\st.nx+64<=r.2.2.2)
  (by simp[O]) zO x S H (by
   rw[K];refine X4 (λe B h1=>?_) hb;obtain⟨e1,e2,e3⟩:=h1;refine⟨e1,e2,X4 (λe n U=>?_) e3⟩;obtain⟨k1,k2,k3,k4,k5⟩:=U;subst k4;refine⟨k1,zO,rfl,?_,?_,?_,k3⟩;exact c _ _ _ _ _ _ _ k5 zK (λa b=>JG _ _ (b st.nx zK));exact Yr _ _ _;show upd n.ob _ _ _=_;rw[JG _ _ v];exact k2)
 obtain⟨r,M,p1,Z,T,p4,p5,p6⟩:=this;exact⟨r,M,p1,.inl ⟨Z,T,p4,p5,p6⟩⟩;rintro ob tk ub ⟨p,x,y,z⟩;refine⟨.ready,none,x,zS,zO,?_⟩;have L:Fr1 st.nx ob (λk=>if Nat.beq (2*st.nx+1) k then none else ob k):=λa b=>j3x ob (b st.nx zK);exact hQ _ _ _ (c _ _ _ _ _ _ _ p zK L) ((j3x ob v).trans y) z;refine⟨c _ _ _ _ _ _ _ h0 zK (λa b=>?_),Yr _ _ _,?_,zO⟩;have h3:=b (st.nx+1) zO;rw[JG _ _ (b st.nx zK),JG _ _ zO];rw[JG _ _ v,Yr]
@[simp] theorem cells_map (l u:Nat):(V.map l u).cells=[.map l u]:=rfl
@[simp] theorem leaf_map (l u:Nat):(V.map l u).leaf=true:=rfl
@[simp] theorem j3u:V.nilmap.cells=[.nilmap]:=rfl
@[simp] theorem j54:V.nilmap.leaf=true:=rfl
def Xa (h:Hist'):Bool:=jyk h.ss&&(jyk h.ks&&(decide (h.ss.length<=20)&&(decide (h.ks.length<=40)&&decide (h.ts.length<=40))))
structure Small (h:Hist'):Prop where
 ss:h.ss.length<=1000
 sl:∀s∈h.ss,s.length<=1000
 ks:h.ks.length<=1000
 kl:∀s∈h.ks,s.length<=1000
 ts:h.ts.length<=1000
 os:∀t∈h.ts,t.ops.length<=1000
def ev87 {h:Hist'}(a:Small h):Ev E 87 [.agg (ya h)] (.bool (Xa h)):=by
 refine jV rfl ?_;have b:=ev141 h.sn h.ss (by have:=a.ss;omega) (λs h=>by have:=a.sl s h;omega);have c:=ev141 h.kn h.ks (by have:=a.ks;omega) (λs h=>by have:=a.kl s h;omega);conv in(occs:=*)F87=>all_goals cbv
 simp[ya,j0];refine jQ b zS rfl rfl ?_;unfold Xa;cases b1:jyk h.ss;simp;exact j4 rfl zS rfl;simp[j0];refine jQ c zS rfl rfl ?_;cases b2:jyk h.ks;simp;exact j4 rfl zS rfl;by_cases b3:(h.ss.length:Int)<=20;by_cases b4:(h.ks.length:Int)<=40;simp[j0,b3,b4];exact j4 rfl (by simp[show h.ss.length<=20 by omega,show h.ks.length<=40 by omega];omega) rfl;simp[j0,b3,b4];exact j4 rfl zP rfl;simp[j0,b3];exact j4 rfl zP rfl
def usesS (h:Hist'):List Int:=h.ts.map (·.s)
def usesK (h:Hist'):List Int:=(jcw h).map (·.key)
def jq7 (h:Hist'):Bool:=decide ((dd (usesS h)).length=h.ss.length)&&decide ((dd (usesK h)).length=h.ks.length)
def jfa (h:Hist') (i k:Nat):List Op':=(h.ts.take i).flatMap (·.ops)++(h.ts.getD i ⟨0,0,true,[]⟩).ops.take k
def jry {h:Hist'}{i k:Nat}(hi:i<h.ts.length) (a:k<(h.ts[i]).ops.length):jfa h i (k+1)=jfa h i k++[(h.ts[i]).ops[k]]:=by unfold jfa;rw[X1 hi,aw a,bm]
def jrz {h:Hist'}{i:Nat}(hi:i<h.ts.length):jfa h i (h.ts[i]).ops.length=jfa h (i+1) 0:=by unfold jfa;rw[X1 hi,bf,eN,aU,aw hi,ch];simp
def jve (h:Hist'):jfa h h.ts.length 0=jcw h:=by simp[jfa,jcw]
def jrx (h:Hist'):jfa h 0 0=[]:=by simp[jfa]
def Qa {res:List ARes}{st:St}{l u:Nat}{v:V}(a:st.df=[(l,u)]) (b:st.ob l=some ⟨u,.dfr⟩) (d:st.ro<=u)
 (h:jcj res (.ret,{ st with ob:=λk=>if Nat.beq l k then none else st.ob k,df:=[] })=some v):jcj res (.ret,st)=some v:=by
 have e:j3s st=true:=by unfold j3s;rw[a];simp only[bW,List.all_nil,b,eu,bi,ci,yG,bP,cu,aj,cE,true_and];exact bT▸d
 have c:st.noDf={ st with ob:=λk=>if Nat.beq l k then none else st.ob k,df:=[] }:=by unfold St.noDf;rw[a];simp
 simp only[jcj,e,c,zd];simp only[jcj]at h;rw[W4 rfl,W0 rfl]at h;exact h
def ev93 {h:Hist'}(hs:Small h):Ev E 93 [.agg (ya h)] (.bool (jq7 h)):=by
 refine jV rfl ?_;have b0:=hs.ts;conv in(occs:=*)F93=>all_goals cbv
 simp[ya,j0,j2];refine j7 [(6,6),(15,23),(14,14)] h.ts.length (λi s=>s.tm 14=.int .i64 i/\s.ob 2=some ⟨0,.cells (ya h)⟩/\s.ob 8=some ⟨256,.cells [.map 20 192]⟩/\s.ob 20=some ⟨192,.mp 0 []⟩ /\
  ∃ver m,s.ob 18=some ⟨128,.mp ver (MP jgh m)⟩/\m.map (·.1)=dd ((h.ts.take i).map (·.s))) rfl rfl ⟨zS,zI,zS,zS,0,[],by simp[MP],by simp[dd]⟩ ?_
 rintro i s O ⟨y,o2,o8,I,ver,m,z,hm⟩ f;have Z:s.tm 12=yj h.tn jt h.ts:=by rw[f.t 12 zS];simp
 have M:s.tm 13=.int .i64 h.ts.length:=by rw[f.t 13 zS];simp
 have f1:s.tm 1=.ptr 2 0 0:=by rw[f.t 1 zS];simp
 have f3:s.tm 3=.map 18 128:=by rw[f.t 3 zS];simp
 have f4:s.tm 4=.ptr 8 256 0:=by rw[f.t 4 zS];simp
 have fd:s.df=[]:=by rw[f.d];simp
 have fb:s.fb=0:=by rw[f.b];simp
 have fr:s.ro=0:=by rw[f.r];simp
 clear f;by_cases q:i<h.ts.length;have hw:=jc q zO;simp[y,Z,M,q,j6 j9,jh j9,jt,j0,fb,fr,j2,f3,jhr m,jS,z];refine jb2 (f:=jgh) (a:=IntKind.i64.wrap (j8p m h.ts[i].s+1)) (ver:=ver) (l:=18) (u:=128) (k:=h.ts[i].s) m zS zS (by simp[jgh]) (by simp[z]) (by simp[fr]) ?_;simp[y,hw,o2,o8,I,ya];refine⟨q,ver+1,W6 m h.ts[i].s (IntKind.i64.wrap (j8p m h.ts[i].s+1)),zS,?_⟩;rw[jk2,hm,<- fh,aw q,bw];exact(jxy _ _).symm;have:i=h.ts.length:=zO;subst this;rw[bf]at hm;simp[y,M];simp[f1,o2,j0,ya];refine jb3 (vs:=[.agg (ya h)]) zI rfl ?_;obtain⟨r,hr,e1,D,e3,e4⟩:=ev91 (Yf:=YO) h s.ob s.tk 0 (26*1024) (s.nx+64+64);refine⟨r,by simpa[fr,fb] using hr,?_⟩;simp;refine jf λe c=>?_;have n2:¬(2:Nat)=2*(s.nx+64+64)+1:=zO;have n8:¬(8:Nat)=2*(s.nx+64+64)+1:=zO;have X:¬(18:Nat)=2*(s.nx+64+64)+1:=zO;have b6:¬(20:Nat)=2*(s.nx+64+64)+1:=zO;have a0:e.tm 25=.fn (.func 145) [] [.ptr (2*(s.nx+64+64)+1) (s.nx+64+64) 0]:=by rw[c];simp[put,e1]
 have g1:e.tm 1=.ptr 2 0 0:=by rw[c];simp[put,yf,f1]
 have g3:e.tm 3=.map 18 128:=by rw[c];simp[put,yf,f3]
 have g4:e.tm 4=.ptr 8 256 0:=by rw[c];simp[put,yf,f4]
 have gd:e.df=[]:=by rw[c];simp[fd]
 have gb:e.fb=0:=by rw[c];simp[fb]
 have gr:e.ro=0:=by rw[c];simp[fr]
 have gn:e.nx=s.nx+64+64+256:=by rw[c];simp[e4]
 have p2:e.ob 2=some ⟨0,.cells (ya h)⟩:=by rw[c];simp only[JJ];rw[D,za n2];exact o2
 have p8:e.ob 8=some ⟨256,.cells [.map 20 192]⟩:=by rw[c];simp only[JJ];rw[D,za n8];exact o8
 have b7:e.ob 18=some ⟨128,.mp ver (MP jgh m)⟩:=by rw[c];simp only[JJ];rw[D,za X];exact z
 have T:e.ob 20=some ⟨192,.mp 0 []⟩:=by rw[c];simp only[JJ];rw[D,za b6];exact I
 have pl:e.ob (2*(s.nx+64+64)+1)=some ⟨s.nx+64+64,.cells (ya h)⟩:=by rw[c];simp only[JJ];rw[D,zb rfl]
 clear c e1 D e3 e4 hr;refine jg7 h b0 (λt ht=>by have:=hs.os t ht;omega) rfl rfl rfl (zU a0) pl zO zO gr
  (λi k ob N P=>ob 2=some ⟨0,.cells (ya h)⟩/\ob 8=some ⟨256,.cells [.map 20 192]⟩/\ob 18=some ⟨128,.mp ver (MP jgh m)⟩/\∃F p,ob 20=some ⟨192,.mp F (MP jgh p)⟩/\p.map (·.1)=dd ((jfa h i k).map (·.key)))
  ?_ ?_ ?_ ?_ ?_
 rintro i k ob b9 N P c2 ⟨x,w,n,B,p,j,K⟩ G v;exact⟨(v 2 (λm _=>by omega)).trans x,(v 8 (λm _=>by omega)).trans w,(v 18 (λm _=>by omega)).trans n,B,p,(v 20 (λm _=>by omega)).trans j,K⟩;rintro i O ob N P ⟨x,w,n,B,p,j,K⟩;exact⟨x,w,n,B,p,j,by rw[K,jrz O]⟩;rintro i O k K ob N P ⟨x,w,n,B,p,j,g⟩ w1 Q G;have r1:¬2*e.nx+1=16:=zO;have r3:¬2*e.nx+3=16:=zO;have c0:¬2*e.nx+3=2*e.nx+1:=zO;have L:¬2*e.nx+1=20:=zO;have J:¬2*e.nx+3=20:=zO;have S:¬16=2*e.nx+1:=zO;have b8:¬8=2*e.nx+1:=zO;have H:¬20=2*e.nx+1:=zO;have b2:¬2=2*e.nx+1:=zO;have U:¬18=2*e.nx+1:=zO;simp[jes,yf,yP,j0,gb,j2,g4,r1,w1,S,b8,w,jhr p,jS,H,j];obtain⟨o,ho⟩:∃o,(h.ts[i]).ops[k]=o:=⟨_,rfl⟩;rw[ho];refine jb2 (f:=jgh) (a:=IntKind.i64.wrap (j8p p o.key+1)) (ver:=B) (l:=20) (u:=192) (k:=o.key) p zS zS (by simp[jgh]) (by simp[yf,H,j]) zS ?_;simp[yf,L,J,r3,b2,b8,U,x,w,n,Q];refine⟨zO,B+1,W6 p o.key (IntKind.i64.wrap (j8p p o.key+1)),zS,?_⟩;rw[jk2,g,jry O K,bw,ho];exact(jxy _ _).symm;exact⟨p2,p8,b7,0,[],T,by rw[jrx];rfl⟩;rintro ob N P ⟨x,w,n,B,p,j,g⟩ Q G;rw[jve]at g;have l1:m.length=(dd (usesS h)).length:=by rw[<- bp (f:=(·.1)),hm];rfl
 have l2:p.length=(dd (usesK h)).length:=by rw[<- bp (f:=(·.1)),g];rfl
 simp[g3,g1,jS,n,x,j0,ya,l1];unfold jq7;by_cases c1:(dd (usesS h)).length=h.ss.length;simp[c1,g4,g1,w,x,jS,j,j0,ya,l2];refine Qa (l:=2*e.nx+3) (u:=e.nx+1) (by simp[gd]) (by simp[Q]) (by simp[gr]) (j4 rfl ?_ rfl);simp;rw[bu];simp;omega;have b5:(((dd (usesS h)).length:Int)==(h.ss.length:Int))=false:=by simp;omega
 simp[b5];refine Qa (l:=2*e.nx+3) (u:=e.nx+1) (by simp[gd]) (by simp[Q]) (by simp[gr]) (j4 rfl ?_ rfl);simp[c1]
def Yp (h:Hist'):Bool:=Xa h&&(h.ts.all (jdy h)&&((jcw h).all (opB h)&&jq7 h))
def errH (h:Hist'):Int:=if Yp h then 0 else 4
def j77 {b:Type}(p:b->Bool) (l:List b):(l.any λt=>!p t) = !(l.all p):=by
 induction l with
 |nil=>rfl
 |cons a l c=>simp[c]
def j8w {h:Hist'}(s:Small h):Ev E 53 [.agg (ya h)] (.int .i64 (errH h)):=by
 refine jV rfl ?_;have F:=s.ts;have G:∀t∈h.ts,t.ops.length<=1000000:=λt T=>by have:=s.os t T;omega
 have o:=ev87 s;have j:=ev93 s;obtain⟨R,H⟩:∃R,errH h=R:=⟨_,rfl⟩;have a:R=if Xa h&&(h.ts.all (jdy h)&&((jcw h).all (opB h)&&jq7 h)) then 0 else 4:=H.symm
 rw[H];clear H;conv in(occs:=*)F53=>all_goals cbv
 simp[ya,j0];refine jQ o zI rfl zI ?_;cases b1:Xa h;rw[b1]at a;simp at a;subst a;simp[j0,j2];exact JS rfl (l:=[.int .i64 4]) (by simp[jy,j0]) rfl rfl;rw[b1]at a;simp[j0];refine jP (vs:=[yj h.tn jt h.ts,.fn (.func 89) [] [.ptr 2 0 0]]) zS rfl rfl (ev88 (p:=λt=>!jdy h t) rfl (λt J k M=>ev89 (h:=h) ⟨rfl,zI⟩ t J k M) h.tn h.ts zO _ _ _) ?_;rw[j77];cases b2:h.ts.all (jdy h);rw[b2]at a;replace a:R=4:=a;subst a;simp[j0,j2];exact JS rfl (l:=[.int .i64 4]) (by simp[jy,j0]) rfl rfl;rw[b2]at a;simp[j0];refine jb3 (vs:=[.agg (ya h)]) zI rfl ?_;obtain⟨r,L,N,q,e3,I⟩:=ev91 (Yf:=YO) h _ _ 0 _ _;refine⟨r,L,?_⟩;simp;refine jf λd b=>?_;obtain⟨U,z⟩:∃U,d.nx=U:=⟨_,rfl⟩;obtain⟨m,hm,w,x,P,O,Z⟩:∃m,m % 64=0/\m<U/\d.tm 15=.fn (.func 145) [] [.ptr (2*m+1) m 0]/\d.ob 2=some ⟨0,.cells (ya h)⟩/\d.ob 4=some ⟨64,.cells [.int .i64 0]⟩/\d.ob (2*m+1)=some ⟨m,.cells (ya h)⟩:=by refine⟨_,?_,?_,by rw[b];simp only[jmp,put,Yr];exact N,?_,?_,?_⟩;decide;rw[<- z,b,jil,I];omega;rw[b];simp only[JJ];rw[q];simp[ya];rw[b];simp only[JJ];rw[q];simp;rw[b];simp only[JJ];rw[q];simp
 have K:d.tm 1=.ptr 2 0 0:=by rw[b];simp[put,yf]
 have i:d.tm 2=.ptr 4 64 0:=by rw[b];simp[put,yf]
 have y:d.df=[]:=by rw[b];simp
 have S:d.fb=0:=by rw[b];simp
 have v:d.ro=0:=by rw[b];simp
 have n:64<=U:=by rw[<- z,b,jil,I];omega
 clear b N q e3 I L;refine j5g h F G U z n x ⟨m,rfl,w⟩ K i v S P O Z ?_;intro e ob J M c q2 D B Q f;rcases f with⟨b3,rfl,rfl⟩|⟨b3,rfl,rfl⟩;rw[b3]at a;simp[K,j0,q2,ya];refine jQ j zI rfl zI ?_;have g:¬2*U+3=4:=zO;have X:¬4=2*U+3:=zO;cases b4:jq7 h;rw[b4]at a;replace a:R=4:=a;subst a;simp[j0,i,D,v,j2];refine Qa (l:=2*U+3) (u:=U+1) (by simp[y]) (by simp[B,g]) zS (Qs rfl (l:=[.int .i64 4]) ?_ rfl);simp[jy,j0,i,g];rw[b4]at a;replace a:R=0:=a;subst a;simp[j0,i,D,v,j2];refine Qa (l:=2*U+3) (u:=U+1) (by simp[y]) (by simp[B,g]) zS (Qs rfl (l:=[.int .i64 0]) ?_ rfl);simp[jy,j0,i,g];rw[b3]at a;replace a:R=4:=a;subst a;have g:¬2*U+3=4:=zO;have X:¬4=2*U+3:=zO;simp;refine Qa (l:=2*U+3) (u:=U+1) (by simp[y]) (by simp[B]) (by simp[v]) (Qs rfl (l:=[.int .i64 4]) ?_ rfl);simp[jy,j0,i,g,D]
def yN (bs:List Bool) (ks:List Int):List Bool:=ks.foldl (λb k=>b.set k.toNat true) bs
def Y7 (ks:List Int):∀a:List Bool,(yN a ks).length=a.length:=by
 induction ks with
 |nil=>intro a;rfl
 |cons k ks b=>intro a;exact(b _).trans dv
def jhn (bs:List Bool) (ks:List Int) (k:Int):yN bs (ks++[k])=(yN bs ks).set k.toNat true:=by simp[yN]
def jwa (bs:List Bool) (a b:List Int):yN bs (a++b)=yN (yN bs a) b:=by simp[yN]
def jgt (bs:List Bool) (k:Nat) (h:k<bs.length):j2 (bs.map V.bool) k [.bool true]=(bs.set k true).map V.bool:=by unfold j2;rw[dI,ec,zb (zU h)];simp
def Yq (h:Hist') (t:Txn'):Bool:=jdy h t&&t.ops.all (opB h)
def jjd {l u n:Nat}{kk:IntKind}{x:Int}(b:0<=x) (a:x<n):J0 1 (.osl l u 0 n 1) (.int kk x)=some (.ptr l u x.toNat):=by simp[J0,b,a]
def jjy {n:Int}{l:Nat}(a:¬n<0) (b:¬(l:Int)<=n):YM n l=true:=by unfold YM;simp;omega
def jj0 {n:Int}{l:Nat}(a:n<0):YM n l=false:=by unfold YM;simp;omega
def jjz {n:Int}{l:Nat}(a:(l:Int)<=n):YM n l=false:=by unfold YM;simp;omega
def ev80 {Yf:YF}{h:Hist'}{t:Txn'}(ht:t.ops.length<=1000000) {ob:ZO}{tk:Nat->Bool}{ro base ub l u:Nat}{bs:List Bool}(Q:bs.length=h.ks.length) (ho:ob l=some ⟨u,.cells (bs.map V.bool)⟩) (a0:ro<=u) (c0:ro<=ub)
 (S:∀m,ub<=m->l≠2*m+1) :
 ∃r,EvS E Yf.y 80 [.agg (ya h),.agg (jt t),.osl l u 0 h.ks.length 1] ob tk ro base ub r/\r.1=.bool (Yq h t)/\(Yq h t=true ->
  r.2.1 l=some ⟨u,.cells ((yN bs (t.ops.map (·.key))).map V.bool)⟩/\(∀a,a≠l->(∀m,ub<=m->a≠2*m+1)->r.2.1 a=ob a)/\r.2.2.1=tk/\ub<=r.2.2.2):=by
 refine J7 rfl zQ ?_;show wpC E Yf S80.body _ (Jd S80.res _);have n3:¬2*(ub+64)=2*ub:=zO;have O:¬2*ub=2*(ub+64):=zO;have c:∀{e:Ex}{s:St},e=.ret->s.df=[]->s.tm 6=.bool false->Yq h t=false->Jd S80.res (λr=>r.1=.bool (Yq h t)/\(Yq h t=true ->
  r.2.1 l=some ⟨u,.cells ((yN bs (t.ops.map (·.key))).map V.bool)⟩/\(∀a,a≠l->(∀m,ub<=m->a≠2*m+1)->r.2.1 a=ob a)/\r.2.2.1=tk/\ub<=r.2.2.2)) e s:=by
  intro e s he hd h6 hg
  subst he
  refine⟨(.bool false,s.ob,s.tk,s.nx),?_,by rw[hg],λh=>by rw[hg]at h;cases h⟩
  conv in(occs:=*)S80=>all_goals cbv
  simp[endS,hd,jy,h6]
 generalize hP:(λr:V×(ZO)×(Nat->Bool)×Nat=>r.1=.bool (Yq h t)/\(Yq h t=true ->
  r.2.1 l=some ⟨u,.cells ((yN bs (t.ops.map (·.key))).map V.bool)⟩/\(∀a,a≠l->(∀m,ub<=m->a≠2*m+1)->r.2.1 a=ob a)/\r.2.2.1=tk/\ub<=r.2.2.2))=P at c ⊢
 have gf:∀{b:Bool},jdy h t=b->b=false->Yq h t=false:=λL x=>by unfold Yq;rw[L,x];rfl
 conv in(occs:=*)S80=>all_goals cbv
 simp[ya,jt,j0];by_cases G:t.s<0;simp[G];exact c rfl zS zS (gf (b:=false) (by unfold jdy;rw[jj0 G];rfl) rfl);by_cases K:(h.ss.length:Int)<=t.s;simp[G,K,j0,O];exact c rfl zS zS (gf (b:=false) (by unfold jdy;rw[jjz K];rfl) rfl);by_cases f1:t.f<1;simp[G,K,f1,j0,O];exact c rfl zS zS (gf (b:=false) (by unfold jdy;simp;omega) rfl);by_cases N:3<t.f;simp[G,K,f1,N,j0,O];exact c rfl zS zS (gf (b:=false) (by unfold jdy;simp;omega) rfl);by_cases l1:20<(t.ops.length:Int);simp[G,K,f1,N,l1,j0,O];exact c rfl zS zS (gf (b:=false) (by unfold jdy;simp;omega) rfl);have b5:jdy h t=true:=by unfold jdy;rw[jjy G K];simp;omega
 simp[G,K,f1,N,l1,j0,O];refine j7 [(6,8),(36,78)] t.ops.length (λi s=>s.tm 7=.int .i64 i/\s.ob (2*ub+1)=some ⟨ub,.cells (ya h)⟩/\s.ob (2*(ub+64)+1)=some ⟨ub+64,.cells (jt t)⟩ /\
  s.ob l=some ⟨u,.cells ((yN bs ((t.ops.take i).map (·.key))).map V.bool)⟩/\(∀a,a≠l->(∀m,ub<=m->a≠2*m+1)->s.ob a=ob a)/\s.tk=tk/\ub+128<=s.nx/\(t.ops.take i).all (opB h)=true) rfl rfl ?_ ?_
 refine⟨zS,by simp[O,ya],by simp[jt],?_,?_,?_,?_,zS⟩;have e1:=S ub zO;have e2:=S (ub+64) zO;simp[e1,e2,ho,yN];intro a _ hm;have e1:=hm ub zO;have e2:=hm (ub+64) zO;simp[e1,e2];simp[jn];simp;rintro i s hi ⟨h7,oa,B,ol,I,J,c1,k⟩ f;have N:s.tm 2=.osl l u 0 h.ks.length 1:=by rw[f.t 2 zS];simp
 have f3:s.tm 3=.ptr (2*ub+1) ub 0:=by rw[f.t 3 zS];simp
 have f4:s.tm 4=.ptr (2*(ub+64)+1) (ub+64) 0:=by rw[f.t 4 zS];simp
 have Z:s.df=[]:=by rw[f.d];simp
 have fr:s.ro=ro:=by rw[f.r];simp
 clear f;by_cases g:i<t.ops.length;have hw:=jc g zO;have x1:¬2*ub=2*(s.nx+64+64+64+64+64+64+64+64+64+64):=zO;have x2:¬2*(ub+64)=2*(s.nx+64+64+64+64+64+64+64+64+64+64):=zO;have x3:¬l=2*(s.nx+64+64+64+64+64+64+64+64+64+64)+1:=S _ zO;have b8:¬2*(s.nx+64+64+64+64+64+64+64+64+64+64)+1=l:=λe=>x3 e.symm;have x4:¬2*ub+1=l:=λe=>S ub zO e.symm;have x5:¬2*(ub+64)+1=l:=λe=>S (ub+64) zO e.symm;have x6:ro<=s.nx+64+64+64+64+64+64+64+64+64+64:=zO;obtain⟨o,D⟩:∃o,t.ops[i]=o:=⟨_,rfl⟩;have b9:=jh jH s.ob t.ops g;have z:opB h o=false->Yq h t=false:=λhb=>by unfold Yq;rw[joe g (by rw[D];exact hb),dF]
 simp[h7,f4,B,j0,jt,g,j6 jH,jh jH,D,yP,j2,fr,x6];by_cases X:o.key<0;simp[X];exact c rfl (by simp[Z]) zS (z (by unfold opB;rw[jj0 X];rfl));by_cases k2:(h.ks.length:Int)<=o.key;simp[X,k2,f3,oa,j0,x1,ya];exact c rfl (by simp[Z]) zS (z (by unfold opB;rw[jjz k2];rfl));have q:=jjy X k2;simp[X,k2,f3,oa,j0,x1,ya];refine jQ (ev130 o.v) (by simp[J9]) rfl (by simp[J9]) ?_;cases k3:jq6 o.v;simp;exact c rfl (by simp[Z]) zS (z (by unfold opB;rw[q,k3];rfl));have b7:0<=o.key:=zO;have b6:o.key<(h.ks.length:Int):=zO;have U:=jjd (l:=l) (u:=u) (n:=h.ks.length) (kk:=.i64) b7 b6;have T:=jgt (yN bs ((t.ops.take i).map (·.key))) o.key.toNat (by rw[Y7,Q];omega);have b0:(yN bs ((t.ops.take i).map (·.key))).length=h.ks.length:=by rw[Y7,Q]
 have p:yN bs ((t.ops.take (i+1)).map (·.key))=(yN bs ((t.ops.take i).map (·.key))).set o.key.toNat true:=by rw[aw g,bw,D];exact jhn _ _ _
 have F:o.key.toNat+1<=h.ks.length:=zO;have j:opB h o=true->(t.ops.take (i+1)).all (opB h)=true:=λhb=>by rw[aw g,eE,k,D];simp[hb]
 generalize yN bs ((t.ops.take i).map (·.key))=mk at *;cases k4:o.w;have M:opB h o=true:=by unfold opB;rw[q,k3,k4];rfl
 simp[j0,x1,x2,x3,N,U,ol,a0,b0,F,T,fr,h7,hw];refine⟨g,?_,?_,?_,?_,J,?_,?_⟩;rw[za x4,oa];rfl;rw[za x5,B];rfl;rw[<- fh,p,dI];intro a L x;rw[za L,za (x _ zO),za (x _ zO)];exact I a L x;omega;have:=j M;rw[ap]at this;exact this;cases k5:(o.v.kind==1);have H:(o.v.kind != 1)=true:=by simpa using k5
 simp[j0,H];exact c rfl (by simp[Z]) zS (z (by unfold opB;rw[q,k3,k4,k5];rfl));have H:(o.v.kind != 1)=false:=by simpa using k5
 have M:opB h o=true:=by unfold opB;rw[q,k3,k4,k5];rfl
 simp[j0,x1,x2,x3,N,U,ol,a0,b0,F,T,fr,h7,hw,H];refine⟨g,?_,?_,?_,?_,J,?_,?_⟩;rw[za x4,oa];rfl;rw[za x5,B];rfl;rw[<- fh,p,dI];intro a L x;rw[za L,za (x _ zO),za (x _ zO)];exact I a L x;omega;have:=j M;rw[ap]at this;exact this;have:i=t.ops.length:=zO;subst this;rw[bf]at k ol;have hg:Yq h t=true:=by unfold Yq;rw[b5,k];rfl
 simp[h7,f4,B,j0,jt];refine⟨(.bool true,s.ob,s.tk,s.nx+64+64+64+64+64+64),?_,?_⟩;simp[endS,jy,Z];rw[<- hP];exact⟨by rw[hg],λ_=>⟨ol,I,J,by show ub<=_;simp;omega⟩⟩
end Go.Pv.T
