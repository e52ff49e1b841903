/- Part. -/
import Derived.Test.YtmanndcfeicokaaGreatDoorPD
import Derived.Laws.Bits64
set_option maxRecDepth 100000
set_option maxHeartbeats 8000000
set_option linter.all false
namespace Go.Pv.T
open Go Go.Pv
def jfp {a b:Nat}(d:a<2^64) (c:b<2^64):YL .or (.int .u64 (a:Int)) (.int .u64 (b:Int))=some (.int .u64 ((a|||b:Nat):Int)):=by
 have h:a|||b<2^64:=dJ d c;simp only[YL,Xa,zd];have e:(BitVec.ofInt IntKind.u64.bits (a:Int)|||BitVec.ofInt IntKind.u64.bits (b:Int)).toNat=a|||b:=by rw[BitVec.toNat_or,dX,dX,fB,fB];rw[show IntKind.u64.bits=64 from rfl,dO d,dO c]
 rw[e,IntKind.wrap_u64];congr 2;omega
def jok {a b:Nat}{m:Int}(d:m=(b:Int)) (f:a<2^64) (c:b<2^64):YL .and (.int .u64 (a:Int)) (.int .u64 m)=some (.int .u64 ((a&&&b:Nat):Int)):=by
 subst d;have h:a&&&b<2^64:=Nat.and_lt_two_pow _ c;simp only[YL,Xa,zd];have e:(BitVec.ofInt IntKind.u64.bits (a:Int)&&&BitVec.ofInt IntKind.u64.bits (b:Int)).toNat=a&&&b:=by rw[BitVec.toNat_and,dX,dX,fB,fB];rw[show IntKind.u64.bits=64 from rfl,dO f,dO c]
 rw[e,IntKind.wrap_u64];congr 2;omega
def jwi {a k:Nat}{m:Int}(b:m=(k:Int)) (c:k<=64) (h:a*2^k<2^64):YL .shl (.int .u64 (a:Int)) (.int .u64 m)=some (.int .u64 ((a*2^k:Nat):Int)):=by subst b;simp only[YL,jag];rw[za zO];simp only[ba,show IntKind.u64.bits=64 from rfl,cE c];rw[IntKind.wrap_u64];congr 2;have:((a:Int)*2^k)=((a*2^k:Nat):Int):=zS;rw[this];omega
def Jq {l:List UInt8}{kk:IntKind}{k:Nat}{x:Int}(a:x=(k:Int)) (h:k<=l.length):Y2 (some (.int kk x)) none (.str l)=some (.str (l.drop k)):=by subst a;simp[Y2,Jz,h]
def wd (l:List UInt8):Nat:=Lib.leNat (l.take 8)
def or_add (a b k:Nat) (h:a<2^k):a|||b*2^k=a+b*2^k:=by have:=Nat.shiftLeft_add_eq_or_of_lt h b;rw[Nat.shiftLeft_eq]at this;rw[Nat.or_comm,<- this,fX]
def wd_8 (a b c d e f g h:UInt8) (t:List UInt8):wd (a::b::c::d::e::f::g::h::t) =
 a.toNat+b.toNat*2^8+c.toNat*2^16+d.toNat*2^24+e.toNat*2^32+f.toNat*2^40+g.toNat*2^48+h.toNat*2^56:=by
 simp only[wd,List.take,Lib.leNat];omega
def jfv (x:UInt8) (k:Nat) {m:Int}(a:m=(k:Int)) (d:k<=56):∃B:Nat,B=x.toNat*2^k/\YL .shl (.int .u64 (x.toNat:Int)) (.int .u64 m)=some (.int .u64 (B:Int)):=by
 have c:=x.toNat_lt;have b:x.toNat*2^k<2^64:=by
  calc x.toNat*2^k<2^8*2^k:=Nat.mul_lt_mul_of_pos_right c (ib k)
   _=2^(8+k):=(Nat.pow_add ..).symm
   _<=2^64:=cl zQ zO
 exact⟨_,rfl,jwi a zO b⟩
def jo5 {O B:Nat}(k c:Nat) (h:O<2^k) (b:B=c*2^k) (d:c<2^8) (e:k<=56):∃a:Nat,a=O+B/\a<2^(k+8)/\YL .or (.int .u64 (O:Int)) (.int .u64 (B:Int))=some (.int .u64 (a:Int)):=by
 have f:B+2^k<=2^(k+8):=by rw[b,Nat.pow_add,Nat.mul_comm (2^k),<- dh];exact bh _ d
 have g:2^(k+8)<=2^64:=cl zQ zO;refine⟨O+B,rfl,zO,?_⟩;rw[jfp zO zO,b,or_add _ _ _ h]
def jp5 (l:List UInt8) (hl:8<=l.length):Ev E 250 [.str l] (.int .u64 (wd l)):=by
 match l,hl with
 |a::b::c::d::e::f::g::h::t,_=>
  rw[wd_8];have l0:=a.toNat_lt;have l1:=b.toNat_lt;have l2:=c.toNat_lt;have Z:=d.toNat_lt;have l4:=e.toNat_lt;have l5:=f.toNat_lt;have l6:=g.toNat_lt;have l7:=h.toNat_lt;refine jS rfl ?_;have cv:∀x:UInt8,Xz .u64 (.int .u8 (x.toNat:Int))=some (.int .u64 (x.toNat:Int)):=λx=>by have:=x.toNat_lt;simp only[Xz,IntKind.wrap_u64];congr 2;omega
  have j:∀(s:List UInt8) (i:Nat) (x:UInt8) (y:Int),y=(i:Int)->s[i]? = some x->Qv (.str s) (.int .i64 y)=some (.int .u8 (x.toNat:Int)):=by intro s i x y hy hx;subst hy;simp[Qv,hx]
  have i0:=j (a::b::c::d::e::f::g::h::t) 0 a 0 rfl rfl;have i1:=j (a::b::c::d::e::f::g::h::t) 1 b 1 rfl rfl;have S:=j (a::b::c::d::e::f::g::h::t) 2 c 2 rfl rfl;have i3:=j (a::b::c::d::e::f::g::h::t) 3 d 3 rfl rfl;have i4:=j (a::b::c::d::e::f::g::h::t) 4 e 4 rfl rfl;have i5:=j (a::b::c::d::e::f::g::h::t) 5 f 5 rfl rfl;have i6:=j (a::b::c::d::e::f::g::h::t) 6 g 6 rfl rfl;have i7:=j (a::b::c::d::e::f::g::h::t) 7 h 7 rfl rfl;obtain⟨B1,k,s1⟩:=jfv b 8 (m:=8) rfl zQ;obtain⟨B2,u,s2⟩:=jfv c 16 (m:=16) rfl zQ;obtain⟨B3,p,s3⟩:=jfv d 24 (m:=24) rfl zQ;obtain⟨B4,q,P⟩:=jfv e 32 (m:=32) rfl zQ;obtain⟨B5,o,s5⟩:=jfv f 40 (m:=40) rfl zQ;obtain⟨B6,v,s6⟩:=jfv g 48 (m:=48) rfl zQ;obtain⟨B7,r,s7⟩:=jfv h 56 (m:=56) rfl zQ;obtain⟨O1,w,M,o1⟩:=jo5 (O:=a.toNat) 8 _ l0 k l1 zQ;obtain⟨O2,D,K,o2⟩:=jo5 (O:=O1) 16 _ M u l2 zQ;obtain⟨O3,B,I,o3⟩:=jo5 (O:=O2) 24 _ K p Z zQ;obtain⟨O4,H,N,o4⟩:=jo5 (O:=O3) 32 _ I q l4 zQ;obtain⟨O5,z,J,U⟩:=jo5 (O:=O4) 40 _ N o l5 zQ;obtain⟨T,G,L,Q⟩:=jo5 (O:=O5) 48 _ J v l6 zQ;obtain⟨O7,F,q7,X⟩:=jo5 (O:=T) 56 _ L r l7 zQ;have n:O7=a.toNat+b.toNat*2^8+c.toNat*2^16+d.toNat*2^24+e.toNat*2^32+f.toNat*2^40+g.toNat*2^48+h.toNat*2^56:=zO;rw[<- n];clear n k u p q o v r F q7 G L z J H N B I D K w M;simp[F250,cv,i0,i1,S,i3,i4,i5,i6,i7,s1,o1,s2,o2,s3,o3,P,o4,s5,U,s6,Q,s7,X];exact j3 rfl zS rfl
def eval_g1 (tm:Nat->V):ye E tm (.g 2)=.eptr utf8first 0:=rfl
def eval_g2 (tm:Nat->V):ye E tm (.g 3)=.eptr accR 0:=rfl
def j4t (b:Nat) (h:b<256):utf8first[b]? = some (.int .u8 (Lib.firstT b:Nat)):=by unfold utf8first;rw[aV,dy h];rfl
def acc_at (y:Nat) (h:y<16):(accR.drop (y*2)).take 2=[.int .u8 (Lib.accLo y:Nat),.int .u8 (Lib.accHi y:Nat)]:=by have:y=0\/y=1\/y=2\/y=3\/y=4\/y=5\/y=6\/y=7\/y=8\/y=9\/y=10\/y=11\/y=12\/y=13\/y=14\/y=15:=zO;rcases this with h|h|h|h|h|h|h|h|h|h|h|h|h|h|h|h<;>subst h<;>rfl
def and7:∀x:Fin 256,IntKind.u8.wrap ((BitVec.ofInt IntKind.u8.bits ((x.val:Nat):Int)&&&BitVec.ofInt IntKind.u8.bits 7).toNat:Int)=((x.val % 8:Nat):Int):=by decide +kernel
def j7b (x:Nat) (h:x<256):YL .and (.int .u8 (x:Int)) (.int .u8 7)=some (.int .u8 ((x % 8:Nat):Int)):=by simp only[YL,Xa,zd];have:=and7 ⟨x,h⟩;simp only at this;rw[this]
def j7a (x:Nat) (_:x<256):YL .shr (.int .u8 (x:Int)) (.int .u64 4)=some (.int .u8 ((x/16:Nat):Int)):=by
 simp only[YL,jag];rw[za zQ];have e:min (Int.toNat 4) IntKind.u8.bits=4:=by decide
 rw[e];congr 2;rw[ik _ zQ];omega
def j4r (b:Nat):Lib.firstT b<256:=by
 unfold Lib.firstT;repeat' split
 all_goals omega
abbrev M8:Nat:=9259542123273814144
def joi (l:List UInt8):wd l<2^64:=by
 have h:=Lib.leNat_lt (l.take 8);have a:(256:Nat)^(l.take 8).length<=256^8:=cl zQ (by rw[ai];omega);have b:(256:Nat)^8=2^64:=by decide
 unfold wd;omega
def QA {l:List UInt8}(a:8<=l.length) (h:wd l&&&M8=0):Lib.validD l=Lib.validD (l.drop 8):=by
 have e:(l.take 8).length=8:=by rw[ai];omega
 have:=(Lib.leNat_mask (l.take 8)).1 (by rw[e,Lib.maskN8];exact h);exact Lib.validD_ascii 8 l this
def j01 (w:Nat) (a:w<2^64):∃q:Nat,q=w&&&M8/\YL .and (.int .u64 (w:Int)) (.int .u64 9259542123273814144)=some (.int .u64 (q:Int)) :=
 ⟨_,rfl,jok (b:=M8) rfl a zQ⟩
def jrq {a b:Nat}(d:a<2^64) (c:b<2^64):∃q:Nat,q=a|||b/\q<2^64/\YL .or (.int .u64 (a:Int)) (.int .u64 (b:Int))=some (.int .u64 (q:Int)) :=
 ⟨_,rfl,dJ d c,jfp d c⟩
def beq0 (q:Nat):((q:Int)==0)=decide (q=0):=by rw[bA];simp
def ev198 (s:List UInt8) (_:s.length<=1000000):Ev E 198 [.str s] (.bool (Lib.validD s)):=by
 refine jS rfl ?_;conv in(occs:=*)F198=>all_goals cbv
 simp;refine YH (n:=s.length) [(0,200)] (λk st=>∃l,k=l.length/\st.tm 0=.str l/\Lib.validD s=Lib.validD l/\l.length<=s.length) rfl rfl ⟨s,zS⟩ ?_;rintro k st ⟨l,rfl,p,hv,hl⟩ f;have H:st.df=[]:=by rw[f.d];simp
 have fb:st.fb=0:=by rw[f.b];simp
 have fr:st.ro=0:=by rw[f.r];simp
 clear f;cases J:l with
 |nil=>subst J;simp[p];exact j3 (by simp[H]) (by simp[hv];rfl) rfl
 |cons b t=>
 rw[<- J];have h3:l.length=t.length+1:=by rw[J];rfl
 have g3:=b.toNat_lt;have M:l.getD 0 0=b:=by rw[J];rfl
 have i0:Qv (.str l) (.int .i64 0)=some (.int .u8 (b.toNat:Int)):=by have:=YX (s:=l) (i:=0) (x:=0) .i64 zO rfl;rw[M]at this;exact this
 have O:0<l.length:=zO;by_cases hb:(b.toNat:Int)<128;have c4:Lib.validD s=Lib.validD t:=by rw[hv,J,Lib.validD_cons b t zO]
 have d1:Y2 (some (.int .i64 1)) none (.str l)=some (.str t):=by rw[Jq (k:=1) (x:=1) rfl (by omega:1<=l.length),J];rfl
 by_cases h8:8<(t.length:Int);obtain⟨w,hw⟩:∃w,wd t=w:=⟨_,rfl⟩;have g8:w<2^64:=hw▸joi t;obtain⟨q,hq,aq⟩:=j01 w g8;simp[p,O,i0,hb,d1,h8];refine jH (jp5 t zO) zS rfl rfl ?_;rw[hw];by_cases c5:q=0;have T:Lib.validD s=Lib.validD (t.drop 8):=by rw[c4,QA zO (by rw[hw,<- hq,c5])]
 have d8:Y2 (some (.int .i64 8)) none (.str t)=some (.str (t.drop 8)):=Jq (k:=8) rfl zO;have g1:(t.drop 8).length=t.length-8:=bc;obtain⟨u,hu⟩:∃u,t.drop 8=u:=⟨_,rfl⟩;rw[hu]at T d8 g1;simp[aq,c5,d8];by_cases d0:16<(u.length:Int);have c6:Y2 (some (.int .i64 8)) none (.str u)=some (.str (u.drop 8)):=Jq (k:=8) rfl zO;have d6:Y2 (some (.int .i64 16)) none (.str u)=some (.str (u.drop 16)):=Jq (k:=16) rfl zO;have g4:(u.drop 8).length=u.length-8:=bc;obtain⟨w1,c3⟩:∃w,wd u=w:=⟨_,rfl⟩;obtain⟨w2,b9⟩:∃w,wd (u.drop 8)=w:=⟨_,rfl⟩;obtain⟨o,ho,g7,oo⟩:=jrq (c3▸joi u) (b9▸joi (u.drop 8));obtain⟨q2,h2,f7⟩:=j01 o g7;have e1:=jp5 u zO;have G:=jp5 (u.drop 8) zO;rw[c3]at e1;rw[b9]at G;obtain⟨u8,U⟩:∃x,u.drop 8=x:=⟨_,rfl⟩;rw[U]at c6 G g4;simp[d0];refine X4 e1 zS rfl rfl ?_;simp[c6];refine X4 G zS rfl rfl ?_;by_cases Q:q2=0;have f6:=(Lib.or_mask w1 w2 M8).1 (by rw[<- ho,<- h2,Q]);have b5:Lib.validD s=Lib.validD (u.drop 16):=by rw[T,QA zO (by rw[c3];exact f6.1),U,QA zO (by rw[<- U,b9];exact f6.2),<- U,dQ]
 have d4:(u.drop 16).length=u.length-16:=bc;obtain⟨v,g9⟩:∃x,u.drop 16=x:=⟨_,rfl⟩;rw[g9]at d6 b5 d4;simp[oo,f7,Q,d6];refine YH (n:=v.length) [(0,0),(42,64)] (λk st=>∃x,k=x.length/\st.tm 0=.str x/\Lib.validD s=Lib.validD x/\x.length<=v.length) rfl rfl ⟨v,by simp[b5]⟩ ?_;rintro k h5 ⟨x,rfl,g0,gv,gl⟩ _;by_cases c9:32<(x.length:Int);have f0:Y2 (some (.int .i64 8)) none (.str x)=some (.str (x.drop 8)):=Jq (k:=8) rfl zO;have b6:Y2 (some (.int .i64 16)) none (.str x)=some (.str (x.drop 16)):=Jq (k:=16) rfl zO;have b0:Y2 (some (.int .i64 24)) none (.str x)=some (.str (x.drop 24)):=Jq (k:=24) rfl zO;have b7:Y2 (some (.int .i64 32)) none (.str x)=some (.str (x.drop 32)):=Jq (k:=32) rfl zO;have e6:(x.drop 32).length=x.length-32:=bc;obtain⟨y0,X⟩:∃w,wd x=w:=⟨_,rfl⟩;obtain⟨y1,S⟩:∃w,wd (x.drop 8)=w:=⟨_,rfl⟩;obtain⟨y2,Z⟩:∃w,wd (x.drop 16)=w:=⟨_,rfl⟩;obtain⟨y3,a0⟩:∃w,wd (x.drop 24)=w:=⟨_,rfl⟩;obtain⟨p1,e5,d2,f9⟩:=jrq (X▸joi x) (S▸joi (x.drop 8));obtain⟨p2,d3,d5,c7⟩:=jrq (Z▸joi (x.drop 16)) (a0▸joi (x.drop 24));obtain⟨p3,c8,e0,f1⟩:=jrq d2 d5;obtain⟨q3,d9,f8⟩:=j01 p3 e0;have e1:=jp5 x zO;have G:=jp5 (x.drop 8) (by rw[bc];omega);have e3:=jp5 (x.drop 16) (by rw[bc];omega);have e4:=jp5 (x.drop 24) (by rw[bc];omega);rw[X]at e1;rw[S]at G;rw[Z]at e3;rw[a0]at e4;have b8:q3=0->Lib.validD s=Lib.validD (x.drop 32):=by
  intro hz;rw[d9,c8,Lib.or_mask,e5,d3,Lib.or_mask,Lib.or_mask]at hz;obtain⟨⟨z0,z1⟩,z2,z3⟩:=hz;rw[gv,QA zO (by rw[X];exact z0),QA (by rw[bc];omega) (by rw[S];exact z1),dQ,
   QA (by rw[bc];omega) (by rw[Z];exact z2),dQ,QA (by rw[bc];omega) (by rw[a0];exact z3),dQ]
 clear X S Z a0 e5 d3 c8 d9;obtain⟨x8,g5⟩:∃z,x.drop 8=z:=⟨_,rfl⟩;obtain⟨h6,d7⟩:∃z,x.drop 16=z:=⟨_,rfl⟩;obtain⟨h4,e9⟩:∃z,x.drop 24=z:=⟨_,rfl⟩;obtain⟨f5,e7⟩:∃z,x.drop 32=z:=⟨_,rfl⟩;rw[g5]at f0 G;rw[d7]at b6 e3;rw[e9]at b0 e4;rw[e7]at b7 e6 b8;simp[g0,c9];refine X4 e1 zS rfl rfl ?_;simp[f0,g0];refine X4 G zS rfl rfl ?_;simp[b6,f9,g0];refine X4 e3 zS rfl rfl ?_;simp[b0,g0];refine X4 e4 zS rfl rfl ?_;by_cases P:q3=0;simp[c7,f1,f8,P,b7,g0];exact⟨f5.length,zO,f5,rfl,rfl,b8 P,zO⟩;simp[c7,f1,f8,beq0,P,g0];exact⟨x.length,zO,x,rfl,rfl,gv,zO⟩;simp[g0,c9];exact⟨x.length,zO,x,rfl,rfl,gv,zO⟩;simp[oo,f7,beq0,Q];exact⟨u.length,zO,u,rfl,rfl,T,zO⟩;simp[d0];exact⟨u.length,zO,u,rfl,rfl,T,zO⟩;simp[aq,beq0,c5];exact⟨t.length,zO,t,rfl,rfl,c4,zO⟩;simp[p,O,i0,hb,d1,h8];exact⟨t.length,zO,t,rfl,rfl,c4,zO⟩;have a:=Lib.validD_lead l (by rw[J];simp) (by rw[M];omega);rw[M]at a;rw[<- hv]at a;obtain⟨x,hx⟩:∃x,Lib.firstT b.toNat=x:=⟨_,rfl⟩;have N:x<256:=hx▸j4r _;have e8:=j4t b.toNat b.toNat_lt;have g6:Wg 256 1 (.eptr utf8first 0) (.int .u8 (b.toNat:Int))=some (.eptr utf8first b.toNat):=by simp only[Wg];rw[zb zO];simp
 have a7:=j7b x N;have s4:=j7a x N;obtain⟨y,hy⟩:∃y,x/16=y:=⟨_,rfl⟩;obtain⟨j,g2⟩:∃y,x % 8=y:=⟨_,rfl⟩;have f4:y<16:=zO;have h1:Wg 16 2 (.eptr accR 0) (.int .u8 (y:Int))=some (.eptr accR (y*2)):=by simp only[Wg];rw[zb zO];simp
 have ld2:∀ob,W8 ob (some 2) (.eptr accR (y*2))=some (.agg [.int .u8 (Lib.accLo y:Nat),.int .u8 (Lib.accHi y:Nat)]):=λob=>by rw[jd2,Wr,acc_at y f4,zb (by show y*2+2<=32;omega)]
 have cv:Xz .i64 (.int .u8 (j:Int))=some (.int .i64 (j:Int)):=by simp only[Xz];rw[jg zO zO]
 rw[hx]at a e8;rw[g2]at a7 a;rw[hy]at s4 a;have B:1<l.length->_:=λh=>YX (s:=l) (i:=1) (x:=1) .i64 h rfl;have L:2<l.length->_:=λh=>YX (s:=l) (i:=2) (x:=2) .i64 h rfl;have i3:3<l.length->_:=λh=>YX (s:=l) (i:=3) (x:=3) .i64 h rfl;generalize (l.getD 1 0).toNat=b1 at *;generalize (l.getD 2 0).toNat=b2 at *;generalize (l.getD 3 0).toNat=b3 at *;generalize Lib.accLo y=lo at *;generalize Lib.accHi y=m at *;simp[p,O,i0,hb,eval_g1,g6,e8,a7,cv,s4,eval_g2,h1,ld2,ya,fb,fr,j2];by_cases F:j=2;by_cases D:(l.length:Int)<2;have c:Lib.checkN l.length b1 b2 b3 j lo m=none:=by unfold Lib.checkN;simp[F];omega
 rw[c]at a;simp[F,p,D];exact j3 (by simp[H]) (by simp[a]) rfl;have B:=B zO;by_cases I:(b1:Int)<lo;have c:Lib.checkN l.length b1 b2 b3 j lo m=none:=by unfold Lib.checkN;simp[F];omega
 rw[c]at a;simp[F,p,ya,D,B,I];exact j3 (by simp[H]) (by simp[a]) rfl;by_cases K:(m:Int)<b1;have c:Lib.checkN l.length b1 b2 b3 j lo m=none:=by unfold Lib.checkN;simp[F];omega
 rw[c]at a;simp[F,p,ya,D,B,I,K];exact j3 (by simp[H]) (by simp[a]) rfl;have c:Lib.checkN l.length b1 b2 b3 j lo m=some 2:=by unfold Lib.checkN;simp[F];omega
 rw[c]at a;have dd:Y2 (some (.int .i64 2)) none (.str l)=some (.str (l.drop 2)):=Jq (k:=2) rfl zO;simp[F,p,ya,D,B,I,K,dd];exact⟨(l.drop 2).length,by rw[bc];omega,l.drop 2,zS,rfl,a,by rw[bc];omega⟩;by_cases g:j=3;by_cases D:(l.length:Int)<3;have c:Lib.checkN l.length b1 b2 b3 j lo m=none:=by unfold Lib.checkN;simp[g];omega
 rw[c]at a;simp[g,p,D];exact j3 (by simp[H]) (by simp[a]) rfl;have B:=B zO;have L:=L zO;by_cases I:(b1:Int)<lo;have c:Lib.checkN l.length b1 b2 b3 j lo m=none:=by unfold Lib.checkN;simp[g];omega
 rw[c]at a;simp[g,p,ya,D,B,I];exact j3 (by simp[H]) (by simp[a]) rfl;by_cases K:(m:Int)<b1;have c:Lib.checkN l.length b1 b2 b3 j lo m=none:=by unfold Lib.checkN;simp[g];omega
 rw[c]at a;simp[g,p,ya,D,B,I,K];exact j3 (by simp[H]) (by simp[a]) rfl;by_cases G:(b2:Int)<128;have c:Lib.checkN l.length b1 b2 b3 j lo m=none:=by unfold Lib.checkN;simp[g];omega
 rw[c]at a;simp[g,p,ya,D,B,L,I,K,G];exact j3 (by simp[H]) (by simp[a]) rfl;by_cases f2:191<(b2:Int);have c:Lib.checkN l.length b1 b2 b3 j lo m=none:=by unfold Lib.checkN;simp[g];omega
 rw[c]at a;simp[g,p,ya,D,B,L,I,K,G,f2];exact j3 (by simp[H]) (by simp[a]) rfl;have c:Lib.checkN l.length b1 b2 b3 j lo m=some 3:=by unfold Lib.checkN;simp[g];omega
 rw[c]at a;have dd:Y2 (some (.int .i64 3)) none (.str l)=some (.str (l.drop 3)):=Jq (k:=3) rfl zO;simp[g,p,ya,D,B,L,I,K,G,f2,dd];exact⟨(l.drop 3).length,by rw[bc];omega,l.drop 3,zS,rfl,a,by rw[bc];omega⟩;by_cases e:j=4;by_cases D:(l.length:Int)<4;have c:Lib.checkN l.length b1 b2 b3 j lo m=none:=by unfold Lib.checkN;simp[e];omega
 rw[c]at a;simp[e,p,D];exact j3 (by simp[H]) (by simp[a]) rfl;have B:=B zO;have L:=L zO;have i3:=i3 zO;by_cases I:(b1:Int)<lo;have c:Lib.checkN l.length b1 b2 b3 j lo m=none:=by unfold Lib.checkN;simp[e];omega
 rw[c]at a;simp[e,p,ya,D,B,I];exact j3 (by simp[H]) (by simp[a]) rfl;by_cases K:(m:Int)<b1;have c:Lib.checkN l.length b1 b2 b3 j lo m=none:=by unfold Lib.checkN;simp[e];omega
 rw[c]at a;simp[e,p,ya,D,B,I,K];exact j3 (by simp[H]) (by simp[a]) rfl;by_cases G:(b2:Int)<128;have c:Lib.checkN l.length b1 b2 b3 j lo m=none:=by unfold Lib.checkN;simp[e];omega
 rw[c]at a;simp[e,p,ya,D,B,L,I,K,G];exact j3 (by simp[H]) (by simp[a]) rfl;by_cases f2:191<(b2:Int);have c:Lib.checkN l.length b1 b2 b3 j lo m=none:=by unfold Lib.checkN;simp[e];omega
 rw[c]at a;simp[e,p,ya,D,B,L,I,K,G,f2];exact j3 (by simp[H]) (by simp[a]) rfl;by_cases e3:(b3:Int)<128;have c:Lib.checkN l.length b1 b2 b3 j lo m=none:=by unfold Lib.checkN;simp[e];omega
 rw[c]at a;simp[e,p,ya,D,B,L,i3,I,K,G,f2,e3];exact j3 (by simp[H]) (by simp[a]) rfl;by_cases f3:191<(b3:Int);have c:Lib.checkN l.length b1 b2 b3 j lo m=none:=by unfold Lib.checkN;simp[e];omega
 rw[c]at a;simp[e,p,ya,D,B,L,i3,I,K,G,f2,e3,f3];exact j3 (by simp[H]) (by simp[a]) rfl;have c:Lib.checkN l.length b1 b2 b3 j lo m=some 4:=by unfold Lib.checkN;simp[e];omega
 rw[c]at a;have dd:Y2 (some (.int .i64 4)) none (.str l)=some (.str (l.drop 4)):=Jq (k:=4) rfl zO;simp[e,p,ya,D,B,L,i3,I,K,G,f2,e3,f3,dd];exact⟨(l.drop 4).length,by rw[bc];omega,l.drop 4,zS,rfl,a,by rw[bc];omega⟩;have c:Lib.checkN l.length b1 b2 b3 j lo m=none:=by unfold Lib.checkN;simp[F,g,e]
 rw[c]at a;have z2:((j:Int)==2)=false:=by simp;omega
 have z3:((j:Int)==3)=false:=by simp;omega
 have z4:((j:Int)==4)=false:=by simp;omega
 simp[z2,z3,z4];exact j3 (by simp[H]) (by simp[a]) rfl
def jba:Nat->List Int->Bool
 |n,[]=>decide (0<n)&&decide (n<=20)
 |n,c::l=>if !jdu c||(decide (n=0)&&Q4 c) then false else jba (n+1) l
def jir:∀(l:List Int) (n:Nat),0<n->jba n l=(l.all jdu&&decide (n+l.length<=20))
 |[],n,h=>by simp[jba,h]
 |c::l,n,h=>by have b:¬n=0:=zO;rw[jba,jir l (n+1) zO];cases a:jdu c;simp[a];simp only[a,b,decide_false,bH,bm,bV,ag,zc,bU,bM,bj];congr 2;exact zj ⟨λh=>by omega,λh=>by omega⟩
def j29 (l:List Int):jba 0 l=nmOk l:=by
 cases l with
 |nil=>rfl
 |cons c l=>
  rw[jba,jir l 1 zO];unfold nmOk jgz;have e:decide (1+l.length<=20)=decide (l.length+1<=20):=by rw[fX]
  cases b:jdu c<;>cases a:Q4 c<;>simp[b,a,e];rw[gx]
def j89 {E:Env}{Yf:YF}{st:St}{ub:Nat}{K:St->Nat->Prop}{d:Option Nat}{nm:Bool}{x:A}{l u pos:Nat}{s:List UInt8}(e:ye E st.tm x=.iter l u) (b:st.ob l=some ⟨u,.siter s pos⟩) (a:st.ro<=u)
 (f:pos<s.length->QN K st d ub { v:=.tup [.bool true,.int .i64 pos,.int .i32 (rU s pos:Nat)],obs:=[(l,⟨u,.siter s (pos+rW s pos)⟩)] })
 (c:¬pos<s.length->jao K st d ub (.tup [.bool false])):j8 E Yf ⟨d,.nextStr x,none,nm⟩ st ub K:=juy e b a f c
def ev137 (s:List UInt8) (w:s.length<=1000000):Ev E 137 [.str s] (.bool (jkh s)):=by
 refine jS rfl ?_;conv in(occs:=*)F137=>all_goals cbv
 simp;refine jH (ev197 s) zS rfl rfl ?_;unfold jkh;cases b1:j75 s;case true=>simp;exact j3 rfl zS rfl
 simp;refine jH (ev198 s w) zS rfl rfl ?_;cases b2:Lib.validD s;case false=>simp;exact j3 rfl zS rfl
 simp;rw[<- j29];refine YH (n:=s.length) [(2,3),(5,5),(15,30)] (λk i=>∃p n u,k=s.length-p/\p<=s.length/\n<=p/\i.tm 3=.int .i64 (n:Nat)/\i.tm 14=.iter 28 u/\i.ob 28=some ⟨u,.siter s p⟩/\jba 0 (Ja s)=jba n (RN s p)) rfl rfl
  ⟨0,0,640,by simp[jf0]⟩ ?_
 rintro k i ⟨p,n,u,rfl,B,y,m,h,v,a⟩ f;have q:i.df=[]:=by rw[f.d];simp
 have D:i.fb=0:=by rw[f.b];simp
 have fr:i.ro=0:=by rw[f.r];simp
 clear f;simp;refine j89 (l:=28) (u:=u) (pos:=p) (s:=s) (by simp[h]) (by simp[v]) (by simp[fr]) (λj=>?_) (λt=>?_);have z:=jl9 j;rw[j04 j,jba]at a;obtain⟨c,x⟩:∃c:Int,(rU s p:Int)=c:=⟨_,rfl⟩;rw[x]at a ⊢;simp;refine jH (ev199 c) zS rfl rfl ?_;cases g:jdu c;rw[g]at a;simp;exact j3 (by simp[q]) (by simp[a]) rfl;by_cases e:n=0;subst e;simp[m];refine jH (ev200 c) zS rfl rfl ?_;cases o:Q4 c;simp[m,h,o,g]at a ⊢;exact⟨s.length-(p+rW s p),zO,p+rW s p,rfl,zO,1,zO,zQ,rfl,a⟩;simp[o,g]at a ⊢;exact j3 (by simp[q]) (by simp[a]) rfl;simp[m,h,g,beq0,e]at a ⊢;exact⟨s.length-(p+rW s p),zO,p+rW s p,rfl,zO,n+1,zO,by rw[jg zO zO];simp,rfl,a⟩;have:p=s.length:=zO;subst this;rw[j6v zK,jba]at a;by_cases e:0<n;simp[m,e]at a ⊢;exact j3 (by simp[q]) (by simp[a];omega) rfl;simp[m,e]at a ⊢;exact j3 (by simp[q]) (by simp[a]) rfl
def ev141 (nl:Bool) (t:List (List UInt8)) (O:t.length<=1000000) (D:∀s∈t,s.length<=1000000):Ev E 141 [yl nl X1 t] (.bool (j07 t)):=by
 refine jS rfl ?_;conv in(occs:=*)F141=>all_goals cbv
 simp;refine j5 [(2,4),(7,29)] t.length (λi s=>s.tm 7=.int .i64 i/\∀j,j<t.length->j<i->jum t j=true) rfl rfl ⟨zS,λj _ h=>by omega⟩ ?_;rintro i s N ⟨u,B⟩ f;have G:s.tm 0=yl nl X1 t:=by rw[f.t 0 zS];simp
 have I:s.tm 5=yl nl X1 t:=by rw[f.t 5 zS];simp
 have F:s.tm 6=.int .i64 t.length:=by rw[f.t 6 zS];simp
 have v:s.df=[]:=by rw[f.d];simp
 clear f;by_cases a:i<t.length;have H:=jP a zO;have b:jum t i=(jkh t[i]&&(i==0||jkm (t.getD (i-1) []) t[i])):=by unfold jum;rw[XB a]
 have o:=D _ (au a);obtain⟨c,M⟩:∃c,t[i]=c:=⟨_,rfl⟩;have p:=jh1 t a;rw[M]at b p o;have jeg:jum t i=true->∀j,j<t.length->j<i+1->jum t j=true:=λh j m w=>by rcases bi.1 w with h'|rfl;exact B j m h';exact h
 simp[u,I,F,a,j4 Yp,p];refine jH (ev137 c o) zS rfl rfl ?_;cases q:jkh c;rw[q]at b;simp;exact j3 (by simp[v]) (by simp[jq0 a b]) rfl;rw[q]at b;by_cases z:i=0;subst z;simp[u];exact⟨a,zQ,λj m h=>by subst h;exact jeg (by simp[b]) 0 m zO⟩;have r:0<i:=zO;have y:=wrapP r zO;have k:i-1<t.length:=zO;have x:=D _ (au k);have n:=jh1 t k;rw[XB k]at b;obtain⟨e,K⟩:∃e,t[i-1]=e:=⟨_,rfl⟩;rw[K]at b n x;have L:=Yu e;have J:=Yu c;simp[G,r,y,k,j4 Yp,n];refine jH (ev206 e c zO zO) zS rfl rfl ?_;cases l:jkm e c;have g:=l;unfold jkm at g;rw[g];simp;exact j3 (by simp[v]) (by simp[jq0 a (by simp[b,l,z])]) rfl;have g:=l;unfold jkm at g;rw[g];simp[u,H];exact⟨a,jeg (by simp[b,l])⟩;have:i=t.length:=zO;subst this;simp[u,F];exact j3 (by simp[v]) (by simp[j5t (λj m=>B j m m)]) rfl
def Fr1 (n:Nat) (ob ob':ZO):Prop:=∀key,(∀m,n<=m->key≠2*m+1)->ob' key=ob key
def jih (h:Hist') (hn:h.ts.length<=1000) (D:∀t∈h.ts,t.ops.length<=1000000) {asg bd:C}{ps:List Nat}(O:ps.length=2) (S:asg.one=true) (H:bd.one=true) {st:St}{f:A}{lh uh:Nat}
 (hf:ye E st.tm f=.fn (.func 145) [] [.ptr lh uh 0]) (oh:st.ob lh=some ⟨uh,.cells (yb h)⟩) (G:lh≠2*st.nx+1) (N:lh≠2*st.nx+3) (K:st.ro=0)
 (J:Nat->Nat->(ZO)->(Nat->Bool)->Nat->Prop) {Q:Ex->St->Prop}
 (c:∀i k ob d tk ub q,J i k ob tk ub->ub<=q->Fr1 st.nx ob d->J i k d tk q)
 (w:∀i (hi:i<h.ts.length) ob tk ub,J i (h.ts[i]).ops.length ob tk ub->J (i+1) 0 ob tk ub)
 (o:∀i (hi:i<h.ts.length) k (b:k<(h.ts[i]).ops.length) ob tk ub,J i k ob tk ub->ob (2*st.nx+1)=some ⟨st.nx,.loop .ready none⟩->ob (2*st.nx+3)=some ⟨st.nx+1,.dfr⟩->st.nx+64<=ub ->
  wpC E YS asg { tm:=jfw st.tm ps [.agg [.int .i64 i,.int .i64 k],.agg (yS (h.ts[i]).ops[k])],ob:=ob,tk:=tk,ro:=0,nx:=ub,fb:=st.fb,df:=[] } λe B=>e=.nrm/\B.ob (2*st.nx+1)=some ⟨st.nx,.loop .ready none⟩ /\
   wpC E YS bd { B with ob:=upd B.ob (2*st.nx+1) (some ⟨st.nx,.loop .busy none⟩) } λe n=>n.ob (2*st.nx+1)=some ⟨st.nx,.loop .busy none⟩/\n.ob (2*st.nx+3)=some ⟨st.nx+1,.dfr⟩/\st.nx+64<=n.nx/\e=.nrm/\J i (k+1) n.ob n.tk n.nx)
 (h0:J 0 0 st.ob st.tk (st.nx+64))
 (hQ:∀ob tk ub,J h.ts.length 0 ob tk ub->ob (2*st.nx+3)=some ⟨st.nx+1,.dfr⟩->st.nx+64<=ub->Q .nrm { st with ob:=ob,tk:=tk,nx:=ub,df:=(2*st.nx+3,st.nx+1)::st.df }) :
 wpC E YS (.rangeFunc f ps asg bd) st Q:=by
 refine Q9 (g:=145) (first:=[]) (captured:=[.ptr lh uh 0]) hf ?_;have v:¬2*st.nx+3=2*st.nx+1:=zO;have X:¬2*st.nx+1=2*st.nx+3:=zO;have:=j5z (Yf:=jia E YS asg bd st ps (2*st.nx+1) st.nx) h hn D (l:=2*st.nx+1) (u:=st.nx) (lh:=lh) (uh:=uh)
  (ob0:=upd (upd st.ob (2*st.nx+3) (some ⟨st.nx+1,.dfr⟩)) (2*st.nx+1) (some ⟨st.nx,.loop .ready none⟩)) (tk0:=st.tk) (ro:=st.ro) (base:=(st.fb+1023)*1024) (ub0:=st.nx+64)
  (by simp only[yg,G,N,zc,oh]) zO
  (λi k ob tk ub=>J i k ob tk ub/\ob (2*st.nx+1)=some ⟨st.nx,.loop .ready none⟩/\ob (2*st.nx+3)=some ⟨st.nx+1,.dfr⟩/\st.nx+64<=ub)
  (λr=>∃s j,r.2.1 (2*st.nx+1)=some ⟨st.nx,.loop s j⟩/\s≠.busy/\st.ro<=st.nx/\Q (j.getD .nrm) { st with ob:=λk=>if Nat.beq (2*st.nx+1) k then none else r.2.1 k,tk:=r.2.2.1,nx:=r.2.2.2,df:=(2*st.nx+3,st.nx+1)::st.df })
  ?_ ?_ ?_ ?_ ?_
 obtain⟨r,M,hP⟩:=this;exact⟨r,M,hP⟩;rintro i k ob d tk ub q ⟨p,x,y,z⟩ F I;have f:∀a,(∀m,ub<=m->a≠2*m+1)->d a=ob a:=I;exact⟨c _ _ _ _ _ _ _ p F (λa b=>f a (λm D=>b m zO)),by rw[f _ (λm D=>by omega)];exact x,by rw[f _ (λm D=>by omega)];exact y,zO⟩;rintro i hi ob tk ub ⟨p,g⟩;exact⟨w i hi ob tk ub p,g⟩;rintro i hi k b ob tk ub ⟨p,x,y,z⟩ a0;have hb:=o i hi k b ob tk ub p x y z;have:=jhn (E:=E) (Yf:=YS) (asg:=asg) (bd:=bd) (st:=st) (ps:=ps) (l:=2*st.nx+1) (u:=st.nx) (xs:=[.agg [.int .i64 i,.int .i64 k],.agg (yS (h.ts[i]).ops[k])]) (ob:=ob) (tk:=tk) (ro:=st.ro) (ub:=ub)
  (P:=λr=>st.ro<=r.2.2.2/\r.1=.bool true/\J i (k+1) r.2.1 r.2.2.1 r.2.2.2/\r.2.1 (2*st.nx+1)=some ⟨st.nx,.loop .ready none⟩/\r.2.1 (2*st.nx+3)=some ⟨st.nx+1,.dfr⟩/\st.nx+64<=r.2.2.2)
  (by simp[O]) zO x S H (by
   rw[K];refine XN (λe B h1=>?_) hb;obtain⟨e1,e2,e3⟩:=h1;refine⟨e1,e2,XN (λe n U=>?_) e3⟩;obtain⟨k1,k2,k3,k4,k5⟩:=U;subst k4;refine⟨k1,zO,rfl,?_,?_,?_,k3⟩;exact c _ _ _ _ _ _ _ k5 zK (λa b=>JU _ _ (b st.nx zK));exact WQ _ _ _;show upd n.ob _ _ _=_;rw[JU _ _ v];exact k2)
 obtain⟨r,M,p1,Z,T,p4,p5,p6⟩:=this;exact⟨r,M,p1,.inl ⟨Z,T,p4,p5,p6⟩⟩;rintro ob tk ub ⟨p,x,y,z⟩;refine⟨.ready,none,x,zS,zO,?_⟩;have L:Fr1 st.nx ob (λk=>if Nat.beq (2*st.nx+1) k then none else ob k):=λa b=>j6t ob (b st.nx zK);exact hQ _ _ _ (c _ _ _ _ _ _ _ p zK L) ((j6t ob v).trans y) z;refine⟨c _ _ _ _ _ _ _ h0 zK (λa b=>?_),WQ _ _ _,?_,zO⟩;have h3:=b (st.nx+1) zO;rw[JU _ _ (b st.nx zK),JU _ _ zO];rw[JU _ _ v,WQ]
@[simp] theorem cells_map (l u:Nat):(V.map l u).cells=[.map l u]:=rfl
@[simp] theorem leaf_map (l u:Nat):(V.map l u).leaf=true:=rfl
@[simp] theorem j6r:V.nilmap.cells=[.nilmap]:=rfl
@[simp] theorem j81:V.nilmap.leaf=true:=rfl
def Xy (h:Hist'):Bool:=j07 h.ss&&(j07 h.ks&&(decide (h.ss.length<=20)&&(decide (h.ks.length<=40)&&decide (h.ts.length<=40))))
structure Small (h:Hist'):Prop where
 ss:h.ss.length<=1000
 sl:∀s∈h.ss,s.length<=1000
 ks:h.ks.length<=1000
 kl:∀s∈h.ks,s.length<=1000
 ts:h.ts.length<=1000
 os:∀t∈h.ts,t.ops.length<=1000
def ev87 {h:Hist'}(a:Small h):Ev E 87 [.agg (yb h)] (.bool (Xy h)):=by
 refine jS rfl ?_;have b:=ev141 h.sn h.ss (by have:=a.ss;omega) (λs h=>by have:=a.sl s h;omega);have c:=ev141 h.kn h.ks (by have:=a.ks;omega) (λs h=>by have:=a.kl s h;omega);conv in(occs:=*)F87=>all_goals cbv
 simp[yb,ya];refine jH b zS rfl rfl ?_;unfold Xy;cases b1:j07 h.ss;simp;exact j3 rfl zS rfl;simp[ya];refine jH c zS rfl rfl ?_;cases b2:j07 h.ks;simp;exact j3 rfl zS rfl;by_cases b3:(h.ss.length:Int)<=20;by_cases b4:(h.ks.length:Int)<=40;simp[ya,b3,b4];exact j3 rfl (by simp[show h.ss.length<=20 by omega,show h.ks.length<=40 by omega];omega) rfl;simp[ya,b3,b4];exact j3 rfl zP rfl;simp[ya,b3];exact j3 rfl zP rfl
def usesS (h:Hist'):List Int:=h.ts.map (·.s)
def usesK (h:Hist'):List Int:=(jdv h).map (·.key)
def jtp (h:Hist'):Bool:=decide ((dd (usesS h)).length=h.ss.length)&&decide ((dd (usesK h)).length=h.ks.length)
def jgg (h:Hist') (i k:Nat):List Op':=(h.ts.take i).flatMap (·.ops)++(h.ts.getD i ⟨0,0,true,[]⟩).ops.take k
def jug {h:Hist'}{i k:Nat}(hi:i<h.ts.length) (a:k<(h.ts[i]).ops.length):jgg h i (k+1)=jgg h i k++[(h.ts[i]).ops[k]]:=by unfold jgg;rw[XB hi,av a,aY]
def juh {h:Hist'}{i:Nat}(hi:i<h.ts.length):jgg h i (h.ts[i]).ops.length=jgg h (i+1) 0:=by unfold jgg;rw[XB hi,bg,dP,aL,av hi,bK];simp
def jxx (h:Hist'):jgg h h.ts.length 0=jdv h:=by simp[jgg,jdv]
def juf (h:Hist'):jgg h 0 0=[]:=by simp[jgg]
def jaa {res:List ARes}{st:St}{l u:Nat}{v:V}(a:st.df=[(l,u)]) (b:st.ob l=some ⟨u,.dfr⟩) (d:st.ro<=u)
 (h:jb4 res (.ret,{ st with ob:=λk=>if Nat.beq l k then none else st.ob k,df:=[] })=some v):jb4 res (.ret,st)=some v:=by
 have e:j6p st=true:=by unfold j6p;rw[a];simp only[bU,List.all_nil,b,ep,aZ,cn,yJ,bD,cp,aj,cP,true_and];exact bS▸d
 have c:st.noDf={ st with ob:=λk=>if Nat.beq l k then none else st.ob k,df:=[] }:=by unfold St.noDf;rw[a];simp
 simp only[jb4,e,c,zd];simp only[jb4]at h;rw[Yj rfl,Ye rfl]at h;exact h
def ev93 {h:Hist'}(hs:Small h):Ev E 93 [.agg (yb h)] (.bool (jtp h)):=by
 refine jS rfl ?_;have b0:=hs.ts;conv in(occs:=*)F93=>all_goals cbv
 simp[yb,ya,j2];refine j5 [(6,6),(15,23),(14,14)] h.ts.length (λi s=>s.tm 14=.int .i64 i/\s.ob 2=some ⟨0,.cells (yb h)⟩/\s.ob 8=some ⟨256,.cells [.map 20 192]⟩/\s.ob 20=some ⟨192,.mp 0 []⟩ /\
  ∃ver m,s.ob 18=some ⟨128,.mp ver (MP jhs m)⟩/\m.map (·.1)=dd ((h.ts.take i).map (·.s))) rfl rfl ⟨zS,zI,zS,zS,0,[],by simp[MP],by simp[dd]⟩ ?_
 rintro i s O ⟨y,o2,o8,I,ver,m,z,hm⟩ f;have Z:s.tm 12=yl h.tn jf h.ts:=by rw[f.t 12 zS];simp
 have M:s.tm 13=.int .i64 h.ts.length:=by rw[f.t 13 zS];simp
 have f1:s.tm 1=.ptr 2 0 0:=by rw[f.t 1 zS];simp
 have f3:s.tm 3=.map 18 128:=by rw[f.t 3 zS];simp
 have f4:s.tm 4=.ptr 8 256 0:=by rw[f.t 4 zS];simp
 have fd:s.df=[]:=by rw[f.d];simp
 have fb:s.fb=0:=by rw[f.b];simp
 have fr:s.ro=0:=by rw[f.r];simp
 clear f;by_cases q:i<h.ts.length;have hw:=jP q zO;simp[y,Z,M,q,j4 j7,jd j7,jf,ya,fb,fr,j2,f3,ji2 m,jY,z];refine jcy (f:=jhs) (a:=IntKind.i64.wrap (mcnt m h.ts[i].s+1)) (ver:=ver) (l:=18) (u:=128) (k:=h.ts[i].s) m zS zS (by simp[jhs]) (by simp[z]) (by simp[fr]) ?_;simp[y,hw,o2,o8,I,yb];refine⟨q,ver+1,Wj m h.ts[i].s (IntKind.i64.wrap (mcnt m h.ts[i].s+1)),zS,?_⟩;rw[jmv,hm,<- List.map_take,av q,bE];exact(j0n _ _).symm;have:i=h.ts.length:=zO;subst this;rw[bg]at hm;simp[y,M];simp[f1,o2,ya,yb];refine jcz (vs:=[.agg (yb h)]) zI rfl ?_;obtain⟨r,hr,e1,D,e3,e4⟩:=ev91 (Yf:=YS) h s.ob s.tk 0 (26*1024) (s.nx+64+64);refine⟨r,by simpa[fr,fb] using hr,?_⟩;simp;refine jQ λe c=>?_;have n2:¬(2:Nat)=2*(s.nx+64+64)+1:=zO;have n8:¬(8:Nat)=2*(s.nx+64+64)+1:=zO;have X:¬(18:Nat)=2*(s.nx+64+64)+1:=zO;have b6:¬(20:Nat)=2*(s.nx+64+64)+1:=zO;have a0:e.tm 25=.fn (.func 145) [] [.ptr (2*(s.nx+64+64)+1) (s.nx+64+64) 0]:=by rw[c];simp[put,e1]
 have g1:e.tm 1=.ptr 2 0 0:=by rw[c];simp[put,yg,f1]
 have g3:e.tm 3=.map 18 128:=by rw[c];simp[put,yg,f3]
 have g4:e.tm 4=.ptr 8 256 0:=by rw[c];simp[put,yg,f4]
 have gd:e.df=[]:=by rw[c];simp[fd]
 have gb:e.fb=0:=by rw[c];simp[fb]
 have gr:e.ro=0:=by rw[c];simp[fr]
 have gn:e.nx=s.nx+64+64+256:=by rw[c];simp[e4]
 have p2:e.ob 2=some ⟨0,.cells (yb h)⟩:=by rw[c];simp only[JZ];rw[D,za n2];exact o2
 have p8:e.ob 8=some ⟨256,.cells [.map 20 192]⟩:=by rw[c];simp only[JZ];rw[D,za n8];exact o8
 have b7:e.ob 18=some ⟨128,.mp ver (MP jhs m)⟩:=by rw[c];simp only[JZ];rw[D,za X];exact z
 have T:e.ob 20=some ⟨192,.mp 0 []⟩:=by rw[c];simp only[JZ];rw[D,za b6];exact I
 have pl:e.ob (2*(s.nx+64+64)+1)=some ⟨s.nx+64+64,.cells (yb h)⟩:=by rw[c];simp only[JZ];rw[D,zb rfl]
 clear c e1 D e3 e4 hr;refine jih h b0 (λt ht=>by have:=hs.os t ht;omega) rfl rfl rfl (zU a0) pl zO zO gr
  (λi k ob N P=>ob 2=some ⟨0,.cells (yb h)⟩/\ob 8=some ⟨256,.cells [.map 20 192]⟩/\ob 18=some ⟨128,.mp ver (MP jhs m)⟩/\∃F p,ob 20=some ⟨192,.mp F (MP jhs p)⟩/\p.map (·.1)=dd ((jgg h i k).map (·.key)))
  ?_ ?_ ?_ ?_ ?_
 rintro i k ob b9 N P c2 ⟨x,w,n,B,p,j,K⟩ G v;exact⟨(v 2 (λm _=>by omega)).trans x,(v 8 (λm _=>by omega)).trans w,(v 18 (λm _=>by omega)).trans n,B,p,(v 20 (λm _=>by omega)).trans j,K⟩;rintro i O ob N P ⟨x,w,n,B,p,j,K⟩;exact⟨x,w,n,B,p,j,by rw[K,juh O]⟩;rintro i O k K ob N P ⟨x,w,n,B,p,j,g⟩ w1 Q G;have r1:¬2*e.nx+1=16:=zO;have r3:¬2*e.nx+3=16:=zO;have c0:¬2*e.nx+3=2*e.nx+1:=zO;have L:¬2*e.nx+1=20:=zO;have J:¬2*e.nx+3=20:=zO;have S:¬16=2*e.nx+1:=zO;have b8:¬8=2*e.nx+1:=zO;have H:¬20=2*e.nx+1:=zO;have b2:¬2=2*e.nx+1:=zO;have U:¬18=2*e.nx+1:=zO;simp[jfw,yg,yS,ya,gb,j2,g4,r1,w1,S,b8,w,ji2 p,jY,H,j];obtain⟨o,ho⟩:∃o,(h.ts[i]).ops[k]=o:=⟨_,rfl⟩;rw[ho];refine jcy (f:=jhs) (a:=IntKind.i64.wrap (mcnt p o.key+1)) (ver:=B) (l:=20) (u:=192) (k:=o.key) p zS zS (by simp[jhs]) (by simp[yg,H,j]) zS ?_;simp[yg,L,J,r3,b2,b8,U,x,w,n,Q];refine⟨zO,B+1,Wj p o.key (IntKind.i64.wrap (mcnt p o.key+1)),zS,?_⟩;rw[jmv,g,jug O K,bE,ho];exact(j0n _ _).symm;exact⟨p2,p8,b7,0,[],T,by rw[juf];rfl⟩;rintro ob N P ⟨x,w,n,B,p,j,g⟩ Q G;rw[jxx]at g;have l1:m.length=(dd (usesS h)).length:=by rw[<- bu (f:=(·.1)),hm];rfl
 have l2:p.length=(dd (usesK h)).length:=by rw[<- bu (f:=(·.1)),g];rfl
 simp[g3,g1,jY,n,x,ya,yb,l1];unfold jtp;by_cases c1:(dd (usesS h)).length=h.ss.length;simp[c1,g4,g1,w,x,jY,j,ya,yb,l2];refine jaa (l:=2*e.nx+3) (u:=e.nx+1) (by simp[gd]) (by simp[Q]) (by simp[gr]) (j3 rfl ?_ rfl);simp;rw[bA];simp;omega;have b5:(((dd (usesS h)).length:Int)==(h.ss.length:Int))=false:=by simp;omega
 simp[b5];refine jaa (l:=2*e.nx+3) (u:=e.nx+1) (by simp[gd]) (by simp[Q]) (by simp[gr]) (j3 rfl ?_ rfl);simp[c1]
def Yr (h:Hist'):Bool:=Xy h&&(h.ts.all (je4 h)&&((jdv h).all (opB h)&&jtp h))
def errH (h:Hist'):Int:=if Yr h then 0 else 4
def any_not {b:Type}(p:b->Bool) (l:List b):(l.any λt=>!p t) = !(l.all p):=by
 induction l with
 |nil=>rfl
 |cons a l c=>simp[c]
def ev53 {h:Hist'}(s:Small h):Ev E 53 [.agg (yb h)] (.int .i64 (errH h)):=by
 refine jS rfl ?_;have F:=s.ts;have G:∀t∈h.ts,t.ops.length<=1000000:=λt T=>by have:=s.os t T;omega
 have o:=ev87 s;have j:=ev93 s;obtain⟨R,H⟩:∃R,errH h=R:=⟨_,rfl⟩;have a:R=if Xy h&&(h.ts.all (je4 h)&&((jdv h).all (opB h)&&jtp h)) then 0 else 4:=H.symm
 rw[H];clear H;conv in(occs:=*)F53=>all_goals cbv
 simp[yb,ya];refine jH o zI rfl zI ?_;cases b1:Xy h;rw[b1]at a;simp at a;subst a;simp[ya,j2];exact JP rfl (l:=[.int .i64 4]) (by simp[ju,ya]) rfl rfl;rw[b1]at a;simp[ya];refine jN (vs:=[yl h.tn jf h.ts,.fn (.func 89) [] [.ptr 2 0 0]]) zS rfl rfl (ev88 (p:=λt=>!je4 h t) rfl (λt J k M=>ev89 (h:=h) ⟨rfl,zI⟩ t J k M) h.tn h.ts zO _ _ _) ?_;rw[any_not];cases b2:h.ts.all (je4 h);rw[b2]at a;replace a:R=4:=a;subst a;simp[ya,j2];exact JP rfl (l:=[.int .i64 4]) (by simp[ju,ya]) rfl rfl;rw[b2]at a;simp[ya];refine jcz (vs:=[.agg (yb h)]) zI rfl ?_;obtain⟨r,L,N,q,e3,I⟩:=ev91 (Yf:=YS) h _ _ 0 _ _;refine⟨r,L,?_⟩;simp;refine jQ λd b=>?_;obtain⟨U,z⟩:∃U,d.nx=U:=⟨_,rfl⟩;obtain⟨m,hm,w,x,P,O,Z⟩:∃m,m % 64=0/\m<U/\d.tm 15=.fn (.func 145) [] [.ptr (2*m+1) m 0]/\d.ob 2=some ⟨0,.cells (yb h)⟩/\d.ob 4=some ⟨64,.cells [.int .i64 0]⟩/\d.ob (2*m+1)=some ⟨m,.cells (yb h)⟩:=by refine⟨_,?_,?_,by rw[b];simp only[joq,put,WQ];exact N,?_,?_,?_⟩;decide;rw[<- z,b,jjz,I];omega;rw[b];simp only[JZ];rw[q];simp[yb];rw[b];simp only[JZ];rw[q];simp;rw[b];simp only[JZ];rw[q];simp
 have K:d.tm 1=.ptr 2 0 0:=by rw[b];simp[put,yg]
 have i:d.tm 2=.ptr 4 64 0:=by rw[b];simp[put,yg]
 have y:d.df=[]:=by rw[b];simp
 have S:d.fb=0:=by rw[b];simp
 have v:d.ro=0:=by rw[b];simp
 have n:64<=U:=by rw[<- z,b,jjz,I];omega
 clear b N q e3 I L;refine j8a h F G U z n x ⟨m,rfl,w⟩ K i v S P O Z ?_;intro e ob J M c q2 D B Q f;rcases f with⟨b3,rfl,rfl⟩|⟨b3,rfl,rfl⟩;rw[b3]at a;simp[K,ya,q2,yb];refine jH j zI rfl zI ?_;have g:¬2*U+3=4:=zO;have X:¬4=2*U+3:=zO;cases b4:jtp h;rw[b4]at a;replace a:R=4:=a;subst a;simp[ya,i,D,v,j2];refine jaa (l:=2*U+3) (u:=U+1) (by simp[y]) (by simp[B,g]) zS (jau rfl (l:=[.int .i64 4]) ?_ rfl);simp[ju,ya,i,g];rw[b4]at a;replace a:R=0:=a;subst a;simp[ya,i,D,v,j2];refine jaa (l:=2*U+3) (u:=U+1) (by simp[y]) (by simp[B,g]) zS (jau rfl (l:=[.int .i64 0]) ?_ rfl);simp[ju,ya,i,g];rw[b3]at a;replace a:R=4:=a;subst a;have g:¬2*U+3=4:=zO;have X:¬4=2*U+3:=zO;simp;refine jaa (l:=2*U+3) (u:=U+1) (by simp[y]) (by simp[B]) (by simp[v]) (jau rfl (l:=[.int .i64 4]) ?_ rfl);simp[ju,ya,i,g,D]
def yQ (bs:List Bool) (ks:List Int):List Bool:=ks.foldl (λb k=>b.set k.toNat true) bs
def YT (ks:List Int):∀a:List Bool,(yQ a ks).length=a.length:=by
 induction ks with
 |nil=>intro a;rfl
 |cons k ks b=>intro a;exact(b _).trans dL
def jiy (bs:List Bool) (ks:List Int) (k:Int):yQ bs (ks++[k])=(yQ bs ks).set k.toNat true:=by simp[yQ]
def jyu (bs:List Bool) (a b:List Int):yQ bs (a++b)=yQ (yQ bs a) b:=by simp[yQ]
def jh3 (bs:List Bool) (k:Nat) (h:k<bs.length):j2 (bs.map V.bool) k [.bool true]=(bs.set k true).map V.bool:=by unfold j2;rw[dG,cN,zb (zU h)];simp
def WP (h:Hist') (t:Txn'):Bool:=je4 h t&&t.ops.all (opB h)
def jku {l u n:Nat}{kk:IntKind}{x:Int}(b:0<=x) (a:x<n):jt 1 (.osl l u 0 n 1) (.int kk x)=some (.ptr l u x.toNat):=by simp[jt,b,a]
def jll {n:Int}{l:Nat}(a:¬n<0) (b:¬(l:Int)<=n):Ym n l=true:=by unfold Ym;simp;omega
def jln {n:Int}{l:Nat}(a:n<0):Ym n l=false:=by unfold Ym;simp;omega
def jlm {n:Int}{l:Nat}(a:(l:Int)<=n):Ym n l=false:=by unfold Ym;simp;omega
def ev80 {Yf:YF}{h:Hist'}{t:Txn'}(ht:t.ops.length<=1000000) {ob:ZO}{tk:Nat->Bool}{ro base ub l u:Nat}{bs:List Bool}(Q:bs.length=h.ks.length) (ho:ob l=some ⟨u,.cells (bs.map V.bool)⟩) (a0:ro<=u) (c0:ro<=ub)
 (S:∀m,ub<=m->l≠2*m+1) :
 ∃r,EvS E Yf.y 80 [.agg (yb h),.agg (jf t),.osl l u 0 h.ks.length 1] ob tk ro base ub r/\r.1=.bool (WP h t)/\(WP h t=true ->
  r.2.1 l=some ⟨u,.cells ((yQ bs (t.ops.map (·.key))).map V.bool)⟩/\(∀a,a≠l->(∀m,ub<=m->a≠2*m+1)->r.2.1 a=ob a)/\r.2.2.1=tk/\ub<=r.2.2.2):=by
 refine J6 rfl zQ ?_;show wpC E Yf S80.body _ (Jg S80.res _);have n3:¬2*(ub+64)=2*ub:=zO;have O:¬2*ub=2*(ub+64):=zO;have c:∀{e:Ex}{s:St},e=.ret->s.df=[]->s.tm 6=.bool false->WP h t=false->Jg S80.res (λr=>r.1=.bool (WP h t)/\(WP h t=true ->
  r.2.1 l=some ⟨u,.cells ((yQ bs (t.ops.map (·.key))).map V.bool)⟩/\(∀a,a≠l->(∀m,ub<=m->a≠2*m+1)->r.2.1 a=ob a)/\r.2.2.1=tk/\ub<=r.2.2.2)) e s:=by
  intro e s he hd h6 hg
  subst he
  refine⟨(.bool false,s.ob,s.tk,s.nx),?_,by rw[hg],λh=>by rw[hg]at h;cases h⟩
  conv in(occs:=*)S80=>all_goals cbv
  simp[endS,hd,ju,h6]
 generalize hP:(λr:V×(ZO)×(Nat->Bool)×Nat=>r.1=.bool (WP h t)/\(WP h t=true ->
  r.2.1 l=some ⟨u,.cells ((yQ bs (t.ops.map (·.key))).map V.bool)⟩/\(∀a,a≠l->(∀m,ub<=m->a≠2*m+1)->r.2.1 a=ob a)/\r.2.2.1=tk/\ub<=r.2.2.2))=P at c ⊢
 have gf:∀{b:Bool},je4 h t=b->b=false->WP h t=false:=λL x=>by unfold WP;rw[L,x];rfl
 conv in(occs:=*)S80=>all_goals cbv
 simp[yb,jf,ya];by_cases G:t.s<0;simp[G];exact c rfl zS zS (gf (b:=false) (by unfold je4;rw[jln G];rfl) rfl);by_cases K:(h.ss.length:Int)<=t.s;simp[G,K,ya,O];exact c rfl zS zS (gf (b:=false) (by unfold je4;rw[jlm K];rfl) rfl);by_cases f1:t.f<1;simp[G,K,f1,ya,O];exact c rfl zS zS (gf (b:=false) (by unfold je4;simp;omega) rfl);by_cases N:3<t.f;simp[G,K,f1,N,ya,O];exact c rfl zS zS (gf (b:=false) (by unfold je4;simp;omega) rfl);by_cases l1:20<(t.ops.length:Int);simp[G,K,f1,N,l1,ya,O];exact c rfl zS zS (gf (b:=false) (by unfold je4;simp;omega) rfl);have b5:je4 h t=true:=by unfold je4;rw[jll G K];simp;omega
 simp[G,K,f1,N,l1,ya,O];refine j5 [(6,8),(36,78)] t.ops.length (λi s=>s.tm 7=.int .i64 i/\s.ob (2*ub+1)=some ⟨ub,.cells (yb h)⟩/\s.ob (2*(ub+64)+1)=some ⟨ub+64,.cells (jf t)⟩ /\
  s.ob l=some ⟨u,.cells ((yQ bs ((t.ops.take i).map (·.key))).map V.bool)⟩/\(∀a,a≠l->(∀m,ub<=m->a≠2*m+1)->s.ob a=ob a)/\s.tk=tk/\ub+128<=s.nx/\(t.ops.take i).all (opB h)=true) rfl rfl ?_ ?_
 refine⟨zS,by simp[O,yb],by simp[jf],?_,?_,?_,?_,zS⟩;have e1:=S ub zO;have e2:=S (ub+64) zO;simp[e1,e2,ho,yQ];intro a _ hm;have e1:=hm ub zO;have e2:=hm (ub+64) zO;simp[e1,e2];simp[jk];simp;rintro i s hi ⟨h7,oa,B,ol,I,J,c1,k⟩ f;have N:s.tm 2=.osl l u 0 h.ks.length 1:=by rw[f.t 2 zS];simp
 have f3:s.tm 3=.ptr (2*ub+1) ub 0:=by rw[f.t 3 zS];simp
 have f4:s.tm 4=.ptr (2*(ub+64)+1) (ub+64) 0:=by rw[f.t 4 zS];simp
 have Z:s.df=[]:=by rw[f.d];simp
 have fr:s.ro=ro:=by rw[f.r];simp
 clear f;by_cases g:i<t.ops.length;have hw:=jP g zO;have x1:¬2*ub=2*(s.nx+64+64+64+64+64+64+64+64+64+64):=zO;have x2:¬2*(ub+64)=2*(s.nx+64+64+64+64+64+64+64+64+64+64):=zO;have x3:¬l=2*(s.nx+64+64+64+64+64+64+64+64+64+64)+1:=S _ zO;have b8:¬2*(s.nx+64+64+64+64+64+64+64+64+64+64)+1=l:=λe=>x3 e.symm;have x4:¬2*ub+1=l:=λe=>S ub zO e.symm;have x5:¬2*(ub+64)+1=l:=λe=>S (ub+64) zO e.symm;have x6:ro<=s.nx+64+64+64+64+64+64+64+64+64+64:=zO;obtain⟨o,D⟩:∃o,t.ops[i]=o:=⟨_,rfl⟩;have b9:=jd jD s.ob t.ops g;have z:opB h o=false->WP h t=false:=λhb=>by unfold WP;rw[jqk g (by rw[D];exact hb),dw]
 simp[h7,f4,B,ya,jf,g,j4 jD,jd jD,D,yS,j2,fr,x6];by_cases X:o.key<0;simp[X];exact c rfl (by simp[Z]) zS (z (by unfold opB;rw[jln X];rfl));by_cases k2:(h.ks.length:Int)<=o.key;simp[X,k2,f3,oa,ya,x1,yb];exact c rfl (by simp[Z]) zS (z (by unfold opB;rw[jlm k2];rfl));have q:=jll X k2;simp[X,k2,f3,oa,ya,x1,yb];refine jH (ev130 o.v) (by simp[J7]) rfl (by simp[J7]) ?_;cases k3:jto o.v;simp;exact c rfl (by simp[Z]) zS (z (by unfold opB;rw[q,k3];rfl));have b7:0<=o.key:=zO;have b6:o.key<(h.ks.length:Int):=zO;have U:=jku (l:=l) (u:=u) (n:=h.ks.length) (kk:=.i64) b7 b6;have T:=jh3 (yQ bs ((t.ops.take i).map (·.key))) o.key.toNat (by rw[YT,Q];omega);have b0:(yQ bs ((t.ops.take i).map (·.key))).length=h.ks.length:=by rw[YT,Q]
 have p:yQ bs ((t.ops.take (i+1)).map (·.key))=(yQ bs ((t.ops.take i).map (·.key))).set o.key.toNat true:=by rw[av g,bE,D];exact jiy _ _ _
 have F:o.key.toNat+1<=h.ks.length:=zO;have j:opB h o=true->(t.ops.take (i+1)).all (opB h)=true:=λhb=>by rw[av g,eZ,k,D];simp[hb]
 generalize yQ bs ((t.ops.take i).map (·.key))=mk at *;cases k4:o.w;have M:opB h o=true:=by unfold opB;rw[q,k3,k4];rfl
 simp[ya,x1,x2,x3,N,U,ol,a0,b0,F,T,fr,h7,hw];refine⟨g,?_,?_,?_,?_,J,?_,?_⟩;rw[za x4,oa];rfl;rw[za x5,B];rfl;rw[<- List.map_take,p,dG];intro a L x;rw[za L,za (x _ zO),za (x _ zO)];exact I a L x;omega;have:=j M;rw[aw]at this;exact this;cases k5:(o.v.kind==1);have H:(o.v.kind != 1)=true:=by simpa using k5
 simp[ya,H];exact c rfl (by simp[Z]) zS (z (by unfold opB;rw[q,k3,k4,k5];rfl));have H:(o.v.kind != 1)=false:=by simpa using k5
 have M:opB h o=true:=by unfold opB;rw[q,k3,k4,k5];rfl
 simp[ya,x1,x2,x3,N,U,ol,a0,b0,F,T,fr,h7,hw,H];refine⟨g,?_,?_,?_,?_,J,?_,?_⟩;rw[za x4,oa];rfl;rw[za x5,B];rfl;rw[<- List.map_take,p,dG];intro a L x;rw[za L,za (x _ zO),za (x _ zO)];exact I a L x;omega;have:=j M;rw[aw]at this;exact this;have:i=t.ops.length:=zO;subst this;rw[bg]at k ol;have hg:WP h t=true:=by unfold WP;rw[b5,k];rfl
 simp[h7,f4,B,ya,jf];refine⟨(.bool true,s.ob,s.tk,s.nx+64+64+64+64+64+64),?_,?_⟩;simp[endS,ju,Z];rw[<- hP];exact⟨by rw[hg],λ_=>⟨ol,I,J,by show ub<=_;simp;omega⟩⟩
def jpu {E:Env}{st:St}{ub:Nat}{K:List FP->St->Prop}{d:Option Nat}{nm:Bool}{r:List AOpr}{sz a n:Nat}{zero:List V}{x y:A}(b:ye E st.tm x=.int .i64 (n:Int)) (f:ye E st.tm y=.int .i64 (n:Int)) (e:n*a<=140737488355328) (i:n<=140737488355328) (g:zero.length=sz) (c:0<sz)
 (h:YU E r K (ye E st.tm) (.mkSl true sz a zero x y) st d ub { v:=.osl (jI d nm st.fb ub) ub 0 n sz,obs:=[(jI d nm st.fb ub,⟨ub,.cells (ja3 n zero)⟩)] }):jE E (⟨d,.mkSl true sz a zero x y,none,nm⟩::r) st ub K:=by
 rw[jv rfl];simp only[yU,b,f];rw[zb (by refine⟨zO,zO,?_,zO,g,c⟩;rw[<- ga];exact gN.2 e)];simp only[bV,ag,false_and,zc,Jn,jG,Jd,ba];exact h
def jai (n:Nat):ja3 n [.bool false]=(List.replicate n false).map V.bool:=by unfold ja3;apply eE;simp;intro i a b;simp[List.getD,Nat.mod_one]
def jm0 (ks:List Int):∀(bs:List Bool) (j:Nat) (a:j<bs.length),(∀k∈ks,0<=k)->(yQ bs ks)[j]? = some (bs[j]||ks.any λk=>k==(j:Int)):=by
 induction ks with
 |nil=>intro bs j a _;simp[yQ,a]
 |cons k ks c=>
  intro bs j a h;have f:=h k zS;have:=c (bs.set k.toNat true) j (zU a) (λx d=>h x (by simp[d]));show(yQ (bs.set k.toNat true) ks)[j]? = _;rw[this,gU,bp];by_cases b:k.toNat=j;have:k=(j:Int):=zO;simp[this];have:¬k=(j:Int):=zO;have e:(k==(j:Int))=false:=by simpa using this
  rw[za b,e,bR]
def jm1 {ks:List Int}{n:Nat}(h:∀k∈ks,0<=k/\k<n):(yQ (List.replicate n false) ks).all id=decide ((dd ks).length=n):=by
 have i:=(j50 n (dd ks) (j28 ks) (λx b=>h x (mem_dd.1 b))).2;rw[bA,aw,ze,i];constructor;intro a k f;have g:k<(yQ (List.replicate n false) ks).length:=by rw[YT];simpa using f
 have:=a _ (au g);have d:=jm0 ks (List.replicate n false) k (zU f) (λx b=>(h x b).1);rw[aa g,ab]at d;rw[d]at this;simp at this;exact mem_dd.2 this;intro a x b;obtain⟨j,e,rfl⟩:=bq b;have c:j<n:=by rw[YT]at e;simpa using e
 have d:=jm0 ks (List.replicate n false) j (zU c) (λx b=>(h x b).1);rw[aa e,ab]at d;rw[d];have:=mem_dd.1 (a j c);simp;exact this
def jnf (h:Hist'):h.ts.all (WP h)=(h.ts.all (je4 h)&&(jdv h).all (opB h)):=by
 unfold jdv;induction h.ts with
 |nil=>rfl
 |cons t l a=>simp only[bU,bk,eZ,a,WP];cases je4 h t<;>cases t.ops.all (opB h)<;>cases l.all (je4 h)<;>simp
def within_iff {n:Int}{l:Nat}:Ym n l=true ↔ 0<=n/\n<l:=by unfold Ym;simp
def j3g {h:Hist'}(d:Xy h=true) (a:h.ts.all (WP h)=true):Yr h=((yQ (List.replicate h.ks.length false) (usesK h)).all id&&(yQ (List.replicate h.ss.length false) (usesS h)).all id):=by
 rw[jnf,aj]at a;have e:∀k∈usesS h,0<=k/\k<h.ss.length:=by intro k b;obtain⟨t,c,rfl⟩:=aI.1 b;have:=aw.1 a.1 t c;unfold je4 at this;rw[aj]at this;exact within_iff.1 this.1
 have f:∀k∈usesK h,0<=k/\k<h.ks.length:=by intro k b;obtain⟨t,c,rfl⟩:=aI.1 b;have:=aw.1 a.2 t c;unfold opB at this;rw[aj]at this;exact within_iff.1 this.1
 rw[jm1 e,jm1 f];unfold Yr jtp;rw[d,a.1,a.2];simp only[bM];rw[gx]
def errH_f1 {h:Hist'}(a:Xy h=false):errH h=4:=by unfold errH Yr;rw[a];rfl
def errH_f2 {h:Hist'}(a:h.ts.all (WP h)=false):errH h=4:=by unfold errH Yr;rw[jnf]at a;rw[<- fy (h.ts.all (je4 h)),a];simp
def jho (l:List Bool):Bool:=l.all id
def js7:jho []=true:=rfl
def jn2 {l:List Bool}{j:Nat}(h:j<l.length):jho (l.take (j+1))=(jho (l.take j)&&l[j]):=by unfold jho;rw[av h,eZ];simp
def ev48 {h:Hist'}(Q:Small h):Ev E 48 [.agg (yb h)] (.int .i64 (errH h)):=by
 refine jS rfl ?_;have d1:=Q.ts;have d2:=Q.ks;have d3:=Q.ss;have e1:=ev79 h.sn h.ss zO (λs hx=>by have:=Q.sl s hx;omega);have e2:=ev79 h.kn h.ks zO (λs hx=>by have:=Q.kl s hx;omega);obtain⟨R,hR⟩:∃R,errH h=R:=⟨_,rfl⟩;have p:Xy h=false->R=4:=λX=>hR▸errH_f1 X;have Z:h.ts.all (WP h)=false->R=4:=λX=>hR▸errH_f2 X;rw[hR];conv in(occs:=*)F48=>all_goals cbv
 simp[yb,ya];refine jH e1 zS rfl rfl ?_;cases b1:j07 h.ss;rw[p (by unfold Xy;rw[b1];rfl)];simp;exact j3 rfl zS rfl;simp[ya];refine jH e2 zS rfl rfl ?_;cases b2:j07 h.ks;rw[p (by unfold Xy;rw[b1,b2];rfl)];simp;exact j3 rfl zS rfl;by_cases c1:20<(h.ss.length:Int);rw[p (by unfold Xy;simp;omega)];simp[ya,c1];exact j3 rfl zS rfl;by_cases c2:40<(h.ks.length:Int);rw[p (by unfold Xy;simp;omega)];simp[ya,c1,c2];exact j3 rfl zS rfl;by_cases c3:40<(h.ts.length:Int);rw[p (by unfold Xy;simp;omega)];simp[ya,c1,c2,c3];exact j3 rfl zS rfl;have X:Xy h=true:=by unfold Xy;rw[b1,b2];simp;omega
 simp[ya,c1,c2,c3];refine jpu (n:=h.ks.length) zS zS zO zO rfl zQ ?_;simp[ya];refine jpu (n:=h.ss.length) zS zS zO zO rfl zQ ?_;simp[jai];refine⟨by simp[JQ,YW,Wk,QP,yz,yB,yR,Delta.wo,Delta.wt];decide,?_⟩;refine jQ λw a=>?_;have g1:w.tm 1=.ptr 1 0 0:=by rw[a];simp
 have g3:w.tm 3=.osl 4225 2112 0 h.ks.length 1:=by rw[a];simp
 have g4:w.tm 4=.osl 4737 2368 0 h.ss.length 1:=by rw[a];simp
 have g5:w.tm 5=.int .i64 0:=by rw[a];simp
 have p1:w.ob 1=some ⟨0,.cells (yb h)⟩:=by rw[a];simp[yb]
 have pk:w.ob 4225=some ⟨2112,.cells ((List.replicate h.ks.length false).map V.bool)⟩:=by rw[a];simp
 have ps:w.ob 4737=some ⟨2368,.cells ((List.replicate h.ss.length false).map V.bool)⟩:=by rw[a];simp
 have gd:w.df=[]:=by rw[a];simp
 have gb:w.fb=0:=by rw[a];simp
 have gr:w.ro=0:=by rw[a];simp
 have gn:2400<=w.nx:=by rw[a];simp
 clear a;generalize hB:List.replicate h.ks.length false=B at *;generalize hC:List.replicate h.ss.length false=D at *;have U:B.length=h.ks.length:=by rw[<- hB];simp
 have b0:D.length=h.ss.length:=by rw[<- hC];simp
 refine j5 [(2,2),(5,5),(45,68)] h.ts.length (λi s=>s.tm 5=.int .i64 i/\s.ob 1=some ⟨0,.cells (yb h)⟩/\s.ob 4225=some ⟨2112,.cells ((yQ B ((h.ts.take i).flatMap λt=>t.ops.map (·.key))).map V.bool)⟩ /\
  s.ob 4737=some ⟨2368,.cells ((yQ D ((h.ts.take i).map (·.s))).map V.bool)⟩/\2400<=s.nx/\(h.ts.take i).all (WP h)=true) rfl rfl ⟨by simp[g5],p1,by simp[pk,yQ],by simp[ps,yQ],gn,zS⟩ ?_
 rintro i s hi ⟨h5,o1,ok,os,e,z⟩ f;have f1:=(f.t 1 zS).trans g1;have f3:=(f.t 3 zS).trans g3;have f4:=(f.t 4 zS).trans g4;have fd:=f.d.trans gd;have fb:s.fb=0:=by rw[f.b,gb]
 have fr:=f.r.trans gr;clear f;by_cases c:i<h.ts.length;have L:=jP c zO;obtain⟨t,J⟩:∃t,h.ts[i]=t:=⟨_,rfl⟩;have c4:t∈h.ts:=J▸au c;have d4:=Q.os t c4;have c8:=jd j7 s.ob h.ts c;rw[J]at c8;simp[h5,f1,o1,ya,yb,c,j4 j7,jd j7,J,f3];refine jcz (vs:=[.agg (yb h),.agg (jf t),.osl 4225 2112 0 h.ks.length 1]) zI rfl ?_;simp[fr,fb];have b5:(yQ B ((h.ts.take i).flatMap λt=>t.ops.map (·.key))).length=h.ks.length:=by rw[YT,U]
 have N:(yQ D ((h.ts.take i).map (·.s))).length=h.ss.length:=by rw[YT,b0]
 obtain⟨⟨v,b9,b7,c9⟩,hr,hv,hg⟩:=ev80 (Yf:=YS) (h:=h) (t:=t) zO (ob:=s.ob) (tk:=s.tk) (ro:=0) (base:=61440) (ub:=s.nx+64+64+64+64+64+64+64+64+64+64+64+64) (l:=4225) (u:=2112) b5 ok zO zO (λm hm=>by omega);refine⟨v,b9,b7,c9,hr,?_⟩;simp only at hv hg;subst hv;cases o:WP h t;rw[Z (jqk c (by rw[J];exact o))];simp[put];exact j3 (by simp[fd]) zS rfl;obtain⟨q1,q2,q3,q4⟩:=hg o;have c5:=(q2 1 zQ (λm hm=>by omega)).trans o1;have qs:=(q2 4737 zQ (λm hm=>by omega)).trans os;have K:je4 h t=true:=by unfold WP at o;rw[aj]at o;exact o.1
 have S:0<=t.s/\t.s<h.ss.length:=by unfold je4 at K;rw[aj]at K;exact within_iff.1 K.1
 have y:=jku (l:=4737) (u:=2368) (n:=h.ss.length) (kk:=.i64) S.1 S.2;have c0:=jh3 (yQ D ((h.ts.take i).map (·.s))) t.s.toNat (by rw[N];omega);have c7:(h.ts.flatMap jf)[i*3]? = some (.int .i64 t.s):=by have:=jO j7 h.ts c (by decide:0<3);rw[bl,J]at this;rw[this];rfl
 have b8:yQ B ((h.ts.take (i+1)).flatMap λt=>t.ops.map (·.key))=yQ (yQ B ((h.ts.take i).flatMap λt=>t.ops.map (·.key))) (t.ops.map (·.key)):=by rw[av c,bK,jyu,J];simp
 have c6:yQ D ((h.ts.take (i+1)).map (·.s))=(yQ D ((h.ts.take i).map (·.s))).set t.s.toNat true:=by rw[av c,bE,J];exact jiy _ _ _
 have T:(h.ts.take (i+1)).all (WP h)=true:=by rw[av c,eZ,z,J];simp[o]
 rw[<- b8]at q1;have a0:t.s.toNat+1<=h.ss.length:=zO;obtain⟨mk,b6⟩:∃m,yQ B ((h.ts.take (i+1)).flatMap λt=>t.ops.map (·.key))=m:=⟨_,rfl⟩;rw[b6]at q1;generalize yQ D ((h.ts.take i).map (·.s))=md at *;simp[put,yg,f1,f4,h5,c5,ya,yb,c,j4 j7,c7,y,qs,N,c0,L,q1,a0];refine⟨by rw[b6],by rw[<- List.map_take,c6,dG],zO,?_⟩;rw[aw]at T;exact T;have:i=h.ts.length:=zO;subst this;rw[bg]at z ok os;have F:=j3g X z;have hK:(h.ts.flatMap λt=>t.ops.map (·.key))=usesK h:=by unfold usesK jdv;rw[List.map_flatMap]
 have hS:h.ts.map (·.s)=usesS h:=rfl;rw[hK]at ok;rw[hS]at os;rw[hB,hC]at F;have b5:(yQ B (usesK h)).length=h.ks.length:=by rw[YT,U]
 have N:(yQ D (usesS h)).length=h.ss.length:=by rw[YT,b0]
 have H:R=if jho (yQ B (usesK h))&&jho (yQ D (usesS h)) then 0 else 4:=by rw[<- hR,errH,F];rfl
 clear F hR;generalize yQ B (usesK h)=mk at *;generalize yQ D (usesS h)=md at *;simp[h5,f1,o1,ya,yb];refine j5 [(6,7),(69,81)] h.ks.length (λi O=>O.tm 7=.int .i64 i/\O.ob=s.ob/\O.tm 6=.bool (jho (mk.take i))) rfl rfl ⟨zS,zS,by simp[js7]⟩ ?_;rintro j s1 hj ⟨k7,ko,P⟩ f;have m3:s1.tm 3=.osl 4225 2112 0 h.ks.length 1:=by rw[f.t 3 zS];simp[f3]
 have m4:s1.tm 4=.osl 4737 2368 0 h.ss.length 1:=by rw[f.t 4 zS];simp[f4]
 have d0:s1.df=[]:=by rw[f.d];simp[fd]
 clear f;by_cases g:j<h.ks.length;have L:=jP g zO;have q:j<mk.length:=zO;have y:=jku (l:=4225) (u:=2112) (n:=h.ks.length) (kk:=.i64) (x:=(j:Int)) zO zO;have e:jho (mk.take (j+1))=(jho (mk.take j)&&mk[j]):=jn2 q;cases G:jho (mk.take j);rw[G]at P e;simp[k7,m3,g,P,L,ko];rw[e];rfl;rw[G]at P e;simp[k7,m3,g,P,L,ko,y,ya,ok,q];rw[e];rfl;have:j=h.ks.length:=zO;subst this;have M:mk.take h.ks.length=mk:=aH zO;rw[M]at P;simp[k7,m3];refine j5 [(6,6),(8,8),(82,94)] h.ss.length (λi O=>O.tm 8=.int .i64 i/\O.ob=s.ob/\O.tm 6=.bool (jho mk&&jho (md.take i))) rfl rfl ⟨zS,by simp[ko],by simp[P,js7]⟩ ?_;rintro j s2 hj ⟨z8,zo,I⟩ f;have y4:s2.tm 4=.osl 4737 2368 0 h.ss.length 1:=by rw[f.t 4 zS];simp[m4]
 have yd:s2.df=[]:=by rw[f.d];simp[d0]
 clear f;by_cases g:j<h.ss.length;have L:=jP g zO;have q:j<md.length:=zO;have y:=jku (l:=4737) (u:=2368) (n:=h.ss.length) (kk:=.i64) (x:=(j:Int)) zO zO;have e:jho (md.take (j+1))=(jho (md.take j)&&md[j]):=jn2 q;cases G:(jho mk&&jho (md.take j));have k:(jho mk&&jho (md.take (j+1)))=false:=by rw[e,<- fy,G];rfl
 rw[G]at I;simp[z8,y4,g,I,L,zo];intro hm;rw[hm]at k;exact k;have k:(jho mk&&jho (md.take (j+1)))=md[j]:=by rw[e,<- fy,G];rfl
 rw[G]at I;simp[z8,y4,g,I,L,zo,y,ya,os,q];exact k.symm;have:j=h.ss.length:=zO;subst this;have M:md.take h.ss.length=md:=aH zO;rw[M]at I;cases G:(jho mk&&jho md);rw[G]at I H;simp[z8,y4,I];exact j3 (by simp[yd]) (by simp[H]) rfl;rw[G]at I H;simp[z8,y4,I];exact j3 (by simp[yd]) (by simp[H]) rfl
section
variable {E:Env}{Yf:YF}{st:St}{ub:Nat}{K:St->Nat->Prop}{d:Option Nat}{nm:Bool}
def jZ {sz n:Nat}{zero:List V}{a:List (Nat×Nat×A)}{cs:List V}(b:fill zero (JE (ye E st.tm) a)=some cs) (c:cs.length=n*sz) (hp:cs.all V.leaf=true)
 (h:QN K st d ub { v:=.osl (jI d nm st.fb ub) ub 0 n sz,obs:=[(jI d nm st.fb ub,⟨ub,.cells cs⟩)] }):j8 E Yf ⟨d,.buildSl true sz zero a n,none,nm⟩ st ub K:=by
 rw[jT _ rfl rfl];simp only[yU,b,ah,zd,Jd];rw[zb ⟨c,hp⟩,Jn,jG];exact h
def X8 {sz a n:Nat}{cs ys:List V}{s x:A}(g:ye E st.tm s=.sl none true n cs) (i:yp st.ob sz (ye E st.tm x)=some ys) (b:ys≠[]) (e:0<sz) (hp:ys.all V.leaf=true)
 (f:(ys.length/sz)*a<=140737488355328) (c:ys.length/sz<=140737488355328) (h:QN K st d ub { v:=.osl (jI d nm st.fb ub) ub 0 (ys.length/sz) sz,obs:=[(jI d nm st.fb ub,⟨ub,.cells ys⟩)] }) :
 j8 E Yf ⟨d,.append true sz a s x,none,nm⟩ st ub K:=by
 rw[jT _ rfl rfl];simp only[yU,g,i,ah,za b,dq,zd,Jd];rw[zb ⟨e,hp,f,c⟩,Jn,jG];exact h
def JJ {sz a l u n:Nat}{cs ys:List V}{s x:A}(k:ye E st.tm s=.osl l u 0 n sz) (m:yp st.ob sz (ye E st.tm x)=some ys) (g:st.ob l=some ⟨u,.cells cs⟩) (c:ys≠[]) (f:st.ro<=u) (o:n*sz<=cs.length) (i:0<sz) (hp:ys.all V.leaf=true)
 (j:(n+ys.length/sz)*a<=140737488355328) (e:n+ys.length/sz<=140737488355328)
 (h:QN K st d ub { v:=.osl (jI d nm st.fb ub) ub 0 (n+ys.length/sz) sz,obs:=[(jI d nm st.fb ub,⟨ub,.cells (cs.take (n*sz)++ys)⟩)],kill:=[l] }) :
 j8 E Yf ⟨d,.append true sz a s x,none,nm⟩ st ub K:=by
 rw[jT _ rfl rfl];have b:ya st.ob l u=some cs:=by simp[ya,g]
 simp only[yU,k,m,ah,b,za c,Jd];rw[zb ⟨bS▸f,trivial,trivial,o,i,hp,j,e⟩,jG];exact h
end
@[simp] theorem app_obk (st:St) (d:Option Nat) (v:V) (l k l':Nat) (o':Obj'):(st.app d { v:=v,obs:=[(l,o')],kill:=[l'] }).ob k=if k=l then some o' else if k=l' then none else st.ob k:=by
 have e:(Nat.beq k l')=decide (k=l'):=by rw[bA];simp
 simp only[St.app,Jk,yg,bp,bD,bm,e,ze]
def jqg (st:St) (d:Option Nat) (v:V) (obs:List (Nat×Obj')) (kl:List Nat):(st.app d { v:=v,obs:=obs,kill:=kl }).tk=st.tk:=by funext u;simp[jb]
end Go.Pv.T
namespace Go.Pv.T
open Go Go.Pv
end Go.Pv.T
namespace Go.Pv.T
open Go Go.Pv
@[simp] theorem cells_osl (a b c d e:Nat):(V.osl a b c d e).cells=[.osl a b c d e]:=rfl
@[simp] theorem leaf_osl (a b c d e:Nat):(V.osl a b c d e).leaf=true:=rfl
def jdg (st:St) (v:V) (nl:Bool) (n:Nat) (cs:List V):Prop:=∀keep i,∃a,js st keep i v=some (.sl a nl n cs)/\(a=none\/∃z,a=some (i,z))
def ja (st:St) (t:Option (Nat×Nat)) (nl:Bool) (n:Nat) (cs:List V):jdg st (.sl t nl n cs) nl n cs:=by
 intro keep i;cases t with
 |none=>exact⟨none,rfl,.inl rfl⟩
 |some p=>obtain⟨u,z⟩:=p;refine⟨_,rfl,?_⟩;split;exact .inr ⟨z,rfl⟩;exact .inl rfl
def jvz (r:V) (g:Hist'):Prop:=∃a b c:Option (Nat×Nat),r=.agg [.sl a g.sn g.ss.length (g.ss.flatMap X1),.sl b g.kn g.ks.length (g.ks.flatMap X1),.sl c g.tn g.ts.length (g.ts.flatMap jf)]/\(∀p∈a.toList++b.toList++c.toList,p.1<64)
def jdl (a:Option (Nat×Nat)) (nl:Bool) (n:Nat) (cs:List V):(V.sl a nl n cs).tok=a.toList.map (·.1):=by
 cases a with
 |none=>rfl
 |some p=>rfl
def tokm {a:Option (Nat×Nat)}{nl:Bool}{n:Nat}{cs:List V}{i:Nat}:i∈(V.sl a nl n cs).tok ↔ ∃p∈a.toList,p.1=i:=by rw[jdl,aI]
def Grow {α:Type}(tk:Nat->Bool) (lo nx:Nat) (f:α->List V) (sz:Nat) (l:List α) (v:V):Prop :=
 (l=[]/\v=.sl none true 0 [])\/(l≠[]/\∃u,v=.sl (some (u,sz)) false l.length (l.flatMap f)/\tk u=true/\lo<=u/\u<nx)
def Grow.nil {a:Type}(tk:Nat->Bool) (lo nx:Nat) (f:a->List V) (sz:Nat):Grow tk lo nx f sz [] (.sl none true 0 []):=.inl ⟨rfl,rfl⟩
def Grow.form {c:Type}{tk:Nat->Bool}{lo nx:Nat}{f:c->List V}{sz:Nat}{l:List c}{v:V}(h:Grow tk lo nx f sz l v):∃t,v=.sl t l.isEmpty l.length (l.flatMap f):=by
 rcases h with⟨rfl,rfl⟩|⟨b,u,rfl,_⟩;exact⟨none,rfl⟩;cases l with
 |nil=>exact zf rfl b
 |cons a l=>exact⟨_,rfl⟩
def Grow.mono {e:Type}{tk a:Nat->Bool}{lo nx nx':Nat}{f:e->List V}{sz:Nat}{l:List e}{v:V}(h:Grow tk lo nx f sz l v) (g:∀u,lo<=u->u<nx->tk u=true->a u=true) (m:nx<=nx'):Grow a lo nx' f sz l v:=by rcases h with h|⟨b,u,j,k,c,i⟩;exact .inl h;exact .inr ⟨b,u,j,g u c i k,c,zO⟩
section
variable {E:Env}{Yf:YF}{st:St}{ub:Nat}{K:St->Nat->Prop}{d:Option Nat}{nm:Bool}
def Xl {j:Type}{f:j->List V}{sz b lo hi:Nat}{l:List j}{a:j}{v:V}{s x:A}(r:Grow st.tk lo hi f sz l v) (o:ye E st.tm s=v) (p:yp st.ob sz (ye E st.tm x)=some (f a)) (i:∀a,(f a).length=sz) (k:0<sz)
 (hp:(f a).all V.pureLeaf=true) (n:(l.length+1)*b<=140737488355328) (m:l.length+1<=140737488355328)
 (h:∀del:Option Nat,(∀u,del=some u->lo<=u/\u<hi)->QN K st d ub { v:=.sl (some (ub,sz)) false (l.length+1) ((l++[a]).flatMap f),del:=del,add:=[ub] }):j8 E Yf ⟨d,.append false sz b s x,none,nm⟩ st ub K:=by
 have g:f a≠[]:=λe=>by have:=i a;rw[e]at this;simp at this;omega
 have c:(f a).length/sz=1:=by rw[i];exact gE k
 rcases r with⟨rfl,rfl⟩|⟨y,u,rfl,t,q,w⟩;refine jkr o p g k hp (by rw[c];simpa using n) (by rw[c];simp) ?_;rw[c];have:=h none (λu e=>by cases e);simpa using this;refine Jl o t p g (by rw[j1 i]) k hp (by rw[c];exact n) (by rw[c];exact m) ?_;rw[c];have:=h (some u) (λz e=>by cases e;exact⟨q,w⟩);simpa using this
end
def Qf {b:Type}{f:b->List V}{k:Nat}(c:∀a,(f a).length=k) (ob:ZO) (nl:Bool) (l:List b):yp ob k (yl nl f l)=some (l.flatMap f):=by simp only[yl,yp,j1 c,zd]
def WO (res:List ARes) (P:V->Prop):Ex->St->Prop:=λe s=>∃r,jb4 res (e,s)=some r/\P r
def JW {f:FuncId}{af:AF}{args:List V}{P:V->Prop}(b:E.fc f=some af) (e:af.body.one=true) (h:wpC E YS af.body (ja1 args) (WO af.res P)):∃r,Ev E f args r/\P r:=by obtain⟨n,x,g,r,d,c⟩:=jmh e h λ_=>rfl;refine⟨r,⟨n+1,?_⟩,c⟩;simp only[yL,b,ah];rw[show jh E (yL E n) noY n af.body (ja1 args)=some [x] from g];exact jke (cX _ _) (λy a=>by rw[ae]at a;subst a;exact d)
end Go.Pv.T
namespace Go.Pv.T
open Go Go.Pv
end Go.Pv.T
namespace Go.Pv.T
open Go Go.Pv
section
variable {E:Env}{st:St}{ub:Nat}{K:List FP->St->Prop}{d:Option Nat}{nm:Bool}{r:List AOpr}
def jd3 {sz n:Nat}{zero:List V}{a:List (Nat×Nat×A)}{cs:List V}(b:fill zero (JE (ye E st.tm) a)=some cs) (c:cs.length=n*sz) (hp:(cs.map V.strip1).all V.pureLeaf=true)
 (h:YU E r K (ye E st.tm) (.buildSl false sz zero a n) st d ub { v:=.sl (some (ub,sz)) false n (cs.map V.strip1),add:=[ub] }):jE E (⟨d,.buildSl false sz zero a n,none,nm⟩::r) st ub K:=by
 rw[jv rfl];simp only[yU,b,ah,ag,zc];rw[zb ⟨c,hp⟩,jG];exact h
end
@[simp] theorem str_strip1 (s:List UInt8):(V.str s).strip1=.str s:=rfl
def endH1 {st:St}{p l u:Nat}{x y z:V}{g:Hist'}(k:st.df=[]) (hp:st.tm p=.ptr l u 0) (m:st.ob l=some ⟨u,.cells [x,y,z]⟩)
 (q:jdg st x g.sn g.ss.length (g.ss.flatMap X1)) (n:jdg st y g.kn g.ks.length (g.ks.flatMap X1)) (w:jdg st z g.tn g.ts.length (g.ts.flatMap jf)):∃r,jb4 [.cell p (some 3)] (.ret,st)=some r/\jvz r g:=by
 have t:(ya st.ob l u)=some [x,y,z]:=by simp[ya,m]
 have d:[ARes.cell p (some 3)].mapM (ju st)=some [.agg [x,y,z]]:=by simp[ju,hp,t]
 obtain⟨a,s,i⟩:=q (yJ (List.flatMap V.toks [.agg [x,y,z]])) 0;obtain⟨b,o,f⟩:=n (yJ (List.flatMap V.toks [.agg [x,y,z]])) 1;obtain⟨c,v,h⟩:=w (yJ (List.flatMap V.toks [.agg [x,y,z]])) 2;refine⟨.agg [.sl a g.sn g.ss.length (g.ss.flatMap X1),.sl b g.kn g.ks.length (g.ks.flatMap X1),.sl c g.tn g.ts.length (g.ts.flatMap jf)],?_,a,b,c,rfl,?_⟩;simp only[jb4,Yj k,Ye k,zd,d,ah,W4];generalize yJ (List.flatMap V.toks [.agg [x,y,z]])=keep at *;simp only[Jc,XE,Xt,s,o,v,bJ,ah,aU];have j:yJ (List.flatMap V.toks [.agg [.sl a g.sn g.ss.length (g.ss.flatMap X1),.sl b g.kn g.ks.length (g.ks.flatMap X1),.sl c g.tn g.ts.length (g.ts.flatMap jf)]])=true:=by
  have e:∀x y z:V,List.flatMap V.toks [.agg [x,y,z]]=x.tok++(y.tok++z.tok):=λx y z=>by simp[V.toks]
  rw[e,jdl,jdl,jdl];rcases i with rfl|⟨_,rfl⟩<;>rcases f with rfl|⟨_,rfl⟩<;>rcases h with rfl|⟨_,rfl⟩<;>rfl
 show(if yJ (List.flatMap V.toks [.agg [.sl a g.sn g.ss.length (g.ss.flatMap X1),.sl b g.kn g.ks.length (g.ks.flatMap X1),.sl c g.tn g.ts.length (g.ts.flatMap jf)]])=true then some (V.agg [.sl a g.sn g.ss.length (g.ss.flatMap X1),.sl b g.kn g.ks.length (g.ks.flatMap X1),.sl c g.tn g.ts.length (g.ts.flatMap jf)]) else none)=_;rw[zb j];intro p hp;simp only[aQ]at hp;rcases hp with(hp|hp)|hp;rcases i with rfl|⟨_,rfl⟩;simp at hp;simp at hp;subst hp;simp;rcases f with rfl|⟨_,rfl⟩;simp at hp;simp at hp;subst hp;simp;rcases h with rfl|⟨_,rfl⟩;simp at hp;simp at hp;subst hp;simp
def jt6 {ub:Nat}{r:V}{g:Hist'}(h:jvz r g):∃a b c add,Xp ub r=some { v:=.agg [.sl a g.sn g.ss.length (g.ss.flatMap X1),.sl b g.kn g.ks.length (g.ks.flatMap X1),.sl c g.tn g.ts.length (g.ts.flatMap jf)],add:=add }:=by
 obtain⟨a,b,c,rfl,l⟩:=h;have e:∀x y z:V,yy (.agg [x,y,z])=x.tok++(y.tok++z.tok):=λx y z=>by simp[yy,V.toks]
 have j:(yy (.agg [.sl a g.sn g.ss.length (g.ss.flatMap X1),.sl b g.kn g.ks.length (g.ks.flatMap X1),.sl c g.tn g.ts.length (g.ts.flatMap jf)])).all (λi=>Nat.blt i 64)=true:=by
  rw[e,aw];intro i o;have:∃p∈a.toList++b.toList++c.toList,p.1=i:=by rw[aQ,aQ,tokm,tokm,tokm]at o;rcases o with⟨p,d,h⟩|⟨p,d,h⟩|⟨p,d,h⟩;exact⟨p,by simp[d],h⟩;exact⟨p,by simp[d],h⟩;exact⟨p,by simp[d],h⟩
  obtain⟨p,d,rfl⟩:=this;rw[dt];exact l p d
 have f:∀(t:Option (Nat×Nat)) (m:Bool) (n:Nat) (cs:List V),∃s,Y4 ub (.sl t m n cs)=.sl s m n cs:=λt m n cs=>by
  cases t with
  |none=>exact⟨none,rfl⟩
  |some p=>exact⟨_,rfl⟩
 obtain⟨D,B⟩:=f a g.sn g.ss.length (g.ss.flatMap X1);obtain⟨u,w⟩:=f b g.kn g.ks.length (g.ks.flatMap X1);obtain⟨q,F⟩:=f c g.tn g.ts.length (g.ts.flatMap jf);refine⟨D,u,q,(yy (.agg [.sl a g.sn g.ss.length (g.ss.flatMap X1),.sl b g.kn g.ks.length (g.ks.flatMap X1),.sl c g.tn g.ts.length (g.ts.flatMap jf)])).map (ub + ·),?_⟩;rw[Xp,zb j];have k:ja4 ub (.agg [.sl a g.sn g.ss.length (g.ss.flatMap X1),.sl b g.kn g.ks.length (g.ks.flatMap X1),.sl c g.tn g.ts.length (g.ts.flatMap jf)]) =
  .agg [Y4 ub (.sl a g.sn g.ss.length (g.ss.flatMap X1)),Y4 ub (.sl b g.kn g.ks.length (g.ks.flatMap X1)),Y4 ub (.sl c g.tn g.ts.length (g.ts.flatMap jf))]:=rfl
 rw[k,B,w,F]
def kS_evV {E:Env}{Yf:YF}{st:St}{ub:Nat}{K:St->Nat->Prop}{d:Option Nat}{nm:Bool}{q:A}{xs:List A}{f:FuncId}{first captured args:List V}{v:V}(a:Ev E f args v) (e:ye E st.tm q=.fn (.func f) first captured)
 (b:(first++xs.map (ye E st.tm)++captured).map V.strip=args) (c:E.sh nm f=false) (hp:args.all V.pureTop=true) (h:wpD (Xp ub v) (QN K st d ub)):j8 E Yf ⟨d,.callV q xs,none,nm⟩ st ub K:=by
 refine jwa e ⟨⟨c,?_⟩,v,by rw[b];exact a,h⟩;rw[<- b,dN]at hp;exact hp
@[simp] theorem fn_strip0 (f:Fn):(V.fn f [] []).strip=.fn f [] []:=rfl
@[simp] theorem j94 (f:Fn):(V.fn f [] []).pureTop=true:=rfl
end Go.Pv.T
