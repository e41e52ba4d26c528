/-
  What the functions of the program answer, at every text and every question. No conditions.
-/
import Derived.Test.YtodhdplpcelokaaGreatDoorA0
set_option linter.all false
set_option maxRecDepth 100000
noncomputable section
namespace Go.Ab
open Go Go.Lib
def XdR(l:ai)(i)(h:i<l.length):(⟨⟨l⟩⟩:ByteArray).get! i=l[i]:=by show(⟨l⟩:Array UInt8)[i]! = _;rw[getElem!_pos (⟨l⟩:Array UInt8) i h];rfl
def Xzi(l:ai)(i)(h:i<l.length)(a:(l[i]).toNat<128):Utf8.decode ⟨⟨l⟩⟩ i=((l[i]).toNat,1):=by unfold Utf8.decode;simp only[gp,XdR l i h];rw[ah a]
def XkB(l:ai)(i)(h:i<l.length)(c:128<=(l[i]).toNat):128<=(Utf8.decode ⟨⟨l⟩⟩ i).1/\((Utf8.decode ⟨⟨l⟩⟩ i).1=65533\/Utf8.valid ((Utf8.decode ⟨⟨l⟩⟩ i).1:Int)=true):=by
 unfold Utf8.decode;simp only[gp,XdR l i h];rw[af aa];split
 ·rename_i b;split
  ·rename_i a;refine⟨a,.inr ?_⟩;have:=kM (l[i]).toNat (by omega:0<32);have:=kM ((⟨⟨l⟩⟩:ByteArray).get! (i+1)).toNat (by omega:0<64);unfold Utf8.valid;simp;omega
  ·exact⟨Nn,.inl rfl⟩
 ·split
  ·split
   ·rename_i a;simp only[bT,gq]at a;exact⟨by have:=a.1;omega,.inr a.2⟩
   ·exact⟨Nn,.inl rfl⟩
  ·split
   ·split
    ·rename_i a;simp only[bT,gq]at a;exact⟨by have:=a.1;omega,.inr a.2⟩
    ·exact⟨Nn,.inl rfl⟩
   ·exact⟨Nn,.inl rfl⟩
def fF(c:UInt8):Bool:=decide (97<=c.toNat/\c.toNat<=122\/65<=c.toNat/\c.toNat<=90)
def fG(c:UInt8):Bool:=decide (48<=c.toNat/\c.toNat<=57\/c.toNat=45\/c.toNat=95\/c.toNat=46\/c.toNat=47)
def fZ(s:ai):Bool:=match s with
 |[]=>false
 |a::r=>decide (s.length<=32)&&(fF a&&r.all λc=>fF c||fG c)
def gi:Bool->ai->Bool
 |_,[]=>true
 |true,a::r=>fF a&&gi false r
 |false,a::r=>(fF a||fG a)&&gi false r
def Xhn:∀r,gi false r=r.all λc=>fF c||fG c
 |[]=>rfl
 |a::r=>by show((fF a||fG a)&&gi false r)=_;rw[Xhn r];rfl
def Xnq(s):fZ s=(decide (s≠[])&&(decide (s.length<=32)&&gi true s)):=by
 cases s with
 |nil=>rfl
 |cons a r =>show(decide _&&(fF a&&r.all _))=(decide _&&(decide _&&(fF a&&gi false r)));rw[Xhn];simp
end Go.Ab
namespace Go.Ab.Sh
open Go Go.Ab Go.Lib
variable {b i:Nat}{l:ai}{m:Mem}
def XoN(s)(c:Nat)(a:c<256)(d m):TA d CF [sv s,.int .u8 (c:Int)] m=some (I (indexByte s (UInt8.ofNat c)),m):=by
 refine uF (y:=Uq) (by kernel_rfl) ?_ d;show(if CF=CF/\IntKind.u8=IntKind.u8 then(match some (Lk s (c:Int))with|some v=>some (v,m)|none=>none)else none)=_
 rw[ah ⟨rfl,rfl⟩,Xgv,pI]
def XcK(s)(c:Nat)(a:c<256)(d m):TA (d+1) IB [sv s,.int .u8 (c:Int)] m=some (I (indexByte s (UInt8.ofNat c)),m):=by rw[Xb0];refine cD (m1:=aD m m.next) ?_ (.refl _ _) rfl;delta IC C K;simp only[XoN s c a,X4]
abbrev fx:ai:=[45,95,46,47]
def Xuv(c):(indexByte fx c<0)↔¬(c.toNat=45\/c.toNat=95\/c.toNat=46\/c.toNat=47):=by
 by_cases a:c=45
 ·subst a;decide
 by_cases b:c=95
 ·subst b;decide
 by_cases d:c=46
 ·subst d;decide
 by_cases e:c=47
 ·subst e;decide
 have i:¬c.toNat=45:=λh=>a (j3.mp h);have j:¬c.toNat=95:=λh=>b (j3.mp h);have k:¬c.toNat=46:=λh=>d (j3.mp h);have l:¬c.toNat=47:=λh=>e (j3.mp h);have e1:((45:UInt8)==c)=false:=by simp;exact λh=>a h.symm
 have e2:((95:UInt8)==c)=false:=by simp;exact λh=>b h.symm
 have f:((46:UInt8)==c)=false:=by simp;exact λh=>d h.symm
 have g:((47:UInt8)==c)=false:=by simp;exact λh=>e h.symm
 simp[indexByte,e1,e2,f,g,i,j,k,l]
def Xxd(l:ai)(c)(g:128<=c.toNat)(b:∀x∈l,x.toNat<128):indexByte l c=-1:=by
 induction l with
 |nil=>rfl
 |cons a l f =>
  have e:(a==c)=false:=by simp;intro h;subst h;have:=b a ar;omega
  unfold indexByte;rw[e,f (λx d=>b x (gC _ d))];rfl
def XoU(c:Nat)(a:c<128)(d m):TA (d+2) DL [sv fx,.int .i32 (c:Int)] m=some (I (indexByte fx (UInt8.ofNat c)),m):=by rw[X5a];refine cD (m1:=aD m m.next) ?_ (.refl _ _) rfl;have w:IntKind.u8.wrap (c:Int)=c:=Ck;delta xA DY Az H C L E B K jk jj;simp only[kx,X3,Xf,ah (wO c),Qb,ah (by omega:(c:Int)<128),dS,w,X4,XcK fx c aa]
def XoV(c:Nat)(b:Utf8.valid (c:Int)=true)(d m):TA (d+1) Oz [.int .i32 (c:Int)] m=some (.bool true,m):=by
 rw[X7c];refine cD (m1:=aD m m.next) ?_ (.refl _ _) rfl;unfold Utf8.valid at b;simp at b;delta Ho Qn4 PR PT L E B K jj jh;simp only[kx,X3,Xf,ah (wO c),Qb];by_cases a:(c:Int)<55296
 ·rw[ah a]
 ·rw[af a,ah aa,ah aa]
def Xwe(c:Nat)(h:128<=c)(e:Utf8.valid (c:Int)=true):∃b x,Utf8.encode (c:Int)=⟨⟨b++[x]⟩⟩/\1<=b.length/\b.length<=3/\128<=x.toNat:=by
 have d:128<=(UInt8.ofNat (0x80+c%64)).toNat:=by have:=kM c (by omega:0<64);rw[Ca];omega
 unfold Utf8.encode;simp only[e,dW,pI];rw[af aa];split
 ·exact⟨[UInt8.ofNat (0xC0+c / 64)],UInt8.ofNat (0x80+c%64),rfl,ar,ar,d⟩
 ·split
  ·exact⟨[UInt8.ofNat (0xE0+c / 4096),UInt8.ofNat (0x80+c / 64%64)],UInt8.ofNat (0x80+c%64),rfl,ar,ar,d⟩
  ·exact⟨[UInt8.ofNat (0xF0+c / 262144),UInt8.ofNat (0x80+c / 4096%64),UInt8.ofNat (0x80+c / 64%64)],UInt8.ofNat (0x80+c%64),rfl,ar,ar,d⟩
def XgY(l)(k:Nat)(a:k<=l.length)(z:Int)(b:z=k):gH (sv l) (some (I z)) none=some (sv (l.drop k)):=by subst b;exact yg l k a
def XoT(c:Nat)(S:128<=c)(r:c=65533\/Utf8.valid (c:Int)=true)(d m):TA (d+3) DL [sv fx,.int .i32 (c:Int)] m=some (I (-1),m):=by
 rw[X5a];have M:¬((c:Int)<128):=aa;by_cases O:c=65533
 ·subst O;have nx:∀m b i,m.get b=some (.dM ⟨⟨fx⟩⟩ i)->(hi:i<4)->uk (pt b 0 0) m=some (.tuple ⟨[.bool true,I i,.int .i32 ((fx[i]).toNat:Int)]⟩,m.put b (.dM ⟨⟨fx⟩⟩ (i+1))):=by
   intro m b i h hi;have o:Utf8.decode ⟨⟨fx⟩⟩ i=((fx[i]).toNat,1):=Xzi fx i hi (by have e:∀n∈fx,n.toNat<128:=ak;exact e _ (Cf _))
   show(match m.get b with
    |some (.dM s pos)=>if pos<s.size then(let (c,w):=Utf8.decode s pos;some (Value.tuple #[.bool true,.int .i64 pos,.int .i32 c],m.put b (.dM s (pos+w))))else some (Value.tuple #[.bool false],m)
    |_=>none)=_
   rw[h];show(if i<4 then(let (c,w):=Utf8.decode ⟨⟨fx⟩⟩ i;some (Value.tuple #[.bool true,.int .i64 i,.int .i32 c],m.put b (.dM ⟨⟨fx⟩⟩ (i+w))))else some (Value.tuple #[.bool false],m))=_;rw[ah hi,o]
  have nE:∀m b,m.get b=some (.dM ⟨⟨fx⟩⟩ 4)->uk (pt b 0 0) m=some (.tuple ⟨[.bool false]⟩,m):=by
   intro m b h;show(match m.get b with
    |some (.dM s pos)=>if pos<s.size then(let (c,w):=Utf8.decode s pos;some (Value.tuple #[.bool true,.int .i64 pos,.int .i32 c],m.put b (.dM s (pos+w))))else some (Value.tuple #[.bool false],m)
    |_=>none)=_
   rw[h];rfl
  have p:∀k i f g b,i+k=4->k<f->m.next<=b->g.get b=some (.dM ⟨⟨fx⟩⟩ i)->∃l,AA (aH (d+2)) f (pt b 0 0) g=some (I (-1),l)/\Fb m.next g l:=by
   intro k
   induction k with
   |zero =>
    intro i f g b hi U t h;obtain⟨f,rfl⟩:∃q,f=q+1:=⟨f-1,aa⟩
    have v:i=4:=aa;subst v;refine⟨g,?_,.refl _ _⟩;unfold AA;delta SF H L E K jg jk A;simp only[nE g b h,X4,dy,X3,X5]
   |succ k Z =>
    intro i f g b hi U t h;obtain⟨f,rfl⟩:∃q,f=q+1:=⟨f-1,aa⟩
    obtain⟨l,F,G⟩:=Z (i+1) f (g.put b (.dM ⟨⟨fx⟩⟩ (i+1))) b aa aa t Cm;refine⟨l,?_,((Fb.refl _ _).put _ t).trans G⟩;have j:¬(((fx[i]'(by show i<4;omega)).toNat:Int)=65533):=by have:=UInt8.toNat_lt (fx[i]'(by show i<4;omega));omega
    unfold AA;delta H L E K jg jk;simp only[nx g b i h aa,X4,dy,dK,pz,X3,X6,dI,Xf,af j];exact F
  obtain⟨l,F,G⟩:=p 4 0 18446744073709551616 ((aD m m.next).push (.dM ⟨⟨fx⟩⟩ 0)) m.next rfl aa aY (A8 (aD m m.next) _);refine cD (m1:=l) ?_ ((Fb.push (m:=aD m m.next) _ aY).trans G) rfl;have W:yb (sv fx) (aD m m.next)=some (pt m.next 0 0,(aD m m.next).push (.dM ⟨⟨fx⟩⟩ 0)):=rfl;delta xA DY Az Jh SG H C L E B K jk jj;simp only[kx,X3,Xf,ah (wO 65533),Qb,af M,dI];rw[ah bY];simp only[W,X4];exact F
 ·have r:=r.resolve_left O;have ⟨a,x,e1,e2,e3,R⟩:=Xwe c S r;refine cD ?_ (.refl _ _) rfl;have u:conv .FD (.int .i32 (c)) (aD m m.next)=some (sv (a++[x]),aD m m.next):=by
   show some (Value.string (Utf8.encode (c:Int)),aD m m.next)=_;rw[e1];rfl
  have w1:IntKind.i64.wrap (((a++[x]).length)-1)=(a.length):=by rw[IntWalk.i64_in _ cF];simp
  have w2:IntKind.i64.wrap ((a.length)+1)=((a.length+1:Nat)):=jR;have j:¬((c:Int)=65533):=aa;have D:(a.length:Int)<(fx.length):=by show(a.length:Int)<(4:Nat);omega
  have Q:fx.length=4:=rfl;have e:∀n∈fx,n.toNat<128:=ak;have T:(fx[a.length]'aa).toNat<128:=e _ (Cf _);have y:(a++[x])[a.length]'ar=x:=ar;have z:=UInt8.toNat_lt x;have hd:indexByte (fx.drop (a.length+1)) (UInt8.ofNat x.toNat)=-1:=by
   have:UInt8.ofNat x.toNat=x:=by apply j3.mp;rw[Ca];omega
   rw[this];exact Xxd _ x R (λn X=>e n (FU X))
  have J:=XcK (fx.drop (a.length+1)) _ z (d+1) (aD m m.next);rw[hd]at J;delta xA DY Az Jh SH SJ SK SM R7 H C L E B N K jk jj A;simp only[kx,X3,Xf,ah (wO c),Qb,af M,dI,af j,XoV c r _,X4,uB,iQ,X5,u,dw,kP,w1];unfold so;delta R8 C E B N K ja A ji;have P:=iu (a++[x]) .i64 a.length ar;rw[y]at P;have V:((fx[a.length]'aa).toNat)≠(x.toNat:Int):=aa;simp only[dw,X3,Qb,Xf,ah D,iu _ .i64 a.length (by rw[Q];omega),P,eg,ah V,cz,w2,yg _ (a.length+1) (by rw[Q];omega),J,X4];rfl
def Xld{e:Type}(c)(f:Bool->Option e) :
  (if(97:Int)<=(c.toNat:Int)then(if(c.toNat:Int)<=122 then f true else if(65:Int)<=(c.toNat:Int)then f (decide ((c.toNat:Int)<=90))else f false)else if(65:Int)<=(c.toNat:Int)then f (decide ((c.toNat:Int)<=90))else f false)=f (fF c):=by
 by_cases a:(97:Int)<=(c.toNat)
 ·rw[ah a];by_cases b:(c.toNat:Int)<=122
  ·rw[ah b,show fF c=true by unfold fF;grind]
  ·rw[af b,ah aa,show decide _=false by simp;omega,show fF c=false by unfold fF;simp;omega]
 ·rw[af a];by_cases d:(65:Int)<=(c.toNat)
  ·rw[ah d];congr 1;unfold fF
   grind
  ·rw[af d,show fF c=false by unfold fF;grind]
def Xvl(a:m.get b=some (.dM ⟨⟨l⟩⟩ i))(hi:i<l.length):uk (pt b 0 0) m=some (.tuple ⟨[.bool true,I i,.int .i32 ((Utf8.decode ⟨⟨l⟩⟩ i).1:Int)]⟩,m.put b (.dM ⟨⟨l⟩⟩ (i+(Utf8.decode ⟨⟨l⟩⟩ i).2))):=by
 show(match m.get b with
  |some (.dM s pos)=>if pos<s.size then(let (c,w):=Utf8.decode s pos;some (Value.tuple #[.bool _,.int _ pos,.int _ c],m.put b (.dM s (pos+w))))else some _
  |_=>none)=_
 rw[a];show(if i<l.length then(let (c,w):=Utf8.decode _ i;some (Value.tuple #[.bool _,.int _ i,.int _ c],m.put b (.dM _ (i+w))))else some _)=_;rw[ah hi]
def Xxx(a:m.get b=some (.dM ⟨⟨l⟩⟩ i))(hi:¬i<l.length):uk (pt b 0 0) m=some (.tuple ⟨[.bool false]⟩,m):=by
 show(match m.get b with
  |some (.dM s pos)=>if pos<s.size then(let (c,w):=Utf8.decode s pos;some (Value.tuple #[.bool _,.int _ pos,.int _ c],m.put b (.dM s (pos+w))))else some _
  |_=>none)=_
 rw[a];show(if i<l.length then _ else _)=_;rw[af hi]
def Xea(d B s)(V:s.length<=4194304)(b)(hB:B<=b):∀(e c:ai)(m:aj) (k),s=c++e->e.length<k->m.get b=some (.dM ⟨⟨s⟩⟩ c.length) ->
  ∃m1,xK (aH (d+3)) k (pt b 0 0) m=some (.bool (gi (decide (c=[])) e),m1)/\Fb B m m1
 |[],c,m,k,v,U,x=>by
  obtain⟨k,rfl⟩:∃q,k=q+1:=⟨k-1,aa⟩
  refine⟨m,?_,.refl _ _⟩;have hn:¬c.length<s.length:=by rw[v];simp
  unfold xK;delta Un Uo H L K jg jh;simp only[Xxx x hn,X4,dy,X3,X5];trivial
 |a::e,c,m,k,v,U,x=>by
  obtain⟨k,rfl⟩:∃q,k=q+1:=⟨k-1,aa⟩
  have z:c.length<s.length:=by rw[v];simp
  have j:s[c.length]=a:=by simp[v]
  have e0:Value.string ⟨#[45,95,46,47]⟩=sv fx:=rfl;have g:Fb B m (m.put b (.dM ⟨⟨s⟩⟩ (c.length+(Utf8.decode ⟨⟨s⟩⟩ c.length).2))):=(Fb.refl _ _).put _ hB;unfold xK;delta Un Zz ZA H L E B jg jj jh;simp only[Xvl x z,X4,dy,dK,pz,X3,X6,sF,kx,Xf];by_cases p:a.toNat<128
  ·have f:=Xzi s _ z (by rw[j];exact p);rw[j]at f;rw[f]at g|-;rw[Xld a λp5=>vz _ _ _ _ _ _ _];obtain⟨m1,J,M⟩:=Xea d B s V b hB e (c++[a]) (m.put b (.dM ⟨⟨s⟩⟩ (c.length+1))) k aq aq (by rw[Mem.aX,ah rfl];simp);have F:decide (c++[a]=[])=false:=by simp
   rw[F]at J;delta vz xL C L E B K jk jj A jh D;simp only[uB,X3,BB];cases P:fF a with
   |true =>
    refine⟨m1,?_,g.trans M⟩;simp;rw[J];have:gi (decide (c=[])) (a::e)=gi false e:=by
     cases decide (c=[])
     ·show((fF a||fG a)&&gi _ _)=_
      grind
     ·show(fF a&&gi _ _)=_
      grind
    rw[this]
   |false =>
    simp only[pJ,dW,dI,X3,Xf];by_cases t:c=[]
    ·subst t;refine⟨_,?_,g⟩;rw[ah bY];have:gi (decide (([]:ai)=[])) (a::e)=false:=by
      show(fF a&&gi false e)=_;rw[P];rfl
     rw[this]
    ·have G:¬((c.length:Int)=0):=by
      intro h;exact t (uZ.mp aa)
     rw[af G];have i:gi (decide (c=[])) (a::e)=(fG a&&gi false e):=by rw[show decide (c=[])=false by grind];show((fF a||fG a)&&gi false e)=_;rw[P];simp
     rw[i];have I:UInt8.ofNat a.toNat=a:=by apply j3.mp;rw[Ca];omega
     have u:=XoU _ p (d+1) (m.put b (.dM ⟨⟨s⟩⟩ (c.length+1)));rw[I]at u;simp only[Qb,X3,e0,u,X4,iT,BB,gq]
     have look:(if indexByte fx a<0 then some (Value.bool false,m.put b (.dM ⟨⟨s⟩⟩ (c.length+1)))else xK (aH (d+3)) k (pt b 0 0) (m.put b (.dM ⟨⟨s⟩⟩ (c.length+1))))=some (.bool (decide (a.toNat=45\/a.toNat=95\/a.toNat=46\/a.toNat=47)&&gi false e),if indexByte fx a<0 then m.put b (.dM ⟨⟨s⟩⟩ (c.length+1))else m1):=by
      by_cases hi:indexByte fx a<0
      ·rw[ah hi,ah hi];have:=(Xuv a).mp hi;rw[bJ this];rfl
      ·rw[af hi,af hi,J];have:=Decidable.byContradiction λh=>hi ((Xuv a).mpr h)
       grind
     have o:Fb B m (if indexByte fx a<0 then m.put b (.dM ⟨⟨s⟩⟩ (c.length+1))else m1):=by
      split
      ·exact g
      ·exact g.trans M
     by_cases l:(a.toNat:Int)<48
     ·rw[ah l,look];refine⟨_,?_,o⟩;have:fG a=decide (a.toNat=45\/a.toNat=95\/a.toNat=46\/a.toNat=47):=by unfold fG;rw[gW];omega
      rw[this]
     ·rw[af l];by_cases n:(57:Int)<(a.toNat)
      ·rw[ah n,look];refine⟨_,?_,o⟩;have:fG a=decide (a.toNat=45\/a.toNat=95\/a.toNat=46\/a.toNat=47):=by unfold fG;rw[gW];omega
       rw[this]
      ·rw[af n];refine⟨m1,?_,g.trans M⟩;have:fG a=true:=by unfold fG;simp;omega
       grind
  ·have y:128<=a.toNat:=by omega
   have ⟨N,O⟩:=XkB s _ z (by rwa[j]);generalize hr:(Utf8.decode _ _).1=r at N O;have S:fF a=false:=by unfold fF;simp;omega
   have T:fG a=false:=by unfold fG;simp;omega
   have i:gi (decide (c=[])) (a::e)=false:=by
    cases decide (c=[])
    ·show((fF a||fG a)&&_)=_
     grind
    ·show(fF a&&_)=_
     grind
   refine⟨_,?_,g⟩;rw[i];have X:(97)<=(r:Int):=aa;have r2:¬((r:Int)<=122):=aa;have Y:(65)<=(r:Int):=aa;have Z:¬((r:Int)<=90):=aa;have r5:¬((r:Int)<48):=aa;have r6:(57)<(r:Int):=aa;delta vz xL C L E B K jk jj A jh D;have u:=λm=>XoT r N O d m;simp only[ah X,af r2,ah Y,bJ Z,uB,X3,pJ,X6,dI,Xf,Qb,af r5,iT,ah r6,e0,u,X4];by_cases t:(c.length:Int)=0
   ·rw[ah t]
   ·rw[af t];rfl
def XpP(s)(c:s.length<=4194304)(d m):TA (d+4) Um [sv s] m=some (.bool (fZ s),m):=by
 rw[Xqz];have e0:Value.string ⟨#[]⟩=sv []:=rfl;rw[Xnq];delta Ki Up Kg L E B N K jj A P jh D;simp only[e0,Qh,X3,Xf,X6,dw,iT];by_cases a:s=[]
 ·rw[ah a,bJ (by simpa using a)];exact cD rfl (.refl _ _) rfl
 ·rw[af a,bj a,gY];by_cases b:(32:Int)<s.length
  ·rw[ah b,bJ aa];exact cD rfl (.refl _ _) rfl
  ·rw[af b,bj aa,gY];obtain⟨f,g,e⟩:=Xea d m.next s c m.next aY s [] ((aD m m.next).push (.dM ⟨⟨s⟩⟩ 0)) 18446744073709551616 rfl aa (A8 (aD m m.next) _);refine cD ?_ ((Fb.push (m:=aD m m.next) _ aY).trans e) rfl;assumption
def Xxa{e:Type}(c)(f:Bool->Option e) :
    (if(48:Int)<=(c.toNat:Int)then(if(c.toNat:Int)<=57 then f true else if(c.toNat:Int)=45 then f true else if(c.toNat:Int)=95 then f true else if(c.toNat:Int)=46 then f true else f (decide ((c.toNat:Int)=47)))
     else if(c.toNat:Int)=45 then f true else if(c.toNat:Int)=95 then f true else if(c.toNat:Int)=46 then f true else f (decide ((c.toNat:Int)=47)))=f (fG c):=by
  have tail:¬((48:Int)<=(c.toNat:Int)/\(c.toNat:Int)<=57)->(if(c.toNat:Int)=45 then f true else if(c.toNat:Int)=95 then f true else if(c.toNat:Int)=46 then f true else f (decide ((c.toNat:Int)=47)))=f (fG c):=by
    intro hn;by_cases a:(c.toNat:Int)=45
    . rw[ah a,show fG c=true by unfold fG;grind]
    rw[af a];by_cases b:(c.toNat:Int)=95
    . rw[ah b,show fG c=true by unfold fG;grind]
    rw[af b];by_cases d:(c.toNat:Int)=46
    . rw[ah d,show fG c=true by unfold fG;grind]
    rw[af d];congr 1;unfold fG;rw[gW];omega
  by_cases a:(48:Int)<=(c.toNat)
  . rw[ah a];by_cases b:(c.toNat:Int)<=57
    . rw[ah b,show fG c=true by unfold fG;grind]
    grind
  . rw[af a]
    grind
def Xdy(M' s)(r:s.length<=4194304)(m:aj):∀(c b:ai)(k),s=b++c->c.length<k ->
  AB M' k (I b.length) (sv s) m=if gi (decide (b=[])) c=true then Ji M' (sv s) m else some (.bool false,m)
 |[],b,k,e,p=>by
  obtain⟨k,rfl⟩:∃q,k=q+1:=⟨k-1,aa⟩
  have n:s.length=b.length:=by rw[e];simp
  have d:gi (decide (b=[])) []=true:=by cases decide (b=[])<;>rfl
  unfold AB;delta E N ji;simp only[dw,X3,Qb,Xf,n,j1,dV,d,dW]
 |a::c,b,k,e,p=>by
  obtain⟨k,rfl⟩:∃q,k=q+1:=⟨k-1,aa⟩
  have n:s.length=b.length+(c.length+1):=by rw[e];simp
  have g:(b.length:Int)<s.length:=aa;have f:s[b.length]'aa=a:=by simp[e]
  have u:IntKind.i64.wrap ((b.length)+1)=((b.length+1:Nat)):=jR;have t:=Xdy M' s r m c (b++[a]) k aq aq;have i:decide (b++[a]=[])=false:=ar;rw[i,fy,iq,rR]at t;unfold AB;delta Qrs Qrt E B N jj ji jh;simp only[dw,X3,Qb,Xf,ah g,iu s _ b.length aa,f,sF,kx];rw[Xld a λw=>xB M' _ _ _ _ _ m];delta xB E B jk jh;simp only[sF,kx,X3,Xf,dI];rw[Xxa a λx=>qU M' _ _ _ _ _ m];delta qU Jj L E B K ja jk jj A jh;simp only[uB,X3,BB,dI,cz,u,gq];cases l:fF a with
  |true =>
   simp only[iQ,dp,dV];have:gi (decide (b=[])) (a::c)=gi false c:=by
    cases decide (b=[])
    ·show((fF a||fG a)&&gi _ _)=_
     grind
    ·show(fF a&&gi _ _)=_
     grind
   grind
  |false =>
   simp only[pJ,dW];by_cases o:b=[]
   ·subst o;rw[ah bY];have:gi (decide (([]:ai)=[])) (a::c)=false:=by
     show(fF a&&gi false c)=_;rw[l];rfl
    grind
   ·have j:¬((b.length:Int)=0):=by
     intro h;exact o (uZ.mp aa)
    rw[af j];have d:gi (decide (b=[])) (a::c)=(fG a&&gi false c):=by rw[show decide (b=[])=false by grind];show((fF a||fG a)&&gi false c)=_;rw[l];simp
    rw[d];cases v:fG a with
    |true =>grind
    |false =>simp
def XqD(s)(b:s.length<=4194304)(d m):TA (d+1) QV [sv s] m=some (.bool (fZ s),m):=by
 rw[Xb5];refine cD ?_ (.refl _ _) rfl;have:=Xdy (aH d) s b (aD m m.next) s [] 18446744073709551616 rfl aa;delta IL SN SO A;refine aU this ?_;rw[Xnq];have hd:decide (([]:ai)=[])=true:=rfl;rw[hd];cases gi true s with
 |false=>simp
 |true =>
  delta Ji SP E B N K jj A;simp only[dW,dw,X3,sF,kx,Xf,fO];by_cases a:s=[]
  ·grind
  ·have:1<=s.length:=by
    cases s with
    |nil=>grind
    |cons=>simp
   rw[ah aa,bj a,gY];congr 3
   grind
end Go.Ab.Sh
namespace Go.Ab
open Go Go.Lib
end Go.Ab
namespace Go.Ab.Sh
open Go Go.Ab Go.Lib
def tx(y:Option Nat):Nat:=y.getD 0
def XpR(s)(b:s.length<=4194304)(E':Nat)(a:E'<1000000000000)(d m) :
  TA (d+1) JS [sv s,I E'] m=some (.tuple ⟨[I (tx (num E' s)),.bool (num E' s).isSome]⟩,m):=by
 rw[XpQ s b _ a];cases num _ s<;>rfl
end Go.Ab.Sh
namespace Go.Ab
open Go Go.Lib Go.Ab.Sh
structure Rl where
 XAi:Bool
 gk:Int
 sa:Nat
 sb:Int
 da:Nat
 db:Int
 sl:Nat
 sh:Nat
 dl:Nat
 dh:Nat
structure Q_n where
 kind:Nat
 dev:ai
 ifc:ai
 qF:ai
 en:Nat
 r:Rl
 a:Nat
 b:Nat
 p:Nat
 m:Nat
 n:Nat
 XAd:Int
 ad:Nat
def cP(r:Rl):Bool:=decide (r.gk≠-1)
end Go.Ab
namespace Go.Ab.Sh
open Go Go.Ab Go.Lib
end Go.Ab.Sh
namespace Go.Ab
open Go Go.Lib Go.Ab.Sh
end Go.Ab
namespace Go.Ab.Sh
open Go Go.Ab Go.Lib
end Go.Ab.Sh
namespace Go.Ab
open Go Go.Lib Go.Ab.Sh
def Xw7{W m m1 v}{x:Option Rs}(d:x=some (v,m1))(c:Fr W (aD m m.next) m1) :
  ∃a,cK m x=some (v,a)/\Fr W m a/\a.next<=m1.next/\(∀b,b<m.next->a.get b=m1.get b):=by
 obtain⟨a,e,f,g,h⟩:=Fr.call v c;exact⟨a,by rw[d];simp only[cK,e],f,g,h⟩
end Go.Ab
namespace Go.Ab.Sh
open Go Go.Ab Go.Lib
variable {T b A' i n y r r' sz:Nat}{X M:NX}{cs za6 vs xs z zero:List Value}{k1 k2:Option Rs}{l:List Cl}{S m1:Mem}{ty:Option Nat}{ws:List ai}{g8:Value}{H1 i7:ay}
inductive Fd where
 |i (k:IntKind)
 |s
 |b
 |l (r:Nat)
 |f
def ch:Nat->List Fd
 |0=>[.s,.i .u8,.l 1,.l 2,.l 3,.l 5,.l 6,.l 7,.l 9,.l 12,.l 14,.l 16,.f,.s,.f,.b,.b,.i .i64]
 |1=>[.s]
 |2=>[.s,.s,.i .u32,.i .i64,.b,.s,.s,.i .u8,.i .i64,.i .i64,.b]
 |3=>[.s,.l 4]
 |4=>[.b,.i .i64,.i .u32,.i .i64,.i .u32,.i .i64,.i .u32,.i .u32,.i .u32,.i .u32]
 |5=>[.b,.s,.i .u32]
 |6=>[.s,.i .u32,.i .i64,.i .u32,.b,.i .i64,.i .i64]
 |7=>[.s,.l 8]
 |8=>[.b,.i .u32,.i .i64,.i .i64,.i .i64]
 |9=>[.s,.l 10]
 |10=>[.b,.l 11]
 |11=>[.i .u32]
 |12=>[.s,.l 13,.b]
 |13=>[.i .i64,.i .u8,.s,.s,.i .i64,.i .i64,.i .i64,.i .i64,.i .i64,.i .i64,.l 11,.b,.l 11,.i .u32,.i .i64]
 |14=>[.s,.i .u32,.l 15]
 |15=>[.i .u8,.i .i64,.i .u8,.s]
 |16=>[.s,.i .u32,.i .u32,.l 17,.l 18,.l 15]
 |17=>[.i .u32,.i .i64]
 |18=>[.i .u32,.i .u32,.s,.s,.b,.b]
 |_=>[.f]
def aN(r:Nat):Nat:=(ch r).length
def KJ(r):0<aN r:=by unfold aN ch;split<;>exact Cg _
def bo(r y:Nat):Option Fd:=(ch r)[y%aN r]?
def fdAt_row(r i f)(h:f<aN r):bo r (i*aN r+f)=(ch r)[f]?:=by unfold bo;rw[Ce,Nat.mul_add_mod,tK h]
def kt:Key->Option Nat
 |[]=>none
 |[a]=>if a=0 then some 0 else none
 |y::k::t=>(kt (k::t)).bind λr=>match bo r y with|some (.l r')=>some r'|_=>none
def fB{k}(h:kt k=some r)(hf:bo r y=some (.l r')):kt (y::k)=some r':=by
 cases k with
 |nil=>cases h
 |cons a t =>
  show(kt _).bind _=_
  grind
abbrev SB:Nat:=262144
def dz:Option Fd->Cl->Prop
 |some (.i k),.v x=>∃n,x=.int k n
 |some .s,.v x=>∃t,x=sv t/\t.length<=SB
 |some .b,.v x=>∃b,x=.bool b
 |some (.l r),.s _ sz=>sz=aN r
 |some .f,.v _=>True
 |_,_=>False
structure WT (X:NX):Prop where
 root:∃l,X [0]=some (.c l)/\l.length=18
 set:∃w,X [2]=some (lv w)
 qy:X [1]=none
 ty:∀k l,X k=some (.c l)->∃r,kt k=some r/\∀y c,l[y]?=some c->dz (bo r y) c
def cl(X:NX)(k:Key)(y:Nat):Cl:=match X k with|some (.c l)=>(l[y]?).getD (.v .nilFunc)|_=>.v .nilFunc
def au(X:NX)(k:Key)(y:Nat):Nat:=match cl X k y with|.s n _=>n|_=>0
def dm(X:NX)(k:Key)(y:Nat):ae:=match cl X k y with|.v x=>x|_=>.nilFunc
def di(X:NX)(k:Key)(y:Nat):ai:=match dm X k y with|.string b=>b.data.toList|_=>[]
def bI(X:NX)(k:Key)(y:Nat):Int:=match dm X k y with|.int _ n=>n|_=>0
def bF(X:NX)(k:Key)(y:Nat)(xs:List ae):NX:=match X k with|some (.c l)=>X.set k (some (.c (l.take y++xs.map .v++l.drop (y+xs.length))))|_=>X
def bg(X:NX)(k:Key)(y:Nat)(cs:List Cl):NX:=match X k with|some (.c l)=>(X.set (y::k) (some (.c (bz X (y::k)++cs)))).set k (some (.c (l.set y (.s (au X k y+1) cs.length))))|_=>X
def aX{z}(a:y+z.length<=l.length)(i):(l.take y++z++l.drop (y+z.length))[i]?=if y<=i/\i<y+z.length then z[i-y]? else l[i]?:=by
 have e1:(l.take y).length=y:=cF
 grind
def EU{z}(a:y+z.length<=l.length):(l.take y++z++l.drop (y+z.length)).length=l.length:=aq
def XcA{f d}(h:dz f (.v g8))(a:dz f d):∃z,d=.v z:=by
 cases d with
 |v z=>simp
 |s n b =>
  cases f with
  |none=>trivial
  |some g=>cases g<;>first|trivial|trivial
def iK{k}(h:kt k=some r):k≠[1]/\k≠[2]:=⟨λe=>(by rw[e]at h;cases h),λe=>(by rw[e]at h;cases h)⟩
def fp{k}(h:X k=some (.c l))(y xs):bF X k y xs=X.set k (some (.c (l.take y++xs.map .v++l.drop (y+xs.length)))):=by unfold bF;rw[h]
def Uv{k}(h:X k=some (.c l)){c}(a:l[y]?=some c):cl X k y=c:=by unfold cl;grind
def pa{k}(h:X k=some (.c l))(a:l[y]?=some (.s n sz))(cs)(b:cs.length=sz) :
  bg X k y cs=(X.set (y::k) (some (.c (bz X (y::k)++cs)))).set k (some (.c (l.set y (.s (n+1) sz)))):=by
 unfold bg au;rw[Uv h a,h,b]
def kB{k}(h:kt k=some r):k≠[]:=λe=>by rw[e]at h;cases h
def WT.get(w:WT X){k}(a:X k=some (.c l))(f:kt k=some r)(e:y<l.length):∃c,l[y]?=some c/\dz (bo r y) c:=by obtain⟨g,b,d⟩:=w.ty k l a;simp_all
def WT.st(w:WT X){k}(f:X k=some (.c l))(g:kt k=some r)(o:y+xs.length<=l.length)(p:∀i x,xs[i]?=some x->dz (bo r (y+i)) (.v x)):WT (bF X k y xs):=by
 obtain⟨j,m⟩:=iK g;rw[fp f];exact{
  root:=by
   by_cases e:[0]=k
   ·obtain⟨l0,a,b⟩:=w.root;rw[e,f]at a;exact⟨_,Np,aq⟩
   ·rw[NX.aE _ _ e];exact w.root
  set:=by rw[NX.aE _ _ (bq m)];exact w.set
  qy:=by rw[NX.aE _ _ (bq j)];exact w.qy
  ty:=λh q d=>by
   by_cases e:h=k
   ·subst e;rw[NX.aR]at d;obtain⟨s,h1,n⟩:=w.ty _ _ f
    grind
   ·rw[NX.aE _ _ e]at d;exact w.ty _ _ d }
def WT.ap(w:WT X){k cs}(j:X k=some (.c l))(hr:kt k=some r)(hf:bo r y=some (.l r'))(q:l[y]?=some (.s n (aN r')))(x:(bz X (y::k)).length=n*aN r')(p:cs.length=aN r')(h:∀(i:Nat)(c),cs[i]?=some c->dz ((ch r')[i]?) c):WT (bg X k y cs):=by
 obtain⟨B,C⟩:=iK hr;have hr2:=fB hr hf;have ⟨z,A⟩:=iK hr2;rw[pa j q cs p];exact{
  root:=by
   obtain⟨l0,a,b⟩:=w.root;by_cases e:[0]=k
   ·rw[e,j]at a;exact⟨_,Np,aq⟩
   ·have e2:[0]≠y::k:=λe=>by
     injection e with o u;exact kB hr u.symm
    rw[NX.aE _ _ e,NX.aE _ _ e2];grind
  set:=by rw[NX.aE _ _ (bq C),NX.aE _ _ (bq A)];exact w.set
  qy:=by rw[NX.aE _ _ (bq B),NX.aE _ _ (bq z)];exact w.qy
  ty:=λt F f=>by
   by_cases e:t=k
   ·subst e;rw[NX.aR]at f;cases f;refine⟨r,hr,λg c d=>?_⟩;obtain⟨D,h1,v⟩:=w.ty _ _ j;rw[hr]at h1;rw[du]at d;by_cases a:y=g
    ·subst a;rw[ah rfl,ah ((dO.mp q).1)]at d;cases d;rw[hf];rfl
    grind
   ·rw[NX.aE _ _ e]at f;by_cases e2:t=y::k
    ·subst e2;rw[NX.aR]at f;cases f;refine⟨r',hr2,λg c d=>?_⟩;by_cases a:g<n*aN r'
     ·rw[uU aa]at d;have:X (y::k)=some (.c (bz X (y::k))):=by
       unfold bz at d|-;split at d
       ·omega
       ·cases d
      have ⟨D,h1,v⟩:=w.ty _ _ this
      grind
     ·rw[lB aa,x]at d;have E:=FX (dO.mp d).1 p;have:=h _ _ d;have o:bo r' g=(ch r')[g-n*aN r']?:=by
       rw[show g=n*aN r'+(g-n*aN r') by omega,fdAt_row _ _ _ aa];congr 1;omega
      rw[o];exact this
    ·rw[NX.aE _ _ e2]at f;exact w.ty _ _ f }
def lI(X:NX)(k l y):cl (X.set k (some (.c l))) k y=(l[y]?).getD (.v .nilFunc):=by unfold cl;rw[NX.aR]
def BF(X){k a}(b y)(h:a≠k):cl (X.set k b) a y=cl X a y:=by unfold cl;rw[NX.aE _ _ h]
def cU{k}(h:X k=some (.c l))(y):cl X k y=(l[y]?).getD (.v .nilFunc):=by unfold cl;rw[h]
def yo(w:WT X){k}(b:X k=some (.c l))(m:kt k=some r)(j:y+xs.length<=l.length)(n:∀i x,xs[i]?=some x->dz (bo r (y+i)) (.v x))(f a):au (bF X k y xs) f a=au X f a:=by
 rw[fp b];unfold au;by_cases e:f=k
 ·subst e;rw[lI,cU b];have g:=aX (l:=l) (z:=xs.map Cl.v) (y:=y) (by rwa[gB]) a;rw[gB]at g;rw[g];by_cases p:y<=a/\a<y+xs.length
  ·rw[ah p,gX];have ⟨d,d1,d2⟩:=w.get b m (y:=a) aa;have ⟨h,o⟩:∃h,xs[a-y]?=some h:=⟨_,dX aa⟩
   have:=n _ _ o;rw[show y+(a-y)=a by omega]at this;obtain⟨z,rfl⟩:=XcA this d2
   grind
  grind
 ·rw[BF _ _ _ e]
def Ll{k}(f:X k=some (.c l))(g:l[y]?=some (.s n sz))(cs)(h:cs.length=sz)(b d):au X b d<=au (bg X k y cs) b d:=by
 rw[pa f g cs h];unfold au;by_cases e:b=k
 ·subst e;rw[lI,cU f,du]
  grind
 ·rw[BF _ _ _ e];by_cases e2:b=y::k
  ·subst e2;rw[lI];cases a:X (y::k)with
   |none =>rw[show cl X _ d=.v _ by unfold cl;rw[a]];simp
   |some ob =>
    cases ob with
    |m i c =>rw[show cl X _ d=.v _ by unfold cl;rw[a]];simp
    |c l2 =>
     rw[cU a,show bz X _=l2 by unfold bz;rw[a]]
     grind
  ·rw[BF _ _ _ e2];simp
def Ge(X M:NX):Prop:=∀y,au X [0] y<=au M [0] y/\au X [9,0] y<=au M [9,0] y
def Ge.refl(X):Ge X X:=λ_=>⟨c6 _,c6 _⟩
def Ge.to{a}(h:Ge X M)(g:∀k y,k=[0]\/k=[9,0]->au M k y<=au a k y):Ge X a:=λy=>⟨aO (h y).1 (g _ _ (.inl rfl)),aO (h y).2 (g _ _ (.inr rfl))⟩
def sK{a k}(b y)(h:k≠a):au (X.set a b) k y=au X k y:=by unfold au;rw[BF _ _ _ h]
def iz(X:NX)(k:Key)(y:Nat)(vs:List ae):NX:=match X k with|some (.c l)=>(X.set (y::k) (some (.c (vs.map .v)))).set k (some (.c (l.set y (.s vs.length 1))))|_=>X
def vY{k}(h:X k=some (.c l))(y vs):iz X k y vs=(X.set (y::k) (some (.c (vs.map .v)))).set k (some (.c (l.set y (.s vs.length 1)))):=by unfold iz;rw[h]
def XN(i6):bo 11 i6=some (.i .u32):=by show(ch 11)[i6%1]?=_;rw[Nat.mod_one];rfl
def WT.iV(w:WT X){k}(g:X k=some (.c l))(hr:kt k=some r)(hf:bo r y=some (.l 11))(q:l[y]?=some (.s n 1))(t:∀v∈vs,∃z,v=.int .u32 z):WT (iz X k y vs):=by
 obtain⟨A,B⟩:=iK hr;have hr2:=fB hr hf;have ⟨u,x⟩:=iK hr2;rw[vY g];exact{
  root:=by
   obtain⟨l0,a,b⟩:=w.root;by_cases e:[0]=k
   ·rw[e,g]at a;exact⟨_,Np,aq⟩
   ·have e2:[0]≠y::k:=λe=>by
     injection e with C o;exact kB hr o.symm
    rw[NX.aE _ _ e,NX.aE _ _ e2];grind
  set:=by rw[NX.aE _ _ (bq B),NX.aE _ _ (bq x)];exact w.set
  qy:=by rw[NX.aE _ _ (bq A),NX.aE _ _ (bq u)];exact w.qy
  ty:=λm E d=>by
   by_cases e:m=k
   ·subst e;rw[NX.aR]at d;cases d;refine⟨r,hr,λi c f=>?_⟩;obtain⟨F,h1,D⟩:=w.ty _ _ g;rw[hr]at h1;rw[du]at f;by_cases a:y=i
    ·subst a;rw[ah rfl,ah ((dO.mp q).1)]at f;cases f;rw[hf];rfl
    grind
   ·rw[NX.aE _ _ e]at d;by_cases e2:m=y::k
    ·subst e2;rw[NX.aR]at d;cases d;refine⟨11,hr2,λi c f=>?_⟩;rw[gX]at f;cases j:vs[i]? with
     |none=>grind
     |some p =>rw[j]at f;cases f;rw[XN];exact t p (jO j)
    ·rw[NX.aE _ _ e2]at d;exact w.ty _ _ d }
def Lj{k}(f:X k=some (.c l))(y vs a b)(d:a≠k)(e:a≠y::k):au (iz X k y vs) a b=au X a b:=by rw[vY f,sK _ _ d,sK _ _ e]
abbrev Wd:=ai × Nat
structure Cu where
 pl:Nat
 er:Option (Nat × Int)
structure Cx where
 C:Nat
 P:Nat
 O:Nat
 wb:Nat
 wv:Value
 ws:List Wd
 ln:Nat
 X0:NX
 rf:Bool
class gF (c:Cx):Prop where
 rf:c.rf=false
def Cu.line(c:Cx)(cu:Cu):Nat:=match cu.er with|some _=>c.ln|none=>0
def Cu.cW(cu:Cu):Nat:=match cu.er with|some x=>x.1|none=>0
def Cu.e(cu:Cu):Int:=match cu.er with|some x=>x.2|none=>0
def cc(c:Cx)(cu:Cu):List Cl:=[.v c.wv,.v (I cu.pl),.v (I (cu.line c)),.v (I cu.cW),.v (I cu.e)]
structure Kk where
 bt:ai
 num:Nat
 bM:List ai
structure ao where
 cu:Cu
 X:NX
 aF:Nat
 df:ai
 rs:Kk
def qm(c:Cx)(b:Nat):ae:=if b=0 then .nilFunc else .func (.func b) ⟨[pt c.P 0 0]⟩ ⟨[]⟩
def tu(c:Cx)(s:ao):List ae:=[qm c s.aF,sv s.df,rM c.O]
def gy(c:Cx)(s:ao)(l:List Cl):List Cl:=if c.rf=true then[.v (sv s.rs.bt),.v (I s.rs.num),(l[17]?).getD (.v .nilFunc),.s s.rs.bM.length 1,(l[15]?).getD (.v .nilFunc),(l[16]?).getD (.v .nilFunc)]else(tu c s).map .v
def dt(c:Cx)(s:ao)(l:List Cl):List Cl:=l.take 12++gy c s l++l.drop (12+(gy c s l).length)
def FQ(l:List ai):Option NO:=if l=[]then none else some (.c (l.map λw=>.v (sv w)))
def aL(c:Cx)(s:ao):NX:=λk=>if k=[1]then some (.c (cc c s.cu))else if k=[0]then(match s.X [0]with|some (.c l)=>some (.c (dt c s l))|x=>x)else if c.rf=true/\k=[15,0]then FQ s.rs.bM else if c.rf=true/\k=[2]then none else s.X k
def W8(c s cu):(aL c s).set [1] (some (.c (cc c cu)))=aL c { s with cu:=cu }:=by
 funext k;unfold aL NX.set;by_cases h:k=[1]
 ·simp[h]
 ·simp only[af h];rfl
def uE(c s):aL c s [1]=some (.c (cc c s.cu)):=bY
structure WL (c:Cx) (m:Mem):Prop where
 ne:c.ws≠[]
 lt:c.wb<m.next
 at':∃y r cs fro ro ty,c.wv=.slice (some ⟨c.wb,y,some 3⟩) c.ws.length r/\m.get c.wb=some (.cells cs (r / 2) fro ro ty)/\y+3*c.ws.length<=cs.length /\
  ∀i w,c.ws[i]?=some w->cs[y+i*3]?=some (sv w.1)/\cs[y+i*3+1]?=some (I c.ln)/\cs[y+i*3+2]?=some (I w.2)
 len:c.ws.length<=65536
 ze:∀w∈c.ws,w.1.length<=65536/\w.2<=65536
structure mL (c:Cx) (s:ao):Prop where
 le:s.cu.pl<=c.ws.length
 ee:∀x,s.cu.er=some x->x.2≠0/\x.2≠5
 wt:WT s.X
 il:s.df.length<=SB
 ge:Ge c.X0 s.X
structure PS (c:Cx) (o:Nat) (m:Mem) (j:ay) (s:ao):Prop where
 nr:NR o m j (aL c s)
 wl:WL c m
 nb:∀k,aL c s k≠none->(j k).b≠c.wb
 pC:j [1]=⟨c.C,0,0⟩
 pP:j [0]=⟨c.P,0,0⟩
 pO:j [2]=⟨c.O,0,0⟩
 ok:mL c s
def PS.le{c o}{m:aj}{j s}(h:PS c o m j s):s.cu.pl<=c.ws.length:=h.ok.le
def PS.ee{c o}{m:aj}{j s}(h:PS c o m j s):∀x,s.cu.er=some x->x.2≠0:=λx a=>(h.ok.ee x a).1
def PS.e5{c o}{m:aj}{j s}(h:PS c o m j s):∀x,s.cu.er=some x->x.2≠5:=λx a=>(h.ok.ee x a).2
def PS.wt{c o}{m:aj}{j s}(h:PS c o m j s):WT s.X:=h.ok.wt
theorem WL.wk{c}{m:aj}{j}(h:WL c m)(e:∀k,X k≠none->(j k).b≠c.wb)(w:Wk m j X S H1 M):WL c S:=by
 obtain⟨y,r,cs,fro,ro,ty,h1,a,d⟩:=h.at';exact{ h with
  lt:=dU h.lt w.next
  at':=⟨y,r,cs,fro,ro,ty,h1,by rw[w.get _ h.lt e];exact a,d⟩ }
def PS.step{c o zb0 m j s u}(h:PS c o m j s)(n:NR zb0 S H1 (aL c u))(w:Wk m j (aL c s) S H1 (aL c u))(hC:H1 [0]=j [0]/\H1 [1]=j [1]/\H1 [2]=j [2])(ok:mL c u):PS c zb0 S H1 u where
 nr:=n
 wl:=h.wl.wk h.nb w
 nb:=λk hk=>by
  rcases w.nw k hk with q|⟨k0,q1,q2⟩
  ·grind[h.wl.lt]
  ·rw[<-q2];exact h.nb k0 q1
 pC:=by rw[hC.2.1];exact h.pC
 pP:=by rw[hC.1];exact h.pP
 pO:=by rw[hC.2.2];exact h.pO
 ok:=ok
def PS.qG{c o}{m:aj}{j s}(h:PS c o m j s)(l):PS c o (aD m l) j s:={ h with nr:=h.nr.aD l,wl:={ h.wl with at':=h.wl.at' } }
def PS.call{c o}{m:aj}{j s}(h:PS c o m j s){b:aj->Option Rs}(i8:ae->Nat->ay->ao->Prop)
  (go:∀G,PS c o G j s->∃v m1 A' i7 a,b G=some (v,m1)/\PS c A' m1 i7 a/\Wk G j (aL c s) m1 i7 (aL c a)/\i8 v A' i7 a) :
  ∃v e A' i7 a,cK m (b (aD m m.next))=some (v,e)/\PS c A' e i7 a/\Wk m j (aL c s) e i7 (aL c a)/\i8 v A' i7 a:=by
 obtain⟨v,m1,A',i7,a,g,d,i,k⟩:=go _ (h.qG m.next);obtain⟨e,l,n,f⟩:=h.nr.call g d.nr i;exact⟨v,e,A',i7,a,l,h.step n f ⟨by rw[h.pP,d.pP],by rw[h.pC,d.pC],by rw[h.pO,d.pO]⟩ d.ok,f,k⟩
def cH(c:Cx)(cu:Cu):Bool:=cu.er.isNone&&decide (cu.pl<c.ws.length)
def bG(c:Cx)(i:Nat):Wd:=c.ws[i]?.getD ([],0)
def rv(c:Cx)(cu:Cu):Nat:=(bG c (max cu.pl 1-1)).2
def cB(cu:Cu)(cW:Nat)(e:Int):Cu:=if cu.er.isNone=true then{ cu with er:=some (cW,e) }else cu
def cA(c:Cx)(cu:Cu)(e:Int):Cu:=cB cu (rv c cu) e
def py(c:Cx):Nat:=(bG c (c.ws.length-1)).2+(bG c (c.ws.length-1)).1.length
def Xa(c:Cx)(cu:Cu):ai × Cu:=if cH c cu=true then((bG c cu.pl).1,{ cu with pl:=cu.pl+1 })else([],cB cu (py c) 130)
variable {c:Cx}{o:Nat}{m:Mem}{j:ay}{s:ao}
def Fj{c}(x)(a b n:Option c):sZ (.bool x) a b n=if x=true then a else b:=by cases x<;>rfl
def PS.ld(h:PS c o m j s){x:ae}(a:(cc c s.cu)[y]?=some (.v x)):X9 false 1 (pt c.C y 0) m=some x:=by have:=h.nr.load (uE c s) a;rw[h.pC]at this;trivial
def PS.oJ(h:PS c o m j s):X9 false 1 (pt c.C (0+0) 0) m=some c.wv:=h.ld rfl
def PS.ld1(h:PS c o m j s):X9 false 1 (pt c.C (0+1) 0) m=some (I s.cu.pl):=h.ld rfl
def PS.lq(h:PS c o m j s):X9 false 1 (pt c.C (0+4) 0) m=some (I s.cu.e):=h.ld rfl
def PS.e0(h:PS c o m j s):(s.cu.e=0)↔s.cu.er.isNone=true:=by
 unfold Cu.e;cases a:s.cu.er with
 |none=>simp
 |some x=>simp[h.ee x a]
def WL.FH{m:aj}(h:WL c m)(S):aM 1 c.wv S=some (I c.ws.length):=by obtain⟨y,r,cs,a,ro,ty,b,d,e⟩:=h.at';rw[b];rfl
def vV(h:i<c.ws.length):c.ws[i]?=some (bG c i):=by
 unfold bG
 grind
def WL.ix{m:aj}(h:WL c m)(hi:i<c.ws.length):∃p:Nat->ae,Xd 3 c.wv (I i)=some (p 0)/\(∀b k,Xm k (p b)=some (p (b+k)))/\X9 false 1 (p 0) m=some (sv (bG c i).1) /\
  X9 false 1 (p 1) m=some (I c.ln)/\X9 false 1 (p 2) m=some (I (bG c i).2)/\X9 true 2 (p 1) m=some (.agg ⟨[I c.ln,I (bG c i).2]⟩)/\X9 true 3 (p 0) m=some (.agg ⟨[sv (bG c i).1,I c.ln,I (bG c i).2]⟩):=by
 obtain⟨y,r,cs,d,ro,ty,f,a,j,g⟩:=h.at';obtain⟨e,g2,g3⟩:=g i _ (vV hi);have l:i*3+3<=3*c.ws.length:=aa;refine⟨λb=>pt _ (y+i*3+b) _,?_,λb k=>?_,Xt a e,Xt a g2,Xt a g3,Xw a aa ?_,Xw a aa ?_⟩
 ·rw[f,Ko];show(match Nat.blt i _&&yr (some 3) 3 with|true=>_|false=>_)=_
  rw[qH.mpr hi,xT];rfl
 ·show Xm k (pt _ _ _)=some (pt _ _ _);rw[X7,FW]
 ·rw[mB aa,mB aa]
  grind
 ·rw[mB aa,mB aa,mB aa]
  grind
theorem wrap64(n:Nat)(h:n<9223372036854775808):IntKind.i64.wrap (n:Int)=(n:Int):=IntWalk.i64_in _ ⟨by omega,by omega⟩
def Fw(h:PS c o m j s)(d):TA (d+1) xr [pt c.C 0 0] m=some (.bool (cH c s.cu),m):=by
 rw[Xaz];refine jV ?_ (Fr.refl _ _) rfl;have k:=h.qG m.next;generalize aD m _=G at k;delta Is Qrn SD K;simp only[Xg,X7,X3,k.lq,k.oJ,k.ld1,k.wl.FH,dI,Qb,Fj];unfold cH;have:=k.e0;by_cases a:s.cu.e=0
 ·simp_all
 grind
abbrev aZ(l cW:Nat):ae:=.agg ⟨[I l,I cW]⟩
def XlY(h:PS c o m j s):max s.cu.pl 1-1<c.ws.length:=by have:=h.le;have:=wP.mpr h.wl.ne;omega
def XjM(a b:Nat):wy (I a) (I b)=some (I (max a b:Nat)):=by
 show some _=_
 grind
def XpO(h:PS c o m j s)(d):TA (d+1) QS [pt c.C 0 0] m=some (aZ c.ln (rv c s.cu),m):=by
 rw[Xak];have k:=h.qG m.next;have w:=h.wl.len;have x:=h.le;obtain⟨e,a,g,q,i⟩:=kR [] (aD m m.next) (some (2*Q7+1)) Q2 (v:=aZ c.ln (rv c s.cu)) (n:=2) rfl rfl rfl;refine jV ?_ g rfl;have f:=(k.nr.push (.cells Q2 0 0 false (some (2*Q7+1)))).1;have P2:=k.step f ((k.nr.push (.cells Q2 0 0 false (some (2*Q7+1)))).2) ⟨rfl,rfl,rfl⟩ k.ok;generalize b:(aD m _).push _=G at a g q i f P2;have l:DH (aH d) (pt c.C 0 0) (aD m m.next)=some (aZ c.ln (rv c s.cu),e):=by
  delta DH jv jc B jl U jb A;rw[Xq,b];obtain⟨p,r,t,_,_,_,V,_⟩:=P2.wl.ix (XlY h);have e1:bin .sub true true .int (I (max s.cu.pl 1:Nat)) (.int .i64 1)=some (I (max s.cu.pl 1-1:Nat)):=by rw[kP];have:((max s.cu.pl 1:Nat):Int)-1=((max s.cu.pl 1-1:Nat):Int):=aa;rw[this,wrap64 _ aa]
  have l2:X9 true 2 (pt (aD m m.next).next 0 0) e=some (aZ c.ln (rv c s.cu)):=Xw i aW rfl;simp only[Xg,X7,X3,P2.oJ,P2.ld1];rw[show wy (I s.cu.pl) (.int .i64 1)=_ from XjM s.cu.pl 1];simp only[X3,e1,r,t,aQ,V];have a:Xe 2 (pt (aD m m.next).next 0 0) (aZ c.ln (bG c (max s.cu.pl 1-1)).2) G=some e:=a;rw[a,Xj,l2];rfl
 exact l
def XcY(h:PS c o m j s)(cW e)(J:e≠0/\e≠5)(d):∃S,TA (d+1) tX [pt c.C 0 0,aZ c.ln cW,.int .i64 e] m=some (.tuple ⟨[]⟩,S)/\PS c o S j { s with cu:=cB s.cu cW e }/\Wk m j (aL c s) S j (aL c { s with cu:=cB s.cu cW e }):=by
 rw[Xbo];obtain⟨v,z,g,r,u,D,F,H,rfl,rfl,rfl,rfl⟩:=h.call (b:=Ap (aH d) (aZ c.ln cW) (pt c.C 0 0) (.int .i64 e)) (λv g r u=>v=.tuple ⟨[]⟩/\g=o/\r=j/\u={ s with cu:=cB s.cu cW e }) (λG k=>by
  delta Ap E jd je jc Y Z U jk A jq;have hn:kY Q7 (Value.cells (aZ _ cW)).toList G=(pt _ 0 0,G.push (.cells [I c.ln,I cW] 0 0 _ _)):=rfl;have ⟨t,f⟩:=k.nr.push (.cells [I c.ln,I cW] 0 0 false (some (2*Q7+1)));have P2:=k.step t f ⟨rfl,rfl,rfl⟩ k.ok;have l2:X9 _ 2 (pt _ 0 0) (G.push (.cells [I _,I cW] 0 0 false (some (2*Q7+1))))=some (aZ c.ln cW):=Xw pR ar rfl;rw[hn,X4];generalize G.push _=y at t f P2 l2;simp only[Xg,X7,X3,P2.lq,dI,Xf];have e0:=h.e0;by_cases a:s.cu.e=0
  ·rw[ah a];have hf:cB s.cu cW e={ s.cu with er:=some (cW,e) }:=by unfold cB;rw[ah (e0.mp a)]
   obtain⟨K,l,w,x⟩:=P2.nr.wF 2 2 (aZ c.ln cW) [.v _,.v _,.v _,.v _,.v _] (uE c s) rfl rfl aW (λi hi=>by have:i=0\/i=1:=aa;rcases this with rfl|rfl<;>exact⟨_,rfl⟩) rfl
   rw[P2.pC]at l;obtain⟨B,n,p,q⟩:=w.wF 4 1 (.int _ e) (cc c (cB _ cW e)) (NX.aR _ _ _) rfl rfl ar (λi hi=>by grind) (by rw[hf];rfl)
   rw[P2.pC]at n;rw[NX.set_set,W8]at p q;have W:=(f.trans x).trans q;refine⟨_,B,o,j,_,?_,k.step p W ⟨rfl,rfl,rfl⟩ ⟨by rw[hf];exact k.le,aq,k.ok.wt,k.ok.il,k.ok.ge⟩,W,rfl,rfl,rfl,rfl⟩;rw[l2,X3,l,Xj,n,Xj]
  ·rw[af a];have hf:cB s.cu cW e=s.cu:=by simp_all[cB,af,a,e0.mpr]
   exact⟨_,y,o,j,s,rfl,P2,f,rfl,rfl,rfl,by rw[hf]⟩)
 exact⟨z,D,F,H⟩
def XoZ(h:PS c o m j s)(e)(p:e≠0/\e≠5)(d):∃S,TA (d+2) Qd [pt c.C 0 0,.int .i64 e] m=some (.tuple ⟨[]⟩,S)/\PS c o S j { s with cu:=cA c s.cu e }/\Wk m j (aL c s) S j (aL c { s with cu:=cA c s.cu e }):=by
 rw[Xc5];obtain⟨v,r,a,f,g,t,u,w,rfl,rfl,rfl,rfl⟩:=h.call (b:=DS (aH (d+1)) (pt c.C 0 0) (.int .i64 e)) (λv a f g=>v=.tuple ⟨[]⟩/\a=o/\f=j/\g={ s with cu:=cA c _ e }) (λG k=>by delta DS C jp;obtain⟨q,i,l,n⟩:=XcY k (rv c s.cu) e p d;refine⟨_,q,o,j,_,?_,l,n,rfl,rfl,rfl,rfl⟩;simp only[XpO k d,X4,i])
 exact⟨r,t,u,w⟩
def cd(c:Cx)(o:Nat)(m:aj)(j:ay)(s:ao)(x:Option Rs)(v:ae)(cu:Cu):Prop:=
 ∃S,x=some (v,S)/\PS c o S j { s with cu:=cu }/\Wk m j (aL c s) S j (aL c { s with cu:=cu })
variable {x:Option Rs}{k:Value->Mem->Option Rs}{v w:Value}{cu zb2:Cu}
def cd.bind(h:cd c o m j s x w zb2)(g:∀m1,PS c o m1 j { s with cu:=zb2 }->cd c o m1 j { s with cu:=zb2 } (k w m1) v cu):cd c o m j s (bp x k) v cu:=by obtain⟨m1,a,b,d⟩:=h;obtain⟨l,e,f,i⟩:=g m1 b;exact⟨l,by rw[a,X4];exact e,f,d.trans i⟩
def cd.ret(h:PS c o m j s)(v):cd c o m j s (some (v,m)) v s.cu:=⟨m,rfl,h,Wk.refl _ _ _⟩
def cd.aI(a:x=some (w,m))(g:cd c o m j s (k w m) v cu):cd c o m j s (bp x k) v cu:=by subst a;exact g
def PS.iB(h:PS c o m j s){b:aj->Option Rs}(n:x=cK m (b (aD m m.next)))(go:∀G,PS c o G j s->cd c o G j s (b G) v cu):cd c o m j s x v cu:=by
 subst n;obtain⟨f,q,a,d,e,r,t,u,rfl,rfl,rfl,rfl⟩:=h.call (λf a d e=>f=v/\a=o/\d=j/\e={ s with cu:=cu }) (λG k=>by obtain⟨p,g,i,l⟩:=go G k;exact⟨_,p,o,j,_,g,i,l,rfl,rfl,rfl,rfl⟩)
 exact⟨q,r,t,u⟩
def EM(h:PS c o m j s)(cW e)(a:e≠0/\e≠5)(d):cd c o m j s (TA (d+1) tX [pt c.C 0 0,aZ c.ln cW,.int .i64 e] m) (.tuple ⟨[]⟩) (cB s.cu cW e):=XcY h cW e a d
def lJ(h:PS c o m j s)(e)(a:e≠0/\e≠5)(d):cd c o m j s (TA (d+2) Qd [pt c.C 0 0,.int .i64 e] m) (.tuple ⟨[]⟩) (cA c s.cu e):=XoZ h e a d
def K0(h:PS c o m j s)(n:s.cu.pl<c.ws.length){g:aj->Option Rs}(l:∀S,PS c o S j { s with cu:={ s.cu with pl:=s.cu.pl+1 } }->cd c o S j { s with cu:={ s.cu with pl:=s.cu.pl+1 } } (g S) v cu) :
  cd c o m j s (bp (bP (Xe 1 (pt c.C (0+1) 0) (I (s.cu.pl+1:Nat)) m)) λ_ m=>g m) v cu:=by
 obtain⟨p,b,d,a⟩:=h.nr.wF 1 1 (I (s.cu.pl+1:Nat)) (cc c { s.cu with pl:=s.cu.pl+1 }) (uE c s) rfl rfl aW (λi hi=>by have:i=0:=aa;subst this;exact⟨_,rfl⟩) rfl
 rw[h.pC]at b;rw[W8]at d a;have ⟨q,e,f,k⟩:=l p (h.step d a ⟨rfl,rfl,rfl⟩ ⟨aq,h.ok.ee,h.ok.wt,h.ok.il,h.ok.ge⟩);exact⟨q,by rw[b,Xj];exact e,f,a.trans k⟩
def uH(h:PS c o m j s):bin .add true true .int (I s.cu.pl) (.int .i64 1)=some (I (s.cu.pl+1:Nat)):=by have:=h.le;have:=h.wl.len;rw[cz];have e:((s.cu.pl):Int)+1=((s.cu.pl+1:Nat)):=aa;rw[e,wrap64 _ aa]
def qe(h:cH c s.cu=true):s.cu.pl<c.ws.length:=by
 unfold cH at h
 grind
def WV(h:PS c o m j s):0<c.ws.length:=wP.mpr h.wl.ne
def re(b):un .not (.bool b)=some (.bool !b):=bY
def mO(h:PS c o m j s)(d):cd c o m j s (TA (d+2) Qr [pt c.C 0 0] m) (sv (Xa c s.cu).1) (Xa c s.cu).2:=by
 refine h.iB (Xax _ _ _) λG k=>?_;delta Iw C T F E jd jc B N K Y Z U jb ja A D;refine .aI (Fw k d) ?_;unfold Xa;have w:=h.wl.len;cases J:cH c s.cu with
 |false =>
  simp only[re,pJ,X3,X6,dp,dV];have R:=WV h;have ⟨p,t,y,_,_,_,_,V⟩:=k.wl.ix (i:=c.ws.length-1) aa;have e1:bin .sub true true .int (I c.ws.length) (.int .i64 1)=some (I (c.ws.length-1:Nat)):=by rw[kP];have:((c.ws.length:Nat):Int)-1=((c.ws.length-1:Nat):Int):=aa;rw[this,wrap64 _ aa]
  simp only[Xg,X7,X3,k.oJ,k.wl.FH,e1,t,V,Xq];obtain⟨l,Q,f,X,r⟩:=kR [] G (some (2*Kj+1)) xM (v:=.agg ⟨[sv (bG c (c.ws.length-1)).1,I c.ln,I (bG c (c.ws.length-1)).2]⟩) (n:=3) rfl rfl rfl;have W:Wk G j _ l j (aL c s):=⟨f.next,f.low,λx a b e=>f.bQ x a b ar,λb H u=>f.get b H ar,f.lo,λk u=>.inr ⟨k,u,rfl⟩,.inr ⟨λ_ _=>rfl,λ_ h=>h⟩⟩
  have l1:X9 _ 1 (pt _ (0+1+0) 0) l=some _:=Xt r rfl;have l2:X9 _ 1 (pt _ (0+1+1) 0) l=some _:=Xt r rfl;have l0:X9 _ 1 (pt _ (0+0) 0) l=some _:=Xt r rfl;have S:=h.wl.ze _ (jO (vV (i:=c.ws.length-1) aa));have e2:bin .add false true .int (I (bG c (c.ws.length-1)).2) (I (bG c (c.ws.length-1)).1.length)=some (I (py c)):=by grind[cz,py,Int.natCast_add,wrap64]
  have z:Xc Q2 [(0,1),(1,1)] [(0,I _),(1,I (py c))]=some (aZ c.ln _):=aU rfl rfl;simp only[Q,Xj,X3,l1,l2,l0,dw,e2,z];have ⟨O,f1,f2,f3⟩:=EM (k.step (k.nr.same f.next λq L=>f.get _ (k.nr.hi q L) ar) W ⟨rfl,rfl,rfl⟩ k.ok) (py c) 130 ak d;exact⟨O,by simp only[f1,X4];rfl,f2,W.trans f3⟩
 |true =>
  have g:=qe J;simp only[re,iQ,X3,X5,dW,Xg,X7,k.ld1,uH k];refine K0 k g λM P=>?_;obtain⟨p,t,y,V,_⟩:=P.wl.ix g;have e1:bin .sub true true .int (I (s.cu.pl+1:Nat)) (.int .i64 1)=some (I s.cu.pl):=by rw[kP];have:((s.cu.pl+1:Nat):Int)-1=((s.cu.pl:Nat):Int):=aa;rw[this,wrap64 _ aa]
  have l1:X9 _ 1 _ M=some (I (s.cu.pl+1:Nat)):=P.ld1;simp only[X3,P.oJ,l1,e1,t,y,V];exact .ret P _
def bh(c:Cx)(cu:Cu)(w:ai):Bool × Cu:=if cH c cu=true/\(bG c cu.pl).1=w then(true,{ cu with pl:=cu.pl+1 })else(false,cu)
def lN(c:Cx)(cu:Cu)(w:ai):Cu:=if(Xa c cu).1=w then(Xa c cu).2 else cA c (Xa c cu).2 130
def bB(c:Cx)(cu:Cu):ai × Cu:=((Xa c cu).1,if fZ (Xa c cu).1=true then(Xa c cu).2 else cA c (Xa c cu).2 130)
def dG(c:Cx)(cu:Cu):ai × Cu:=if(bh c cu jB).1=true then bB c (bh c cu jB).2 else([],(bh c cu jB).2)
def fL(h:PS c o m j s):(Xa c s.cu).1.length<=65536:=by
 unfold Xa;split
 ·rename_i a;exact(h.wl.ze _ (jO (vV (qe a)))).1
 ·simp
def Fc{b v cu}(a:b=true->cd c o m j s k1 v cu)(d:b=false->cd c o m j s k2 v cu):cd c o m j s (ke (.bool b) k1 k2) v cu:=by
 cases b with
 |true=>exact a rfl
 |false=>exact d rfl
def kF(h:PS c o m j s)(w d):cd c o m j s (TA (d+2) Qp [pt c.C 0 0,sv w] m) (.bool (bh c s.cu w).1) (bh c s.cu w).2:=by
 refine h.iB (Xdn _ _ _ _) λG k=>?_;unfold Jo Qud;refine .aI (Fw k d) ?_;rw[Fj];delta Tv L jc B K Z ja jj A jh;unfold bh;cases e:cH c s.cu with
 |false =>simp;exact .ret k _
 |true =>
  have a:=qe e;obtain⟨p,f,g,V,_⟩:=k.wl.ix a;simp only[dW,true_and,Xg,X7,X3,k.oJ,k.ld1,f,g,aQ,V,Qh,uH k];by_cases b:(bG c s.cu.pl).1=w
  ·rw[bj b,X6,ah b];exact K0 k a λi P=>.ret P _
  ·rw[bJ b,X5,af b];exact .ret k _
def Xtp(h:PS c o m j s)(w d):cd c o m j s (TA (d+3) Iu [pt c.C 0 0,sv w] m) (.tuple ⟨[]⟩) (lN c s.cu w):=by
 refine h.iB (Xbf _ _ _ _) λG k=>?_;delta Iv C E A jp jq;refine .bind (mO k d) λb P=>?_;simp only[uf,X3];unfold lN;refine Fc (λa=>?_) (λa=>?_)
 ·have a:=aT a;rw[af a];exact .bind (lJ P 130 ak d) λe P2=>.ret P2 _
 ·rw[ah (Decidable.not_not.mp (aV a))];exact .ret P _
def nY(h:PS c o m j s)(d):cd c o m j s (TA (d+5) Qo [pt c.C 0 0] m) (sv (bB c s.cu).1) (bB c s.cu).2:=by
 refine h.iB (Xbp _ _ _) λG k=>?_;delta It Qrr C;refine .bind (mO k (d+2)) λe P=>?_;delta Qrq SE C E K A;unfold bB;simp only[XpP _ (aO (fL h) ak) d,X4,re,X3];refine Fc (λa=>?_) (λa=>?_)
 ·have:fZ (Xa c s.cu).1=false:=by grind
  rw[this];exact .bind (lJ P 130 ak _) λf P2=>.ret P2 _
 ·have:fZ (Xa c s.cu).1=true:=by grind
  rw[this];exact .ret P _
def XU(h:PS c o m j s)(d):cd c o m j s (TA (d+6) DW [pt c.C 0 0] m) (sv (dG c s.cu).1) (dG c s.cu).2:=by
 refine h.iB (Xcr _ _ _) λG k=>?_;delta I6 C L K D;refine .bind (kF k _ (d+3)) λb P=>?_;unfold dG;refine Fc (λa=>?_) (λa=>?_)
 ·rw[a,ah rfl];exact .bind (nY P d) λe P2=>.ret P2 _
 ·rw[a,af ak];exact .ret P _
def Mj(h:PS c o m j s)(d):TA (d+1) zR [pt c.C 0 0] m=some (.bool (cH c s.cu),m):=by
 rw[X6n];refine jV ?_ (Fr.refl _ _) rfl;have k:=h.qG m.next;generalize aD m _=G at k;delta G3 Qlm Pj K;simp only[Xg,X7,X3,k.lq,k.oJ,k.ld1,k.wl.FH,dI,Qb,Fj];unfold cH;have:=k.e0;by_cases a:s.cu.e=0
 ·simp_all
 grind
def PS.e1(h:PS c o m j s){e}:∃a,Xe 1 (pt c.C (0+4) 0) (.int .i64 e) m=some a/\WL c a/\NR o a j ((aL c s).set [1] (some (.c [.v c.wv,.v (I s.cu.pl),.v (I (s.cu.line c)),.v (I s.cu.cW),.v (.int .i64 e)]))) /\
  Wk m j (aL c s) a j ((aL c s).set [1] (some (.c [.v c.wv,.v (I s.cu.pl),.v (I (s.cu.line c)),.v (I s.cu.cW),.v (.int .i64 e)]))) /\
  X9 false 1 (pt c.C (0+0) 0) a=some c.wv/\X9 false 1 (pt c.C (0+1) 0) a=some (I s.cu.pl):=by
 obtain⟨a,d,b,f⟩:=h.nr.wF 4 1 (.int .i64 e) [.v _,.v _,.v _,.v _,.v _] (uE c s) rfl rfl aW (λi hi=>by have:i=0:=aa;subst this;exact⟨_,rfl⟩) rfl
 rw[h.pC]at d;have l0:=b.load (y:=0) (NX.aR _ _ _) rfl;have l1:=b.load (y:=1) (NX.aR _ _ _) rfl;rw[h.pC]at l0 l1;exact⟨a,d,h.wl.wk h.nb f,b,f,l0,l1⟩
def PS.e2(h:PS c o m j s){e}(l:e≠0/\e≠5){m1 m3:aj}(k:NR o m3 j ((aL c s).set [1] (some (.c [.v c.wv,.v (I s.cu.pl),.v (I (s.cu.line c)),.v (I s.cu.cW),.v (.int .i64 e)]))))(d:Wk m j (aL c s) m3 j ((aL c s).set [1] (some (.c [.v c.wv,.v (I s.cu.pl),.v (I (s.cu.line c)),.v (I s.cu.cW),.v (.int .i64 e)]))))(cW) :
  ∃a,Xe 2 (pt c.C (0+2) 0) (aZ c.ln cW) m3=some a/\PS c o a j { s with cu:={ s.cu with er:=some (cW,e) } }/\Wk m j (aL c s) a j (aL c { s with cu:={ s.cu with er:=some (cW,e) } }):=by
 obtain⟨a,f,g,b⟩:=k.wF 2 2 (aZ c.ln cW) (cc c { s.cu with er:=some (cW,e) }) (NX.aR _ _ _) rfl rfl aW (λi hi=>by have:i=0\/i=1:=aa;rcases this with rfl|rfl<;>exact⟨_,rfl⟩) rfl
 rw[h.pC]at f;rw[NX.set_set,W8]at g b;exact⟨a,f,h.step g (d.trans b) ⟨rfl,rfl,rfl⟩ ⟨h.le,λx n=>aq,h.ok.wt,h.ok.il,h.ok.ge⟩,d.trans b⟩
def YO(h:1<=n)(a:n<=65536):bin .sub true true .int (I n) (.int .i64 1)=some (I (n-1:Nat)):=by rw[kP];have:((n:Nat):Int)-1=((n-1:Nat):Int):=aa;rw[this,wrap64 _ aa]
def kS(h:PS c o m j s)(b:s.cu.er.isNone=true->1<=s.cu.pl)(e)(u:e≠0/\e≠5)(d):cd c o m j s (TA (d+1) Q3 [pt c.C 0 0,.int .i64 e] m) (.tuple ⟨[]⟩) (cA c s.cu e):=by
 refine h.iB (X5z _ _ _ _) λG k=>?_;delta GV jv E je jc B Y Z jb jk A jq;simp only[Xg,X7,X3,k.lq,dI,Xf];have e0:=k.e0;by_cases a:s.cu.e=0
 ·rw[ah a];have b:=b (e0.mp a);have w:=k.le;have f:=k.wl.len;have hf:cA c s.cu e={ s.cu with er:=some (rv c s.cu,e) }:=by unfold cA cB;rw[ah (e0.mp a)]
  obtain⟨x,l,wl,n,r,l0,l1⟩:=k.e1 (e:=e);obtain⟨p,y,z,_,_,_,V,_⟩:=wl.ix (i:=s.cu.pl-1) aa;obtain⟨g,t,P,W⟩:=k.e2 u (m1:=m) n r (rv c s.cu);have v:(bG c (s.cu.pl-1)).2=rv c s.cu:=by unfold rv;rw[Nat.max_eq_left b]
  simp only[l,Xj,l0,l1,X3,YO b aa,y,z,aQ,V,v];rw[show Xe 2 _ _ x=some g from t,Xj];exact⟨g,rfl,aq,by rw[hf];exact W⟩
 ·rw[af a];have hf:cA c s.cu e=s.cu:=by unfold cA cB;rw[af λq=>a (e0.mpr q)]
  rw[hf];exact .ret k _
def nV(h:PS c o m j s)(d):cd c o m j s (TA (d+1) Qf [pt c.C 0 0] m) (sv (Xa c s.cu).1) (Xa c s.cu).2:=by
 refine h.iB (X6m _ _ _) λG k=>?_;delta G8 T F E jd je jc B N K Y Z U jb ja A D;have e0:=k.e0;have a0:=k.le;have l:=k.wl.len;have hp:=WV k;simp only[Xg,X7,X3,k.lq,k.oJ,k.ld1,k.wl.FH,eg,dI,Xf];unfold Xa cH;by_cases u:s.cu.e=0
 ·rw[af (by simp[u]),e0.mp u,gY];by_cases g:s.cu.pl=c.ws.length
  ·rw[ah (by rw[g]),af (by simp[g])];obtain⟨p,J,R,_,_,_,_,V⟩:=k.wl.ix (i:=c.ws.length-1) aa;obtain⟨w,z,f,n3,y⟩:=kR [] G (some (2*D5+1)) xD (v:=.agg ⟨[sv (bG c (c.ws.length-1)).1,I c.ln,I (bG c (c.ws.length-1)).2]⟩) (n:=3) rfl rfl rfl;have z:Xe 3 (pt G.next 0 0) (.agg ⟨[sv (bG c (c.ws.length-1)).1,I c.ln,I (bG c (c.ws.length-1)).2]⟩) (G.push (.cells xD 0 0 false (some (2*D5+1))))=some w:=z;have W:Wk G j (aL c s) w j (aL c s):=⟨f.next,f.low,λx a b e=>f.bQ x a b ar,λb hb M=>f.get b hb ar,f.lo,λk M=>.inr ⟨k,M,rfl⟩,.inr ⟨λ_ _=>rfl,λ_ h=>h⟩⟩
   have P2:PS c o w j s:=k.step (k.nr.same f.next λq g=>f.get _ (k.nr.hi q g) ar) W ⟨rfl,rfl,rfl⟩ k.ok;obtain⟨t,X,wl,a2,L,_,_⟩:=P2.e1 (e:=130);have a4:G.next≠c.C:=λe=>by
    have:=k.nr.hi [1] (by rw[uE];simp);rw[k.pC]at this
    grind
   have H:t.get G.next=w.get G.next:=L.get _ aa λq g e=>by have:=k.nr.hi q g;omega
   rw[<-H]at y;have l1:X9 false 1 (pt G.next (0+1+0) 0) t=some (I c.ln):=Xt y rfl;have l2:X9 false 1 (pt G.next (0+1+1) 0) t=some (I (bG c (c.ws.length-1)).2):=Xt y rfl;have l0:X9 false 1 (pt G.next (0+0) 0) t=some (sv (bG c (c.ws.length-1)).1):=Xt y rfl;have ht:=k.wl.ze _ (jO (vV (c:=c) (i:=c.ws.length-1) aa));have e2:bin .add false true .int (I (bG c (c.ws.length-1)).2) (I (bG c (c.ws.length-1)).1.length)=some (I (py c)):=by grind[cz,py,Int.natCast_add,wrap64]
   have e3:Xc Q2 [(0,1),(1,1)] [(0,I c.ln),(1,I (py c))]=some (aZ c.ln (py c)):=aU rfl rfl;obtain⟨Q,b1,P,S⟩:=P2.e2 ak (m1:=m) a2 L (py c);have hf:cB s.cu (py c) 130={ s.cu with er:=some (py c,130) }:=by unfold cB;rw[ah (e0.mp u)]
   simp only[YO hp l,X3,J,V,Xq,z,Xj,X,X7,l0,l1,l2,dw,e2,e3];rw[show Xe 2 _ _ t=some Q from b1,Xj];exact⟨Q,rfl,aq,by rw[hf];exact W.trans S⟩
  ·have r:s.cu.pl<c.ws.length:=by omega
   rw[af aa,ah aq];simp only[uH k,X3];refine K0 k r λO P=>?_;obtain⟨p,J,R,V,_⟩:=P.wl.ix r;have l1:X9 _ 1 _ O=some (I (s.cu.pl+1:Nat)):=P.ld1;have e1:=YO (n:=s.cu.pl+1) aa aa;rw[YV]at e1;simp only[X3,P.oJ,l1,e1,J,R,V];exact .ret P _
 ·rw[ah u];have hn:s.cu.er.isNone=false:=by
   cases hh:s.cu.er.isNone with
   |false=>rfl
   |true=>grind
  have hf:cB s.cu (py c) 130=s.cu:=by unfold cB;rw[af aq]
  rw[hn,Bool.false_and,af ak,hf];exact .ret k _
abbrev Tmp:=Nat × Nat × List ae
structure W (c:Cx) (G:Mem) (Q:ay) (J:ao) (o:Nat) (m:Mem) (j:ay) (s:ao) (ts:List Tmp):Prop where
 ps:PS c o m j s
 wk:Wk G Q (aL c J) m j (aL c s)
 wb:c.wb<G.next
 lt:∀t∈ts,G.next<=t.1/\t.1<m.next
 nx:∀t∈ts,∀k,aL c s k≠none->(j k).b≠t.1
 at':∀t∈ts,∃ty,m.get t.1=some (.cells t.2.2 t.2.1 0 false ty)
 nd:(ts.map (·.1)).Nodup
def aK(c:Cx)(G:aj)(Q:ay)(J:ao)(x:Option Rs)(i8:ae->Nat->ay->ao->Prop):Prop:=
 ∃v m1 A' i7 a,x=some (v,m1)/\PS c A' m1 i7 a/\Wk G Q (aL c J) m1 i7 (aL c a)/\i8 v A' i7 a
abbrev jU(o:Nat)(j:ay)(s:ao)(v:ae)(cu:Cu):ae->Nat->ay->ao->Prop:=λv' A' i7 s1=>v'=v/\A'=o/\i7=j/\s1={ s with cu:=cu }
variable {G:Mem}{Q:ay}{J:ao}{ts:List Tmp}{i8:Value->Nat->ay->ao->Prop}
def W.start(h:PS c o m j s):W c m j s o m j s []:=⟨h,Wk.refl _ _ _,h.wl.lt,λ_ h=>(by cases h),λ_ h=>(by cases h),λ_ h=>(by cases h),List.nodup_nil⟩
def cd.yY(h:aK c m j s x (jU o j s v cu)):cd c o m j s x v cu:=by obtain⟨k,e,f,g,i,a,b,d,rfl,rfl,rfl,rfl⟩:=h;exact⟨e,a,b,d⟩
def PS.pw(h:PS c o m j s){b:aj->Option Rs}(a:x=cK m (b (aD m m.next)))(go:∀G,W c G j s o G j s []->aK c G j s (b G) (jU o j s v cu)):cd c o m j s x v cu:=h.iB a λG k=>cd.yY (go G (W.start k))
def W.go(h:W c G Q J o m j s ts){s1}(p:PS c A' m1 i7 s1)(w:Wk m j (aL c s) m1 i7 (aL c s1)):W c G Q J A' m1 i7 s1 ts where
 ps:=p
 wk:=h.wk.trans w
 wb:=h.wb
 lt:=λt ht=>⟨(h.lt t ht).1,dU (h.lt t ht).2 w.next⟩
 nx:=λt ht k hk=>by
  rcases w.nw k hk with q|⟨k0,q1,q2⟩
  ·have:=(h.lt t ht).2;omega
  ·rw[<-q2];exact h.nx t ht k0 q1
 at':=λt ht=>by obtain⟨ty,q⟩:=h.at' t ht;exact⟨ty,by simp_all[w.get,h.lt,h.nx]⟩
 nd:=h.nd
theorem W.push(h:W c G Q J o m j s ts)(z:List ae)(ty):W c G Q J o (m.push (.cells z 0 0 false ty)) j s ((m.next,0,z)::ts):=by
 obtain⟨f,b⟩:=h.ps.nr.push (.cells z 0 0 false ty);have P2:=h.ps.step f b ⟨rfl,rfl,rfl⟩ h.ps.ok;have H:=h.go P2 b;exact{
  ps:=P2
  wk:=H.wk
  wb:=h.wb
  lt:=λt ht=>by
   rcases eF.mp ht with e|e
   ·simp_all[h.wk.next]
   ·exact H.lt t e
  nx:=λt ht k a=>by
   rcases eF.mp ht with e|e
   ·subst e;exact Nat.ne_of_lt (h.ps.nr.hi k a)
   ·exact H.nx t e k a
  at':=λt ht=>by
   rcases eF.mp ht with e|e
   ·subst e;exact⟨ty,pR⟩
   ·exact H.at' t e
  nd:=by show(m.next::ts.map _).Nodup;rw[zl];refine⟨λd=>?_,h.nd⟩;obtain⟨t,ht,e⟩:=mz.mp d;have:=(h.lt t ht).2;omega }
def W.new(h:W c G Q J o m j s ts){k}(g:∀b m1,W c G Q J o m1 j s ((b,0,z)::ts)->aK c G Q J (k (pt b 0 0) m1) i8):aK c G Q J (bp (some (kY T z m)) k) i8:=by grind[Xq,h.push]
def W.bO(h:W c G Q J o m j s ts){parts}(hf:fill (λi=>some (i*sz,sz)) (fH n zero) parts=some cs)(a:sz≠0){k}(g:∀b m1,W c G Q J o m1 j s ((b,0,cs)::ts)->aK c G Q J (k (.slice (some ⟨b,0,some sz⟩) n 1) m1) i8):aK c G Q J (bp (X8 T zero sz n parts m) k) i8:=by
 have e:X8 T zero sz n parts m=some (.slice (some ⟨m.next,0,some sz⟩) n 1,m.push (.cells cs 0 0 false (some (2*T)))):=by simp[Em,xO,hf,af,a]
 rw[e,X4];exact g _ _ (h.push cs _)
def W.bH{l1 l2:List Tmp}(h:W c G Q J o m j s (l1++(b,r,cs)::l2))(hn:m1.next=m.next)(H:m1.low=min m.low b)(p:∀g,g<m.next->g≠b->m1.get g=m.get g)(F:m1.get b=some (.cells za6 r' 0 false ty)) :
  W c G Q J o m1 j s (l1++(b,r',za6)::l2):=by
 have A:(b,r,cs)∈l1++(b,r,cs)::l2:=ar;have C:G.next<=b/\b<m.next:=h.lt _ A;have u:∀k,aL c s k≠none->(j k).b≠b:=h.nx _ A;have v:c.wb≠b:=by grind[h.wb]
 have l:=h.nd;rw[uY,lx,YW,zl]at l;have f:∀t∈l1++(b,r',za6)::l2,t=(b,r',za6)\/(t∈l1++(b,r,cs)::l2/\t.1≠b):=by
  intro t i;rcases nH.mp i with e|e
  ·exact .inr ⟨List.mem_append_left _ e,λe2=>l.2.2 t.1 (M6 e) b br e2⟩
  ·grind
 have ⟨y,q,ws,fro,ro,ty2,g1,g2,g3⟩:=h.ps.wl.at';exact{
  ps:={ h.ps with
   nr:=h.ps.nr.same aa λk z=>p _ (h.ps.nr.hi k z) (u k z)
   wl:={ h.ps.wl with
    lt:=by rw[hn];exact h.ps.wl.lt
    at':=⟨y,q,ws,fro,ro,ty2,g1,by rw[p _ h.ps.wl.lt v];exact g2,g3⟩ } }
  wk:={
   next:=aa
   low:=by have:=h.wk.low;omega
   bQ:=λB n x E=>by have:=h.wk.bQ B n x E;omega
   get:=λg n x=>by rw[p g aa aa];exact h.wk.get g n x
   lo:=λg n=>by
    rcases h.wk.lo g n with q|q
    ·omega
    grind
   nw:=h.wk.nw
   kp:=by
    rcases h.wk.kp with⟨k,a,d⟩|q
    ·grind
    grind }
  wb:=h.wb
  lt:=λt i=>by
   rcases f t i with e|⟨e,_⟩
   ·grind
   ·rw[hn];exact h.lt t e
  nx:=λt i=>by
   rcases f t i with e|⟨e,_⟩
   ·grind
   ·exact h.nx t e
  at':=λt i=>by
   rcases f t i with e|⟨e,e2⟩
   ·grind
   ·obtain⟨w,D⟩:=h.at' t e;exact⟨w,by rw[p _ (h.lt t e).2 e2];exact D⟩
  nd:=by grind }
def W.aC{l1 l2:List Tmp}(h:W c G Q J o m j s (l1++(b,r,cs)::l2))(hn:g8.cells.size=n)(f:g8.cells.toList.all one=true)(l:y+n<=cs.length)(i:cs.take y++g8.cells.toList++cs.drop (y+n)=za6){k:aj->Option Rs}(g:∀m1,W c G Q J o m1 j s (l1++(b,r,za6)::l2)->aK c G Q J (k m1) i8):aK c G Q J (bp (bP (Xe n (pt b y r) g8 m)) λ_ m=>k m) i8:=by obtain⟨ty,q⟩:=h.at' (b,r,cs) ar;obtain⟨m1,d,a⟩:=iJ (y:=y) (n:=n) (v:=g8) q hn c7 l f i;rw[d,Xj];refine g m1 (h.bH (ty:=ty) (by rw[a.next,Mem.ij]) (by rw[a.low,Mem.kI]) (λp _ e=>by rw[a.get,Mem.aX,af (bq e)]) ?_);rw[a.get,Mem.aX,ah rfl]
def W.XeN{l1 l2:List Tmp}(h:W c G Q J o m j s (l1++(b,r,cs)::l2))(hn:g8.cells.size=n)(f:g8.cells.toList.all one=true)(i:y+n<=cs.length)(g:cs.take y++g8.cells.toList++cs.drop (y+n)=za6) :
  ∃m1,Xe n (pt b y r) g8 m=some m1/\W c G Q J o m1 j s (l1++(b,r,za6)::l2):=by
 obtain⟨ty,q⟩:=h.at' (b,r,cs) ar;obtain⟨m1,d,a⟩:=iJ (y:=y) (n:=n) (v:=g8) q hn c7 i f g;refine⟨m1,d,h.bH (ty:=ty) (by rw[a.next,Mem.ij]) (by rw[a.low,Mem.kI]) (λk _ e=>by rw[a.get,Mem.aX,af (bq e)]) ?_⟩;rw[a.get,Mem.aX,ah rfl]
def W.ld(h:W c G Q J o m j s ts)(a:(b,r,cs)∈ts)(d:cs[y]?=some g8):X9 false 1 (pt b y r) m=some g8:=by obtain⟨ty,q⟩:=h.at' _ a;exact Xt q d
def W.fi(h:W c G Q J o m j s ts)(a:(b,r,cs)∈ts)(d:y+n<=cs.length)(e:(cs.drop y).take n=vs):X9 true n (pt b y r) m=some (.agg ⟨vs⟩):=by obtain⟨ty,q⟩:=h.at' _ a;exact Xw q d e
def W.sub(h:W c G Q J o m j s ts){b}(d:List.Sublist b ts):W c G Q J o m j s b:=
 { h with
  lt:=λt a=>h.lt t (d.subset a)
  nx:=λt a=>h.nx t (d.subset a)
  at':=λt a=>h.at' t (d.subset a)
  nd:=List.Nodup.sublist (d.map _) h.nd }
def W.tl{t}(h:W c G Q J o m j s (t::ts)):W c G Q J o m j s ts:=h.sub (List.sublist_cons_self _ _)
def W.call{zb2}(h:W c G Q J o m j { s with cu:=zb2 } ts){g8 w}(a:cd c o m j { s with cu:=zb2 } g8 w cu){k}(g:∀m1,W c G Q J o m1 j { s with cu:=cu } ts->aK c G Q J (k w m1) i8):aK c G Q J (bp g8 k) i8:=by obtain⟨m1,b,d,e⟩:=a;rw[b,X4];exact g m1 (h.go d e)
def W.ret(h:W c G Q J o m j s ts){w:ae}(q:i8 w o j s):aK c G Q J (some (w,m)) i8:=⟨w,m,o,j,s,rfl,h.ps,h.wk,q⟩
def W.ki(h:W c G j s o m j { s with cu:=cu } ts):aK c G j s (some (v,m)) (jU o j s v cu):=h.ret ⟨rfl,rfl,rfl,rfl⟩
def Xh{b}(a:b=true->aK c G Q J k1 i8)(d:b=false->aK c G Q J k2 i8):aK c G Q J (ke (.bool b) k1 k2) i8:=by
 cases b with
 |true=>exact a rfl
 |false=>exact d rfl
def vT(g8)(m:aj):(ob (ob (some g8) λv=>ob (some []) λl=>some (v::l)) λl=>some (bZ l,m))=some (g8,m):=aU rfl rfl
def W.sl(h:W c G Q J o m j s ts)(a:(b,0,ws.map sv)∈ts):SL m (.slice (some ⟨b,0,some 1⟩) ws.length 1) ws:=by
 obtain⟨ty,q⟩:=h.at' _ a;refine⟨b,0,1,ws.map sv,0,false,ty,rfl,(h.lt _ a).2,q,ar,λi w d=>?_⟩
 grind
def de(w:ai):List ai->Nat->Option Nat
 |[],_=>none
 |x::l,i=>if w=x then some i else de w l (i+1)
def aP(c:Cx)(cu:Cu)(l:List ai):Nat × Cu:=match de (Xa c cu).1 l 0 with|some i=>(i,(Xa c cu).2)|none=>(0,cA c (Xa c cu).2 130)
def fU(y:Option Nat):ae:=match y with|some i=>I i|none=>.int .i64 (-1)
def Xhq{v ws m}(h:SL m v ws)(hn:ws.length<=65536)(w M'):∀n i f,i+n=ws.length->n<f->zO M' f (I i) (I ws.length) (sv w) v m=some (fU (de w (ws.drop i) i),m)
 |0,i,f+1,e,hf=>by have:i=ws.length:=aa;subst this;unfold zO;delta E B K jt ja A ji;simp only[Qb,X3,j1,j4,X5,FY];trivial
 |n+1,i,f+1,e,hf=>by
  have hi:i<ws.length:=aa;have ⟨p,c,d⟩:=h.at (dX hi);have hd:=mB hi;have b:decide (((i):Int)<((ws.length:Nat)))=true:=bj aa;unfold zO;delta E B K jt ja A ji;simp only[Qb,X3,b,X6,c,d,Qh];rw[hd];unfold de;by_cases a:w=ws[i]
  ·rw[bj a,X6,ah a];rfl
  ·rw[bJ a,X5,af a];have e1:bin .add true true .int (I i) (.int .i64 1)=some (I (i+1:Nat)):=by
    grind[cz,wrap64]
   simp only[e1,X3];exact Xhq h hn w M' n _ f aa aa
def XqG{v m}(h:SL m v ws)(hn:ws.length<=65536)(w d):TA (d+1) N0 [v,sv w] m=some (fU (de w ws 0),m):=by
 rw[X4e];refine jV ?_ (Fr.refl _ _) ?_
 ·have k:SL (aD m m.next) v ws:=h;delta GB N8 N9 N A;simp only[k.len,X3];have:=Xhq k hn w (aH d) ws.length 0 18446744073709551616 aa aa
  grind
 ·cases de w ws 0<;>rfl
def PS.Fx(h:PS c o m j s){b:aj->Option Rs}(g:aK c (aD m m.next) j s (b (aD m m.next)) i8):aK c m j s (cK m (b (aD m m.next))) i8:=by obtain⟨v,t,e,f,r,i,a,k,l⟩:=g;obtain⟨n,p,q,d⟩:=h.nr.call i a.nr k;exact⟨v,n,e,f,r,p,h.step q d ⟨by rw[h.pP,a.pP],by rw[h.pC,a.pC],by rw[h.pO,a.pO]⟩ a.ok,d,l⟩
def mK(c:Cx)(m:aj)(j:ay)(s:ao)(v:ae)(ws:List ai):Prop:=
 ∃b y r cs a ro ty,v=.slice (some ⟨b,y,some 1⟩) ws.length r/\b<m.next/\(∀k,aL c s k≠none->(j k).b≠b)/\m.get b=some (.cells cs (r / 2) a ro ty)/\y+ws.length<=cs.length/\∀i w,ws[i]?=some w->cs[y+i]?=some (sv w)
def mK.sl{v}(h:mK c m j s v ws):SL m v ws:=by obtain⟨b,y,r,cs,a,ro,ty,d,e,i,f,g⟩:=h;exact⟨b,y,r,cs,a,ro,ty,d,e,f,g⟩
theorem mK.wk{v}(h:mK c m j s v ws){e}(w:Wk m j (aL c s) m1 i7 (aL c e)):mK c m1 i7 e v ws:=by
 obtain⟨b,y,r,cs,a,ro,ty,f,d,g,i,l⟩:=h;refine⟨b,y,r,cs,a,ro,ty,f,dU d w.next,λk n=>?_,by rw[w.get _ d g];exact i,l⟩;rcases w.nw k n with q|⟨o,p,t⟩
 ·omega
 ·grind
def W.iE(h:W c G Q J o m j s ts)(a:(b,0,ws.map sv)∈ts):mK c m j s (.slice (some ⟨b,0,some 1⟩) ws.length 1) ws:=by
 obtain⟨ty,q⟩:=h.at' _ a;refine⟨b,0,1,ws.map sv,0,false,ty,rfl,(h.lt _ a).2,h.nx _ a,q,ar,λi w d=>?_⟩
 grind
def qj(h:PS c o m j s){v}(e:mK c m j s v ws)(hn:ws.length<=65536)(d):cd c o m j s (TA (d+3) nK [pt c.C 0 0,v] m) (I (aP c s.cu ws).1) (aP c s.cu ws).2:=by
 rw[Xcm];refine cd.yY (h.Fx ?_);have k:=W.start (h.qG m.next);have g:mK c (aD m m.next) j s v ws:=e;delta DV Qt7 C;refine k.call (mO k.ps d) λl a=>?_;simp only[XqG (g.wk a.wk).sl hn _ _,X4];delta Qt6 To C E B K A;unfold aP;cases de (Xa c s.cu).1 ws 0 with
 |none =>
  have e1:bin .lss true true .int (fU none) (.int .i64 0)=some (.bool true):=by rfl
  have e2:wy (fU none) (.int .i64 0)=some (I 0):=aU rfl rfl;simp only[e1,X3,X6];refine a.call (lJ a.ps 130 ak d) λn f=>?_;exact f.ki
 |some i =>
  have e1:bin .lss true true .int (fU (some i)) (.int .i64 0)=some (.bool false):=by rfl
  have e2:wy (fU (some i)) (.int .i64 0)=some (I i):=by rfl
  exact a.ki
def nn(b:UInt8):Bool:=decide (48<=b.toNat)&&decide (b.toNat<=57)
def pe(s:ai):Bool:=decide (s≠[])&&s.all nn&&(decide (s=[48])||decide (s.head?≠some 48))
def Xb(c:Cx)(cu:Cu)(lo:Int)(hi:Nat):Int × Cu:=
 if pe (Xa c cu).1=true then((tx (num hi (Xa c cu).1):Int),if(num hi (Xa c cu).1).isSome=true/\lo<=(tx (num hi (Xa c cu).1):Int)then(Xa c cu).2 else cA c (Xa c cu).2 131)else(0,cA c (Xa c cu).2 130)
def Xy(c:Cx)(cu:Cu):Nat × Cu:=match nf (Xa c cu).1 with|some a=>(a,(Xa c cu).2)|none=>(0,cA c (Xa c cu).2 130)
def ll(c:Cx)(cu:Cu):Nat × Cu:=((Xy c cu).1,if(Xy c cu).1=0 then cA c (Xy c cu).2 131 else(Xy c cu).2)
end Go.Ab.Sh
namespace Go.Ab
open Go Go.Lib
def XaJ(b n i)(h:i<n)(k):vC n 1 (pt b 0 0) (.int k (i:Int))=some (pt b i 0):=by show(if(0:Int)<=(i:Int)&&(i:Int)<(n:Int)then some (Value.pointer (some ⟨b,0+(i:Int).toNat*1,some 0⟩))else none)=_;have a:(decide ((0:Int)<=(i:Int))&&decide ((i:Int)<(n:Int)))=true:=cF;rw[ah a];simp
end Go.Ab
namespace Go.Ab.Sh
open Go Go.Ab Go.Lib
def qp:ai:=[48,49,50,51,52,53,54,55,56,57]
def iD(k:Nat):List ae:=(List.range 256).map λi=>.bool (decide (48<=i)&&decide (i<48+k))
def X81(k):(iD k).length=256:=bY
def Bf(k i)(h:i<256):(iD k)[i]?=some (.bool (decide (48<=i)&&decide (i<48+k))):=by unfold iD;rw[gX,List.getElem?_range h];rfl
def Xto(k)(h:k<10):(iD k).take (48+k)++[.bool true]++(iD k).drop (48+k+1)=iD (k+1):=by
 apply fk;intro i;have e1:((iD k).take (48+k)).length=48+k:=by simp[X81];omega
 rw[FA,e1];by_cases c:i<48+k
 ·rw[ah c,jP,ah c,Bf _ _ aa,Bf _ _ aa];congr 3;simp only[gW];omega
 ·rw[af c];by_cases d:i<48+k+[Value.bool true].length
  ·have:i=48+k:=by grind
   subst this;rw[ah d,pK,Bf _ _ aa];have a:decide (48<=48+k)=true:=bj aa;have b:decide (48+k<48+(k+1))=true:=bj aa;rw[a,b];rfl
  ·have f:48+k+1<=i:=by grind
   rw[af d,lz,show 48+k+1+(i-(48+k) - [Value.bool true].length)=i by simp;omega];by_cases e:i<256
   ·rw[Bf _ _ e,Bf _ _ e];congr 3;simp only[gW];omega
   ·rw[zk Cn,zk Cn]
def XgN:∀k,k<10->(qp[k]?).map UInt8.toNat=some (48+k):=ak
def Xno(k):(iD k).all one=true:=by rfl
def Xgm(M' b B ty)(hB:B<=b):∀n k f (m:aj),k+n=10->n<f->m.get b=some (.cells (iD k) 0 0 false ty) ->
  ∃S,zZ M' f (I k) (sv qp) (pt b 0 0) m=some (.tuple ⟨[.agg ⟨iD 10⟩,.bool true]⟩,S)/\Fb B m S
 |0,k,f+1,m,e,hf,a=>by
  have:k=10:=aa;subst this;obtain⟨S,k1,k2⟩:=iJ (y:=0) (n:=256) (v:=.agg ⟨iD 10⟩) (c':=iD 10) a bY c7 Cn (Xno 10) (by rfl)
  have c:S.get b=some (.cells (iD 10) 0 0 false ty):=by rw[k2.get,Mem.aX,ah rfl]
  have l1:X9 true 256 (pt b 0 0) m=some (.agg ⟨iD 10⟩):=Xw a Cn bY;have l2:X9 true 256 (pt b 0 0) S=some (.agg ⟨iD 10⟩):=Xw c Cn bY;refine⟨S,?_,((Fb.refl B _).put _ hB).jL k2⟩;unfold zZ;delta E jd B N Y jl ja jj A ji jh;have e1:bin .lss false true .int (I (10:Nat)) (.int .i64 ((qp.length:Nat):Int))=some (.bool false):=bY;simp only[dw,X3,e1,X5];delta QM jd jl jh;simp only[l1,X3,k1,Xj,l2];rfl
 |n+1,k,f+1,m,e,hf,a=>by
  have d:k<10:=aa;have hd:k<qp.length:=d;have l:(qp[k]).toNat=48+k:=by have:=XgN k d;rw[dX hd]at this;exact pM this
  obtain⟨S,k1,k2,q,g,r⟩:=VN a (y:=48+k) (.bool true) rfl rfl Cn hB;rw[Xto k d]at g;obtain⟨o,j,g2⟩:=Xgm M' b B ty hB n (k+1) f S aa aa g;refine⟨o,?_,k2.trans g2⟩;unfold zZ;delta E jd B N Y jl ja jj A ji jh;have e1:bin .lss false true .int (I k) (.int .i64 ((qp.length:Nat):Int))=some (.bool true):=by grind[Qb,decide_eq_true]
  have e2:Xi (sv qp) (I k)=some (.int .u8 ((48+k:Nat):Int)):=by rw[iu _ _ _ hd,l]
  have h:bin .geq true true .int (.int .u8 ((48+k:Nat):Int)) (.int .u8 128)=some (.bool false):=by grind[sF,decide_eq_false]
  have e5:bin .add true true .int (I k) (.int .i64 1)=some (I (k+1:Nat)):=by grind[cz,wrap64]
  simp only[dw,X3,e1,X6,e2,h,X5,XaJ b 256 (48+k) aa .u8,k1,Xj,e5];exact j
def Xwf(n):refs n 8 (.tuple ⟨[.agg ⟨iD 10⟩,.bool true]⟩)=true:=by kernel_rfl
def XAb:xF=iD 0:=rfl
def XpX(d m):TA (d+1) HA [sv qp] m=some (.tuple ⟨[.agg ⟨iD 10⟩,.bool true]⟩,m):=by
 rw[X8k];have e:((aD m m.next).push (.cells xF 0 0 false (some (2*xE+1)))).get (aD m m.next).next=some (.cells (iD 0) 0 0 false (some (2*xE+1))):=by rw[Mem.bV,ah rfl,XAb]
 obtain⟨a,c,g2⟩:=Xgm (aH d) _ m.next _ aY 10 0 18446744073709551616 _ aa aa e;have b:Fb m.next (aD m m.next) ((aD m m.next).push (.cells xF 0 0 false (some (2*xE+1)))):=Fb.push _ aY;refine cD (m1:=a) ?_ (b.trans g2) (Xwf _);delta HB QN QO U A;rw[Xq];exact c
def rn(b:UInt8):Bool:=decide (48<=b.toNat)&&decide (b.toNat<58)
def XcU(b ty m)(a:m.get b=some (.cells (iD 10) 0 0 false ty))(x d):TA (d+1) GF [pt b 0 0,.int .u8 (x.toNat:Int)] m=some (.bool (rn x),m):=by rw[X53];refine cD ?_ (.refl _ _) rfl;have a:(aD m m.next).get b=some _:=a;have c:x.toNat<256:=x.toNat_lt;have l1:X9 _ 1 _ _=some (.bool (rn x)):=Xt a (Bf 10 _ c);delta GG X B K;simp only[Xg,X3,XaJ b 256 _ c .u8,l1]
def ou(s:ai):ai:=(s.reverse.dropWhile rn).reverse
def wq(s:ai):ai:=s.dropWhile rn
def Xqv(l x):ou (l++[x])=if rn x=true then ou l else l++[x]:=by
 unfold ou;rw[List.reverse_append];show(List.dropWhile _ (x::l.reverse)).reverse=_;rw[zm]
 grind
def Xgn(b ty)(m:aj)(a:m.get b=some (.cells (iD 10) 0 0 false ty))(d):∀n (s:ai) f,s.length=n->n<=65536->n<f->De (aH (d+1)) f (sv s) (pt b 0 0) m=some (sv (ou s),m)
 |0,s,f+1,e,g,hf=>by have:s=[]:=oQ e;subst this;trivial
 |n+1,s,f+1,e,g,hf=>by
  have h:s=s.take n++[s[n]]:=by have:=List.take_append_drop n s;rw[mB aa,rS aa]at this;exact this.symm
  have e1:bin .gtr true true .int (.int .i64 (s.length)) (.int .i64 0)=some (.bool true):=by rw[iT,bj aa]
  have e2:bin .sub true true .int (.int .i64 (s.length)) (.int .i64 1)=some (I n):=by rw[kP];have:(s.length:Int)-1=((n:Nat):Int):=aa;rw[this,wrap64 _ aa]
  have c:Xi _ (I n)=some _:=iu s _ n aa;unfold De;delta C E B N A;simp only[dw,X3,e1,X6,e2,c,XcU b ty m a _ d,X4,re,EA s n aa];have i:ou s=if rn s[n]=true then ou (s.take n)else s:=by have:=Xqv (s.take n) s[n];rwa[<-h]at this
  rw[i];cases hd:rn s[n]with
  |true =>exact Xgn b ty m a d n _ f cF aa aa
  |false =>trivial
def Xgs(b ty)(m:aj)(a:m.get b=some (.cells (iD 10) 0 0 false ty))(d):∀(s) f,s.length<=65536->s.length<f->Dj (aH (d+1)) f (sv s) (pt b 0 0) m=some (sv (wq s),m)
 |[],f+1,c,hf=>by rfl
 |x::s,f+1,c,hf=>by
  simp only[iq]at c hf;have e1:bin .gtr true true .int (.int .i64 ((x::s).length)) (.int .i64 0)=some (.bool true):=bY;have e:Xi _ (.int _ 0)=some (.int .u8 (x.toNat)):=iu (x::s) .i64 0 ar;have g:gH _ (some (.int _ 1)) _=some (sv s):=XgY (x::s) 1 ar 1 rfl;unfold Dj;delta C E B N A;simp only[dw,X3,e1,X6,e,XcU b ty m a _ d,X4,re,g];unfold wq;rw[zm];cases hd:rn x with
  |true =>exact Xgs b ty m a d s f aa aa
  |false =>trivial
def Xsy(s):(ou s).length<=s.length:=by
 unfold ou;have:=(List.dropWhile_sublist rn (l:=s.reverse)).length_le
 grind
def XqL(b ty m)(a:m.get b=some (.cells (iD 10) 0 0 false ty))(s)(c:s.length<=65536)(d):TA (d+2) Ox [sv s,pt b 0 0] m=some (sv (ou s),m):=by rw[X7a];refine cD ?_ (.refl _ _) rfl;exact Xgn b ty (aD m m.next) a d _ s 18446744073709551616 rfl c aa
def XqK(b ty m)(a:m.get b=some (.cells (iD 10) 0 0 false ty))(s)(c:s.length<=65536)(d):TA (d+2) Hs [sv s,pt b 0 0] m=some (sv (wq s),m):=by rw[X7x];refine cD ?_ (.refl _ _) rfl;exact Xgs b ty (aD m m.next) a d s 18446744073709551616 c aa
def XqJ(s:ai)(a:s.length<=65536)(f:s≠[])(d m):TA (d+3) Tz [sv s,sv qp] m=some (sv (wq (ou s)),m):=by
 rw[Xgh];obtain⟨b,g,h,k,c⟩:=kR [] (aD m m.next) (some (2*xE+1)) xF (v:=.agg ⟨iD 10⟩) (n:=256) rfl bY (Xno 10);refine jV ?_ h rfl;delta JE Qx8 TD Qx9 TE C L E B N K Y U jg jk jj A P jh D;have e1:bin .eql true true .str (sv s) (.string ⟨#[]⟩)=some (.bool false):=by show bin .eql true true .str (sv s) (sv [])=_;rw[Qh,bJ f]
 have e2:bin .eql true true .str (sv qp) (.string ⟨#[]⟩)=some (.bool false):=by show bin .eql true true .str (sv qp) (sv [])=_;rfl
 have e:bin .eql true true .int (.int .i64 ((qp.length:Nat))) (.int .i64 1)=some (.bool false):=bY;simp only[e1,e2,X3,X5,dw,e,XpX (d+1) (aD m m.next),X4,dy,dK];rw[Xq];simp only[g,Xj,X6,XqL _ _ b c s a d,XqK _ _ b c _ (aO (Xsy s) a) d,X4]
def XgQ(x):rn x=nn x:=by
 unfold rn nn
 grind
def KE(p):∀l:ai,l.dropWhile p=[]↔l.all p=true
 |[]=>ar
 |x::l=>by
  rw[zm,km];cases h:p x with
  |true=>exact KE p l
  |false=>simp
def Xy1(s):wq (ou s)=[]↔s.all nn=true:=by
 unfold wq ou;rw[funext XgQ,KE,YX];constructor
 ·intro h;have a:(s.reverse.dropWhile nn)=[]:=by
   cases d:s.reverse.dropWhile nn with
   |nil=>rfl
   |cons b l =>
    have e:nn b=false:=by have:=List.head_dropWhile_not nn (l:=s.reverse) aq;simpa[d]using this
    grind
  rwa[KE,YX]at a
 ·intro h;have a:(s.reverse.dropWhile nn)=[]:=by rw[KE,YX];exact h
  grind
def XpI(s)(j:s.length<=65536)(d m):TA (d+5) TY [sv s] m=some (.bool (pe s),m):=by
 rw[Xmj];refine cD ?_ (.refl _ _) rfl;generalize aD m _=G;delta JZ Qzq Ei C E B K jj A P jh D;unfold pe;have e1:bin .neq true true .str (sv s) (.string ⟨#[]⟩)=some (.bool (decide (s≠[]))):=by show bin .neq true true .str (sv s) (sv [])=_;rw[uf]
 rw[e1,X3];by_cases a:s=[]
 ·rw[bJ aq,X5];rfl
 ·rw[bj a,X6,gY];have r:TA (d+4) _ [sv s,.string ⟨#[48,49,50,51,52,53,54,55,56,57]⟩] G=_:=XqJ s j a _ G;have e2:bin .eql true true .str (sv (wq (ou s))) (.string ⟨#[]⟩)=some (.bool (s.all nn)):=by
   show bin .eql true true .str (sv (wq (ou s))) (sv [])=_;rw[Qh];have:=Xy1 s;cases i:s.all nn with
   |true=>grind
   |false=>grind
  simp only[r,X4,e2,X3];cases i:s.all nn with
  |false =>trivial
  |true =>
   rw[X6,gY];have f:bin .eql true true .str (sv s) (.string ⟨#[48]⟩)=some (.bool (decide (s=[48]))):=by show bin .eql true true .str (sv s) (sv [48])=_;rw[Qh]
   rw[f,X3];by_cases b:s=[48]
   ·rw[bj b,X6,Bool.true_or]
   ·rw[bJ b,X5,Bool.false_or];have c:=wP.mpr a;have g:Xi _ (.int _ 0)=some _:=iu s .i64 0 c;rw[g,X3,eg,X3];congr 3;simp only[gW];rw[YY,dX c];constructor
    ·intro h e;simp_all
    ·intro h e;exact h (by congr 1;exact j3.mp aq)
def MG:ai:=[0,1,2,2,3,3,3,3,4,4,4,4,4,4,4,4,5,5,5,5,5,5,5,5,5,5,5,5,5,5,5,5,6,6,6,6,6,6,6,6,6,6,6,6,6,6,6,6,6,6,6,6,6,6,6,6,6,6,6,6,6,6,6,6,7,7,7,7,7,7,7,7,7,7,7,7,7,7,7,7,7,7,7,7,7,7,7,7,7,7,7,7,7,7,7,7,7,7,7,7,7,7,7,7,7,7,7,7,7,7,7,7,7,7,7,7,7,7,7,7,7,7,7,7,7,7,7,7,8,8,8,8,8,8,8,8,8,8,8,8,8,8,8,8,8,8,8,8,8,8,8,8,8,8,8,8,8,8,8,8,8,8,8,8,8,8,8,8,8,8,8,8,8,8,8,8,8,8,8,8,8,8,8,8,8,8,8,8,8,8,8,8,8,8,8,8,8,8,8,8,8,8,8,8,8,8,8,8,8,8,8,8,8,8,8,8,8,8,8,8,8,8,8,8,8,8,8,8,8,8,8,8,8,8,8,8,8,8,8,8,8,8,8,8,8,8,8,8,8,8,8,8,8,8,8,8]
def len8(n:Nat):Nat:=((MG[n%256]?).getD 0).toNat
def yH(n:Nat):Nat:=if 65536<=n then(if 256<=n / 65536 then 24+len8 (n / 65536 / 256)else 16+len8 (n / 65536))else if 256<=n then 8+len8 (n / 256)else len8 n
theorem Xvx(n):len8 n<=8:=by have:∀i,i<256->((MG[i]?).getD 0).toNat<=8:=ak;exact this _ (kM _ aa)
def Xxk(n)(h:n<4294967296):yH n<=32:=by grind[yH,Xvx]
def qw(n:Nat):Nat:=32-yH n
def mZ(m:Nat):Option Nat:=if 4294967295-(2^(32-qw (4294967295-m))-1)=m then some (qw (4294967295-m))else none
def yA(y:Option Nat):ae:=match y with|some n=>.tuple ⟨[I n,I 0]⟩|none=>.tuple ⟨[I 0,I 10]⟩
end Go.Ab.Sh
namespace Go.Ab
open Go Go.Lib
def WK(a:Nat)(h:a<4294967296):un .xor (.int .u32 (a:Int))=some (.int .u32 ((4294967295-a:Nat):Int)):=by
 show some (Value.int _ (IntKind.u32.wrap ((BitVec.ofInt 32 (4294967295:Int) ^^^ BitVec.ofInt 32 (a:Int)).toNat)))=_;have e:(BitVec.ofInt 32 (4294967295) ^^^ BitVec.ofInt 32 (a)).toNat=4294967295-a:=by have e1:BitVec.ofInt 32 (4294967295:Int)=BitVec.allOnes 32:=ak;have e2:BitVec.ofInt 32 (a:Int)=BitVec.ofNat 32 a:=zh _ _;rw[e1,e2,BitVec.allOnes_xor,BitVec.toNat_not,zi,tK aa]
 rw[e,IntWalk.u32_in _ aa]
def Wn(c g)(a k:Nat)(b:a<4294967296)(d:k<=32):bin .shr c g .int (.int .u32 (a:Int)) (.int .u64 (k:Int))=some (.int .u32 ((a / 2^k:Nat):Int)):=by
 rw[lH];show(if((k):Int)<0 then none else some (Value.int _ ((a:Int).fdiv (2^(min _ 32)))))=_
 grind
end Go.Ab
namespace Go.Ab.Sh
open Go Go.Ab Go.Lib
variable {a E':Nat}{b:Int}{l:List ai}{w:Bool}
def XgL(n):Xi (sv MG) (.int .u8 ((n%256:Nat):Int))=some (.int .u8 (len8 n:Int)):=by
 have h:n%256<MG.length:=kM _ ak;rw[iu _ _ _ h];unfold len8
 grind
def Lt(M')(k n:Nat)(a:k<=24)(m:aj):JC M' (I k) (.int .u32 (n:Int)) m=some (I (k+len8 n:Nat),m):=by
 delta JC H B K D;have e0:IntKind.u8.wrap (n)=((n%256:Nat)):=by rfl
 have e1:=XgL n;have e1:Xi (.string ⟨#[0,1,2,2,3,3,3,3,4,4,4,4,4,4,4,4,5,5,5,5,5,5,5,5,5,5,5,5,5,5,5,5,6,6,6,6,6,6,6,6,6,6,6,6,6,6,6,6,6,6,6,6,6,6,6,6,6,6,6,6,6,6,6,6,7,7,7,7,7,7,7,7,7,7,7,7,7,7,7,7,7,7,7,7,7,7,7,7,7,7,7,7,7,7,7,7,7,7,7,7,7,7,7,7,7,7,7,7,7,7,7,7,7,7,7,7,7,7,7,7,7,7,7,7,7,7,7,7,8,8,8,8,8,8,8,8,8,8,8,8,8,8,8,8,8,8,8,8,8,8,8,8,8,8,8,8,8,8,8,8,8,8,8,8,8,8,8,8,8,8,8,8,8,8,8,8,8,8,8,8,8,8,8,8,8,8,8,8,8,8,8,8,8,8,8,8,8,8,8,8,8,8,8,8,8,8,8,8,8,8,8,8,8,8,8,8,8,8,8,8,8,8,8,8,8,8,8,8,8,8,8,8,8,8,8,8,8,8,8,8,8,8,8,8,8,8,8,8,8,8,8,8,8,8,8,8]⟩) (.int .u8 ((n%256:Nat):Int))=_:=e1;have b:=Xvx n;have e2:bin .add false true .int (I k) (.int .i64 (len8 n))=some (I (k+len8 n:Nat)):=by rw[cz];have:(k:Int)+(len8 n:Int)=((k+len8 n:Nat):Int):=aa;rw[this,wrap64 _ aa]
 simp only[dS,X4,e0,e1,X3,wrap64 _ (show len8 n<9223372036854775808 by omega),e2]
def XoP(n:Nat)(h:n<4294967296)(d m):TA (d+1) Si [.int .u32 (n:Int)] m=some (I (yH n),m):=by
 rw[Xd8];refine cD ?_ (.refl _ _) rfl;generalize aD m _=G;delta Jq Que Tw E B ja A;unfold yH;simp only[sF,X3,Xf];have b:∀n,n<4294967296->bin _ true true _ _ (.int _ 16)=some (.int _ ((n / 65536:Nat))):=λn h=>Wn _ _ n 16 h aa;have g:∀n,n<4294967296->bin _ true true _ _ (.int _ 8)=some (.int _ ((n / 256:Nat))):=λn h=>Wn _ _ n 8 h aa;have c:∀k:Nat,k<=16->bin _ true true _ (I k) _=some (I (k+8:Nat)):=λk i=>by rw[cz];have:(k:Int)+8=((k+8:Nat):Int):=aa;rw[this,wrap64 _ aa]
 by_cases f:65536<=n
 ·rw[ah aa,ah f];simp only[b n h,X3,sF,Xf];by_cases a:256<=n / 65536
  ·rw[ah aa,ah a];have e:=c 16 aa;have e:bin _ _ _ _ (.int _ 16) _=some (I (24:Nat)):=e;simp only[g (n / 65536) aa,X3,e];exact Lt _ 24 _ aa _
  ·rw[af aa,af a];exact Lt _ 16 _ aa _
 ·rw[af aa,af f];by_cases a:256<=n
  ·rw[ah aa,ah a];have e:=c 0 aa;have e:bin _ _ _ _ (.int _ 0) _=some (I (8:Nat)):=e;simp only[g n h,X3,e];exact Lt _ 8 _ aa _
  ·rw[af aa,af a];have:=Lt (aH d) 0 n aa G
   grind
def XpV(n:Nat)(h:n<4294967296)(d m):TA (d+2) Oc [.int .u32 (n:Int)] m=some (I (qw n),m):=by
 rw[X60];refine cD ?_ (.refl _ _) rfl;delta GX C B K A;have a:=Xxk n h;have e:bin .sub true true .int (.int .i64 32) (I (yH n))=some (I (qw n)):=by grind[kP,qw,yH,wrap64]
 simp only[XoP n h d,X4,e,X3]
def XoJ(a:Nat)(b:a<4294967296)(d m):TA (d+3) TX [.int .u32 (a:Int)] m=some (yA (mZ a),m):=by
 rw[Xng];refine cD ?_ (.refl _ _) (by unfold yA;split<;>rfl);generalize aD m _=G;delta JX C E B K A;have e:qw (4294967295-a)<=32:=Nat.sub_le _ _;have c:2^(32-qw (4294967295-a))-1<4294967296:=by have:2^(32-qw (4294967295-a))<=2^32:=zg aa aa;omega
 simp only[WK a b,X3,XpV (4294967295-a) aa d,X4,XcS _ e _,WK _ c,eg,Xf];unfold mZ;by_cases h:4294967295-(2^(32-qw (4294967295-a))-1)=a
 ·rw[af aa,ah h];rfl
 ·rw[ah aa,af h];rfl
def c8(c:Cx)(cu:Cu)(a:Bool):Nat × Cu:=
 match mZ (if a=true then 4294967295-(Xy c cu).1 else(Xy c cu).1)with|some n=>(n,(Xy c cu).2)|none=>(0,cA c (Xy c cu).2 10)
def iX(c:Cx)(cu:Cu)(a:Nat)(b:Int):Cu:=if lh a b=0 then cu else cA c cu 10
def eA(c:Cx)(cu:Cu)(b:Nat):(Int × Int) × Cu:=if(bh c cu zw).1=true then(((Xb c (bh c cu zw).2 b 32).1,32),(Xb c (bh c cu zw).2 b 32).2)else(((b:Int),(b:Int)),(bh c cu zw).2)
def lQ(c:Cx)(cu:Cu)(g l:Int):Int × Cu:=if(bh c cu zx).1=true then Xb c (bh c cu zx).2 g 32 else(l,(bh c cu zx).2)
def YC(c:Cx)(cu:Cu):(Nat × Nat × Nat) × Cu:=(pj (Xa c cu).1,if(pj (Xa c cu).1).2.2=0 then(Xa c cu).2 else if(pj (Xa c cu).1).2.2=10 then cA c (Xa c cu).2 10 else cA c (Xa c cu).2 130)
def j9(c:Cx)(cu:Cu):(Bool × Nat × Nat × Int × Int) × Cu:=
 let y:=aP c cu [dq,dP];let q:=YC c y.2;let a:=eA c q.2 q.1.2.1;let k:=lQ c a.2 a.1.1 a.1.2
 ((decide (y.1=0),q.1.1,q.1.2.1,a.1.1,k.1),k.2)
def iy(c:Cx)(cu:Cu):(Nat × Nat) × Cu:=
 let x:=bh c cu sc;let g8:=bh c x.2 Cq;let a:=Xy c g8.2;let k:=c8 c a.2 true
 if x.1=true then((0,0),x.2)else if g8.1=true then((a.1,32),a.2)else((a.1,k.1),iX c k.2 a.1 k.1)
def fR(c:Cx)(cu:Cu)(gk:Int):(Int × Int) × Cu:=
 let x:=bh c cu [101,113];let n:=Xb c x.2 0 65535;let g8:=bh c x.2 Gc;let a:=Xb c g8.2 0 65535;let b:=Xb c a.2 a.1 65535
 if gk≠6/\gk≠17 then((0,65535),cu)else if x.1=true then((n.1,n.1),n.2)else if g8.1=true then((a.1,b.1),b.2)else((0,65535),g8.2)
def mr(c:Cx)(cu:Cu):Int × Cu:=if(bh c cu oV).1=true then Xb c (bh c cu oV).2 0 16777216 else(-1,(bh c cu oV).2)
def kL(c:Cx)(cu:Cu)(T':Bool):Int × Cu:=if T'=true then(if(bh c cu zy).1=true then Xb c (bh c cu zy).2 1 2 else(2,(bh c cu zy).2))else(0,cu)
def iN(c:Cx)(cu:Cu):ai × Cu:=if(bh c cu dH).1=true then bB c (bh c cu dH).2 else([],(bh c cu dH).2)
def BX(i a:Nat):Nat:=if i=0 then 1 else if i=1 then 2 else a
def ib(c:Cx)(cu:Cu)(H':ai)(d:Nat)(T':Bool):(Nat × Int × Int × ai) × Cu:=
 let y:=aP c cu [qJ,qK,H'];let a:=mr c y.2;let b:=kL c a.2 T';let r:=iN c b.2
 ((BX y.1 d,a.1,b.1,r.1),r.2)
variable {c:Cx}{G m:Mem}{Q j:ay}{J s:ao}{o:Nat}{ts:List Tmp}{i8:Value->Nat->ay->ao->Prop}
abbrev Kn(n:Nat):ae:=.int .u32 (n:Int)
def kz(h:PS c o m j s)(lo z)(hi:Nat)(p:z=(hi:Int))(n:hi<1000000000000)(d):cd c o m j s (TA (d+6) Q4 [pt c.C 0 0,.int .i64 lo,.int .i64 z] m) (.int .i64 (Xb c s.cu lo hi).1) (Xb c s.cu lo hi).2:=by
 subst p;have g:=fL h;refine h.pw (X94 _ _ _ _ _) λG k=>?_;delta Dp Qp9 C;refine k.call (mO k.ps (d+3)) λf a=>?_;delta Qp8 C E K A;unfold Xb;simp only[XpI _ g d f,X4,re,X3];refine Xh (λl=>?_) (λl=>?_)
 ·have:pe (Xa c s.cu).1=false:=by grind
  rw[this];exact a.call (lJ a.ps 130 ak _) λi e=>e.ki
 ·have:pe (Xa c s.cu).1=true:=by grind
  rw[this];delta Qp7 Qp6 C E B jg ji jh;have e1:=XpR _ (aO g ak) hi n (d+4) f;have e1:TA (d+5) _ [sv _,.int _ _] f=_:=e1;simp only[e1,X4,dy,dK,X3,re];cases q:(num hi (Xa c s.cu).1).isSome with
  |false =>simp only[pJ,X6];delta Ii Ih C L K A;simp only[X6,dp,false_and,dV,dW];exact a.call (lJ a.ps 131 ak _) λi e=>e.ki
  |true =>
   simp only[iQ,X5,Qb,X3,true_and,dW];delta Ii Ih C L K A;by_cases b:((tx (num hi (Xa c s.cu).1):Nat))<lo
   ·rw[bj b,X6,af aa];exact a.call (lJ a.ps 131 ak (d+3)) λi e=>e.ki
   ·rw[bJ b,X5,ah aa];exact a.ki
def qZ(h:PS c o m j s)(d):cd c o m j s (TA (d+5) oY [pt c.C 0 0] m) (.int .u32 ((Xy c s.cu).1:Int)) (Xy c s.cu).2:=by
 refine h.pw (Xb8 _ _ _) λG k=>?_;delta Io Qru C jg;refine k.call (mO k.ps (d+2)) λi b=>?_;simp only[Yf _ (aO (fL h) ak) d i,X4];unfold Xy pb;cases nf (Xa c s.cu).1 with
 |none =>simp only[dy,dK,X3];delta SQ Jk C E K A;have e:bin .neq true true .int (I 4) (.int .i64 0)=some (.bool true):=bY;simp only[e,X3,X6];exact b.call (lJ b.ps 130 ak _) λl g=>g.ki
 |some a =>simp only[dy,dK,X3];delta SQ Jk C E K A;have e:bin .neq true true .int (I 0) (.int .i64 0)=some (.bool false):=bY;simp only[e,X3,X5];exact b.ki
def XaI(h:PS c o m j s)(d):cd c o m j s (TA (d+6) I4 [pt c.C 0 0] m) (.int .u32 ((ll c s.cu).1:Int)) (ll c s.cu).2:=by
 refine h.pw (Xcf _ _ _) λG k=>?_;delta I5 Qt8 C;refine k.call (qZ k.ps d) λg b=>?_;delta Qt9 Tp C E K jk A;unfold ll;simp only[dI,X3];refine Xh (λa=>?_) (λa=>?_)
 ·have a:=aT a;have:(Xy c s.cu).1=0:=by omega
  rw[ah this];exact b.call (lJ b.ps 131 ak _) λi f=>f.ki
 ·have:(Xy c s.cu).1≠0:=λe=>(aV a) aa;rw[af this];exact b.ki
def uo(c cu):(Xy c cu).1<4294967296:=by
 unfold Xy;cases h:nf (Xa c cu).1 with
 |none=>simp
 |some a=>exact VY h
def Ls(h:PS c o m j s)(b d):cd c o m j s (TA (d+6) Aq [pt c.C 0 0,.bool b] m) (I (c8 c s.cu b).1) (c8 c s.cu b).2:=by
 have i:=uo c s.cu;refine h.pw (Xb4 _ _ _ _) λG k=>?_;delta Ir Qrv C;refine k.call (qZ k.ps d) λl g=>?_;have fin:∀a,a<4294967296->(c8 c s.cu b)=(match mZ a with|some n=>(n,(Xy c s.cu).2)|none=>(0,cA c (Xy c s.cu).2 10))->aK c G j s (Jl (aH (d+5)) (Kn a) (pt c.C 0 0) l) (jU o j s (I (c8 c s.cu b).1) (c8 c s.cu b).2):=λa f p=>by
  delta Jl C jg;rw[p];simp only[XoJ a f _ l,X4];unfold yA;cases mZ a with
  |none =>simp only[dy,dK,X3];delta SR Jm C E K A;have e:bin .neq true true .int (I 10) (.int .i64 0)=some (.bool true):=bY;simp only[e,X3,X6];exact g.call (lJ g.ps 10 ak _) λr q=>q.ki
  |some n =>simp only[dy,dK,X3];delta SR Jm C E K A;have e:bin .neq true true .int (I 0) (.int .i64 0)=some (.bool false):=bY;simp only[e,X3,X5];exact g.ki
 delta Qrw L B;cases b with
 |true =>simp only[X6];rw[WK _ i,X3];exact fin _ aa rfl
 |false =>simp only[X5];exact fin _ i rfl
def W7(h:PS c o m j s)(a:Nat)(v:a<4294967296)(b d):cd c o m j s (TA (d+3) DT [pt c.C 0 0,.int .u32 (a:Int),.int .i64 b] m) (dL a b) (iX c s.cu a b):=by
 refine h.pw (Xcs _ _ _ _ _) λG k=>?_;delta DU U;refine k.new λq I x=>?_;delta Qta B Y U;have e1:Xc Q9 [(0,1),(1,1)] [(0,.int _ (a)),(1,.int _ b)]=some (dL a b):=aU rfl rfl;rw[e1,X3];refine x.new λr J z=>?_;refine z.aC (l1:=[]) (za6:=[.int _ (a),.int _ b]) rfl rfl aW rfl λD l=>?_;delta Qtb C E jd A;have l1:∀{S p u},W c G j s o S j u ((r,0,[.int _ _,.int _ b])::p)->X9 _ 2 _ S=some (dL a b):=λw=>w.fi br rW rfl;rw[l1 l,X3];simp only[XcR a v b d D,X4,eg,X3];have fin:∀f cu,W c G j s o f j { s with cu:=cu } [(r,0,[.int _ _,.int _ b]),(q,0,Q9)]->aK c G j s (Jw (aH (d+2)) _ _ f) _:=λf cu i=>by delta Jw jd jl;rw[l1 i,X3];refine i.aC (l1:=[_]) (y:=0) (g8:=dL a b) (za6:=[.int .u32 (a:Int),.int .i64 b]) rfl rfl aW rfl λF t=>?_;rw[show X9 true 2 (pt q 0 0) F=some (dL a b) from t.fi (y:=0) (gC _ br) aW rfl,vT];exact t.ki
 unfold iX;refine Xh (λg=>?_) (λg=>?_)
 ·rw[af (λe=>(aT g) aa)];exact l.call (lJ l.ps 10 ak d) λf i=>fin f _ i
 simp_all
def Xs0(h:PS c o m j s)(d):cd c o m j s (TA (d+7) Ip [pt c.C 0 0] m) (dL (iy c s.cu).1.1 ((iy c s.cu).1.2:Int)) (iy c s.cu).2:=by
 refine h.pw (Xbl _ _ _) λG k=>?_;delta Iq C L B jl U A jh D;refine k.new λn F r=>?_;refine r.call (kF r.ps _ (d+4)) λy p=>?_;have fin:∀f cu v,v.cells.size=2->v.cells.toList.all one=true->v=.agg ⟨v.cells.toList⟩->W c G j s o f j { s with cu:=cu } [(n,0,Q9)] ->
   aK c G j s (bp (bP (Xe 2 (pt n 0 0) v f)) λ_ m=>ob (ob (X9 true 2 (pt n 0 0) m) λv=>ob (some []) λl=>some (v::l)) λl=>some (bZ l,m)) (jU o j s v cu):=λf cu v q w x b=>by
  refine b.aC (l1:=[]) (za6:=v.cells.toList) q w aW (by simp[rS,Q9]) λu e=>?_;rw[show X9 _ 2 _ u=some v from(e.fi br (by rw[pL,q];decide) (by rw[mA,zj (oT aa)])).trans (by rw[<-x]),vT];exact e.ki
 dsimp only[iy];refine Xh (λa=>?_) (λa=>?_)
 ·rw[a,ah rfl,show Xc Q9 _ []=some (dL 0 0) from aU rfl rfl,X3];exact fin y _ _ rfl rfl rfl p
 ·rw[a,af ak];refine p.call (kF p.ps _ _) λH i=>?_;refine Xh (λa=>?_) (λa=>?_)
  ·rw[a,ah rfl];refine i.call (qZ i.ps _) λf b=>?_;rw[show Xc _ _ _=some (dL (Xy c (bh c (bh c _ _).2 _).2).1 32) from aU rfl rfl,X3];exact fin f _ _ rfl rfl rfl b
  ·rw[a,af ak];refine i.call (qZ i.ps _) λf b=>?_;refine b.call (Ls b.ps _ d) λu e=>?_;have g:=W7 e.ps (Xy c (bh c (bh c s.cu sc).2 Cq).2).1 (uo _ _) ((c8 c (Xy c (bh c (bh c s.cu sc).2 Cq).2).2 true).1) (d+3);dsimp only at g e;refine e.call g λz t=>?_;dsimp only at t|-;exact fin z _ _ rfl rfl rfl t
variable {v:Value}{cu:Cu}
def Lm(cu cW e):(cB cu cW e).er.isNone=false:=by
 unfold cB
 grind
def fY(c cu e):(cA c cu e).er.isNone=false:=Lm _ _ _
def jW{c cu}(h:cu.er.isNone=false)(e):cA c cu e=cu:=by unfold cA cB;grind
def nZ{c cu}(h:(Xa c cu).2.er.isNone=true):1<=(Xa c cu).2.pl:=by
 unfold Xa at h|-;split at h
 ·grind
 ·rw[Lm]at h;cases h
def PS.er(h:PS c o m j s):(s.cu.e=0/\s.cu.er.isNone=true)\/(s.cu.e≠0/\s.cu.er.isNone=false):=by
 have e0:=h.e0
 grind
def kT(h:PS c o m j s)(w d):cd c o m j s (TA (d+2) Q6 [pt c.C 0 0,sv w] m) (.bool (bh c s.cu w).1) (bh c s.cu w).2:=by
 refine h.iB (X66 _ _ _ _) λG k=>?_;unfold GU Ql9;refine .aI (Mj k d) ?_;rw[Fj];delta O5 L jc B K Z ja jj A jh;unfold bh;cases e:cH c s.cu with
 |false =>simp;exact .ret k _
 |true =>
  have a:=qe e;obtain⟨p,f,g,V,_⟩:=k.wl.ix a;simp only[dW,true_and,Xg,X7,X3,k.oJ,k.ld1,f,g,aQ,V,Qh,uH k];by_cases b:(bG c s.cu.pl).1=w
  ·rw[bj b,X6,ah b];exact K0 k a λi P=>.ret P _
  ·rw[bJ b,X5,af b];exact .ret k _
def nU(h:PS c o m j s)(d):cd c o m j s (TA (d+2) Qa [pt c.C 0 0] m) (sv (bB c s.cu).1) (bB c s.cu).2:=by
 refine h.iB (X6s _ _ _) λG k=>?_;delta G5 Qlp C;refine .bind (nV k d) λe P=>?_;delta Qlo Pm Pk C L E jc B K jk jj A;unfold bB;simp only[Xg,X7,X3,P.lq,dI,Xf];rcases P.er with⟨e1,e2⟩|⟨e1,e2⟩
 ·rw[ah e1,XqD _ (aO (fL h) ak) d,X4,re,X3];refine Fc (λa=>?_) (λa=>?_)
  ·have:fZ (Xa c s.cu).1=false:=by grind
   rw[this];exact .bind (kS P nZ 130 ak d) λf P2=>.ret P2 _
  ·have:fZ (Xa c s.cu).1=true:=by grind
   rw[this];exact .ret P _
 ·rw[af e1,X5,jW e2];split
  ·exact .ret P _
  ·exact .ret P _
def Wu(h:PS c o m j s)(d):cd c o m j s (TA (d+3) C4 [pt c.C 0 0] m) (sv (dG c s.cu).1) (dG c s.cu).2:=by
 refine h.iB (X74 _ _ _) λG k=>?_;delta Hn C L K D;refine .bind (kT k _ d) λb P=>?_;unfold dG;refine Fc (λa=>?_) (λa=>?_)
 ·rw[a,ah rfl];exact .bind (nU P d) λe P2=>.ret P2 _
 ·rw[a,af ak];exact .ret P _
def sO{c cu}(h:(Xa c cu).1∈l):(aP c cu l).2=(Xa c cu).2:=by
 have:∀l w i,w∈l->∃a,de w l i=some a:=by
  intro l
  induction l with
  |nil=>simp
  |cons x l d =>
   intro w i h;unfold de;split
   ·simp
   simp_all
 obtain⟨a,b⟩:=this l _ 0 h;unfold aP;rw[b]
def mN{c cu}(h:(Xa c cu).1∉l):(aP c cu l).2=cA c (Xa c cu).2 130:=by
 have:∀l w i,w∉l->de w l i=none:=by
  intro l
  induction l with
  |nil=>intro w i h;rfl
  |cons x l a =>
   intro w i h;unfold de
   grind
 unfold aP;grind
def mM(h:PS c o m j s)(a b z:ai)(u:a≠[])(v:b≠[])(x:z≠[])(d):cd c o m j s (TA (d+2) Q5 [pt c.C 0 0,sv a,sv b,sv z] m) (sv (Xa c s.cu).1) (aP c s.cu [a,b,z]).2:=by
 refine h.iB (X63 _ _ _ _ _ _) λG k=>?_;delta GS Qkx C;refine .bind (nV k d) λq P=>?_;delta Qkw zV O4 C L E jc B K jk jj A P jh D;simp only[Xg,X7,X3,P.lq,dI,Xf];have t:∀w,sv w=(.string ⟨#[]⟩)↔w=[]:=λw=>by cases w<;>simp[sv]
 have r:∀w,bin _ _ _ _ _ (.string ⟨#[]⟩)=some (.bool (decide _)):=λw=>Qh true true w [];generalize p:(Xa c _).1=w at *;rcases P.er with⟨e1,e2⟩|⟨e1,e2⟩
 ·rw[ah e1];simp only[r,uf,X3,Xf];have f:w∈[a,b,z]->cd c o q j _ _ (sv w) (aP c _ _).2:=λe=>by
   rw[sO (by rw[p];exact e)];exact .ret P _
  have bad:w∉[a,b,z]->cd c o q j _ (bp _ λ_ m=>some (sv w,m)) _ (aP c _ _).2:=λe=>by rw[mN (by rw[p];exact e)];exact .bind (kS P nZ 130 ak d) λy P2=>.ret P2 _
  by_cases g:w=[]
  ·rw[ah g,X6]
   grind
  ·rw[af g];by_cases i:w=a
   ·rw[af (by simp[i]),X5]
    grind
   ·rw[ah i];by_cases l:w=b
    ·rw[af (by simp[l]),X5]
     grind
    ·rw[ah l];by_cases n:w=z
     ·rw[af (by simp[n])]
      grind
     ·rw[ah n]
      grind
 ·rw[af e1,X5];have:(aP c s.cu [a,b,z]).2=(Xa c s.cu).2:=by
   by_cases e:(Xa c s.cu).1∈[a,b,z]
   ·exact sO e
   ·rw[mN e];exact jW e2 _
  rw[this];exact .ret P _
def uh(h:PS c o m j s)(d):cd c o m j s (TA (d+3) Ql [pt c.C 0 0] m) (.int .u32 ((Xy c s.cu).1:Int)) (Xy c s.cu).2:=by
 refine h.iB (X4x _ _ _) λG k=>?_;delta GH Z7 C;refine .bind (nV k (d+1)) λi P=>?_;delta Z6 Z5 Z4 OF C E jc K jg A;simp only[Xg,X7,X3,P.lq,eg,Xf];unfold Xy;rcases P.er with⟨e1,e2⟩|⟨e1,e2⟩
 ·rw[af aq];simp only[XdC _ (aO (fL h) ak) d,X4];unfold pb;cases g:nf (Xa c s.cu).1 with
  |none =>simp only[dy,dK,X3,eg,Xf];rw[ah ak];exact .bind (kS P nZ 130 ak _) λl P2=>.ret P2 _
  |some a =>simp only[dy,dK,X3,eg,Xf];rw[af ak];exact .ret P _
 ·rw[ah e1];have f:(Xa c s.cu).1=[]:=by
   unfold Xa at e2|-;split at e2
   ·rename_i e;unfold cH at e
    grind
   ·grind
  have hn:nf []=none:=ak;rw[f,hn];show cd _ _ _ _ _ _ _ (cA c _ 130);rw[jW e2];exact .ret P _
def Xst(h:PS c o m j s)(d):cd c o m j s (TA (d+4) G6 [pt c.C 0 0] m) (.int .u32 ((ll c s.cu).1:Int)) (ll c s.cu).2:=by
 refine h.iB (X6t _ _ _) λG k=>?_;delta G7 Qlr C;refine .bind (uh k d) λe P=>?_;delta Qls Pn Po C L E jc B K jk jj A;simp only[Xg,X7,X3,P.lq,dI,Xf];unfold ll;have a:(Xy c s.cu).2.er.isNone=true->1<=(Xy c s.cu).2.pl:=λq=>by
  unfold Xy at q|-;split at q
  ·exact nZ q
  ·rw[fY]at q;cases q
 rcases P.er with⟨e1,e2⟩|⟨e1,e2⟩
 ·rw[ah e1];by_cases b:(Xy c s.cu).1=0
  ·rw[ah aa,ah b];exact .bind (kS P a 131 ak _) λf P2=>.ret P2 _
  ·rw[af aa,af b];exact .ret P _
 ·rw[af e1,X5,jW e2];split
  ·exact .ret P _
  ·exact .ret P _
def XO(b l:ai)(a):(b++a::l)[b.length]'ar=a:=ar
def Xk9(M')(p z lo:ae)(m:aj):∀l b f,(b++l).length<=65536->l.length<f ->
  zP M' f (I b.length) (sv (b++l)) p z lo m=if l.all jK=true then Hh M' (sv (b++l)) p z lo m else bp (M'.dN Q3 [p,.int .i64 130] m) λ_ m=>some (.int .i64 0,m)
 |l,b,0,_,hf=>aa
 |[],b,f+1,j,hf=>by unfold zP;delta E N ji;simp only[dw,Qb,X3,Xf];simp
 |a::l,b,f+1,j,hf=>by
  have c:b.length<(b++a::l).length:=ar;have ix:=iu _ .i64 _ c;rw[XO]at ix;unfold zP;delta E N ji;simp only[dw,Qb,X3,Xf];rw[ah aa];delta Z0 OB C L E B K ja A jh;simp only[ix,Qb,iT,X3,Xf,X6];have hd:=uz a;rw[km];by_cases d:(a.toNat:Int)<48
  ·rw[ah d];have:jK a=false:=by cases i:jK a<;>simp_all;omega
   rw[this];rfl
  ·rw[af d];by_cases e:(57:Int)<a.toNat
   ·rw[ah e];have:jK a=false:=by cases i:jK a<;>simp_all;omega
    rw[this];rfl
   ·rw[af e];have:=hd.mpr aa;rw[this,gY];have h:bin .add true true .int (I b.length) (.int .i64 1)=some (I (b++[a]).length):=by
     rw[cz];have:((b.length:Nat):Int)+1=(((b++[a]).length:Nat):Int):=ar;rw[this,wrap64 _ aa]
    rw[h,X3];have g:b++a::l=(b++[a])++l:=ar;rw[g];exact Xk9 M' p z lo m l (b++[a]) f aq aq
def yK(hi:Nat):Nat->ai->Nat
 |n,[]=>n
 |n,a::l=>if n<=hi then yK hi (10*n+(a.toNat-48)) l else n
def W5:∀l n,n<=val n l
 |[],n=>c6 _
 |a::l,n=>aO aa (W5 l _)
def Xt7(hi):∀l n,(val n l<=hi->yK hi n l=val n l)/\(hi<val n l->hi<yK hi n l)
 |[],n=>⟨λ_=>rfl,λh=>h⟩
 |a::l,n=>by
  have ge:=W5 l (n*10+(a.toNat-48));unfold yK;rw[Ce 10 n];show(val _ l<=hi->_=val _ l)/\_;by_cases h:n<=hi
  ·rw[ah h];exact Xt7 hi l (n*10+(a.toNat-48))
  grind
def Xoe(M')(p lo:ae)(hi)(k:hi<1000000000000)(m:aj):∀l b(f n:Nat),(b++l).length<=65536->l.length<f->l.all jK=true->n<=10*hi+9 ->
  wX M' f (I b.length) (sv (b++l)) (I n) (I hi) lo p m=Hg M' (I (yK hi n l)) lo (I hi) p m
 |l,b,0,_,_,hf,_,_=>aa
 |[],b,f+1,n,e,hf,_,hn=>by unfold wX;delta E B N jj ji;simp only[dw,Qb,X3,Xf];rw[af ar];rfl
 |a::l,b,f+1,n,e,hf,d,hn=>by
  rw[km,bT,uz]at d;have c:b.length<(b++a::l).length:=ar;have ix:=iu _ .i64 _ c;rw[XO]at ix;unfold wX;delta E B N jj ji;simp only[dw,Qb,X3,Xf];rw[ah aa,kx,X3];delta OA H L B ja A;unfold yK;rw[Xf];by_cases h:n<=hi
  ·rw[ah aa,ah h];have e1:bin .mul true true .int (.int .i64 10) (I n)=some (I (10*n:Nat)):=by
    rw[zJ];have:(10:Int)*(n:Int)=((10*n:Nat):Int):=ar;rw[this,wrap64 _ aa]
   have e2:bin .sub true true .int (.int .u8 (a.toNat)) (.int .u8 48)=some (.int .u8 ((a.toNat-48:Nat))):=by rw[kP];have:((a.toNat:Nat):Int)-48=((a.toNat-48:Nat):Int):=aa;rw[this,IntWalk.u8_in _ aa]
   have g:conv (.int .i64) (.int .u8 ((a.toNat-48:Nat))) m=some (I (a.toNat-48:Nat),m):=by
    have:conv (.int .i64) (.int .u8 ((a.toNat-48:Nat):Int)) m=some (.int .i64 (IntKind.i64.wrap ((a.toNat-48:Nat):Int)),m):=rfl
    rw[this,wrap64 _ aa]
   have i:bin .add false true .int (I (10*n:Nat)) (I (a.toNat-48:Nat))=some (I (10*n+(a.toNat-48):Nat)):=by rw[cz];have:((10*n:Nat):Int)+((a.toNat-48:Nat):Int)=((10*n+(a.toNat-48):Nat):Int):=aa;rw[this,wrap64 _ aa]
   have j:bin .add true true .int (I b.length) (.int .i64 1)=some (I (b++[a]).length):=by rw[cz];have:((b.length:Nat):Int)+1=(((b++[a]).length:Nat):Int):=ar;rw[this,wrap64 _ aa]
   simp only[e1,ix,e2,g,i,j,X3,X4];have e5:b++a::l=(b++[a])++l:=ar;rw[e5];exact Xoe M' p lo hi k m l _ f _ (by simpa using e) (by simp at hf|-;omega) d.2 aa
  ·rw[af aa,af h]
def Xyv(a):nn a=jK a:=by
 have:=uz a;unfold nn
 grind
def eQ(c:Cx)(cu:Cu)(lo:Int)(hi:Nat):Int:=if(Xb c cu lo hi).2.er.isNone=true then(Xb c cu lo hi).1 else 0
def ky(h:PS c o m j s)(Q:∀w∈c.ws,w.1≠[])(lo z)(hi:Nat)(hz:z=(hi:Int))(D:hi<1000000000000)(d):cd c o m j s (TA (d+2) Q1 [pt c.C 0 0,.int .i64 lo,.int .i64 z] m) (.int .i64 (eQ c s.cu lo hi)) (Xb c s.cu lo hi).2:=by
 subst hz;have S:=fL h;refine h.iB (X5n _ _ _ _ _) λG k=>?_;delta CJ OR C;refine .bind (nV k d) λp P=>?_;delta OQ E jc K A;simp only[Xg,X7,X3,P.lq,eg,Xf];have J:∀e,e≠0/\e≠5->(Xa c s.cu).2.er.isNone=true->(Xb c _ lo hi).2=cA c (Xa c _).2 e->cd c o p j _ (bp _ λ_ m=>some (.int _ 0,m)) (.int .i64 (eQ c _ lo hi)) (Xb c _ lo hi).2:=λe Y hn f=>by
  have:eQ c s.cu lo hi=0:=by unfold eQ;rw[f,fY];rfl
  rw[this,f];exact .bind (kS P nZ e Y d) λm2 P2=>.ret P2 _
 rcases P.er with⟨e1,e2⟩|⟨e1,e2⟩
 ·rw[af aq];have U:(Xa c s.cu).1≠[]:=by
   unfold Xa at e2|-;split at e2
   ·rename_i T;rw[ah T];exact Q _ (jO (vV (qe T)))
   ·rw[Lm]at e2;cases e2
  have l1:=Xk9 (aH (d+1)) (pt c.C 0 0) (I hi) (.int .i64 lo) p (Xa c _).1 [] 18446744073709551616 S aa;rw[my]at l1;refine Eq.mpr (jQ (λx=>cd c o p j _ x _ _) l1) ?_;have b:Xb c _ lo hi=if pe _=true then((tx _:Int),if(num hi _).isSome=true/\lo<=(tx (num hi (Xa c s.cu).1))then(Xa c _).2 else cA c _ 131)else(0,cA c _ 130):=rfl;have g:pe (Xa c s.cu).1=((Xa c s.cu).1.all jK&&(decide ((Xa c s.cu).1=[48])||decide ((Xa c s.cu).1.head?≠some 48))):=by unfold pe;rw[bj U,gY,show nn=jK from funext Xyv]
  generalize a0:(Xa c _).1=w at *;generalize X:(Xa c _).2=H at *;by_cases v:w.all jK=true
  ·rw[ah v];rw[v,gY]at g;delta Hh E B N jk jj A;simp only[dw,iT,X3,Xf];have l:(1<w.length/\w.head?=some 48)↔pe w=false:=by
    rw[g,YZ,rT,rT,Decidable.not_not];constructor
    ·grind
    ·rintro ⟨q1,V⟩
     cases w with
     |nil=>cases V
     |cons a t =>grind
   have fin:pe w=true->cd c o p j { s with cu:=H } (OP (aH (d+1)) (sv w) (I hi) (.int .i64 lo) (pt c.C 0 0) p) (.int .i64 (eQ c s.cu lo hi)) (Xb c s.cu lo hi).2:=λhf=>by
    refine Eq.mpr (jQ (λx=>cd c o p j _ x _ _) (Xoe (aH (d+1)) (pt c.C 0 0) (.int .i64 lo) hi D p w [] 18446744073709551616 0 S aa v aa)) ?_;delta Hg OO C L E B K A ji jh;simp only[Qb,iT,X3,Xf,X6];rw[ah hf]at b;have R:nz w:=λq c' O e=>by
     have:=l.mp ⟨q,by rw[O];congr 1;exact j3.mp e⟩
     grind
    have ⟨M,W⟩:=Xt7 hi w 0;rcases lT hi (val 0 w)with q|q
    ·have hn:num hi w=none:=by
      cases D:num hi w with
      |none=>rfl
      |some n =>
       obtain⟨r1,r2⟩:=gj.mp D;have:val 0 w=n:=by rw[r1,uy]
       omega
     have f:(Xb c s.cu lo hi).2=cA c H 131:=by rw[b,hn];rfl
     by_cases r:((yK hi 0 w:Nat))<lo
     ·rw[ah r];exact J 131 ak e2 f
     ·rw[af r,ah aa];exact J 131 ak e2 f
    ·have hn:=gj.mpr ⟨((Vv _ w rfl U v R).1).symm,q⟩;rw[M q];rw[hn]at b;by_cases r:((val 0 w:Nat))<lo
     ·rw[ah r];refine J 131 ak e2 ?_;rw[b];exact af λq=>by have V:lo<=((val 0 w:Nat)):=q.2;omega
     ·rw[af r,af aa];have f:Xb c s.cu lo hi=(((val 0 w):Int),H):=by
       rw[b];exact jQ (Prod.mk _) (ah ⟨rfl,(by omega:lo<=((val 0 w:Nat):Int))⟩)
      have Z:eQ c s.cu lo hi=((val 0 w:Nat)):=by unfold eQ;rw[f,ah e2]
      rw[Z,f];exact .ret P _
   have i:pe w=false->(Xb c _ lo hi).2=cA c H 130:=λhf=>by rw[b,hf];rfl
   delta Ha C L K A;by_cases F:1<w.length
   ·rw[ah aa];simp only[show Xi _ (.int _ 0)=_ from (iu w .i64 0 aa),dI,X3,Xf];have D:w.head?=some (w[0]'aa):=by rw[YY];exact dX _
    by_cases u:((w[0]'aa).toNat:Int)=48
    ·rw[ah u];refine J 130 ak e2 (i (l.mp ⟨F,?_⟩));rw[D];congr 1;exact j3.mp aq
    ·rw[af u];refine fin ?_;cases hf:pe w with
     |true=>rfl
     |false =>simp_all
   ·rw[af aa,X5]
    grind
  ·rw[af v]
   grind
 ·rw[ah aa];have f:(Xb c s.cu lo hi).2=(Xa c s.cu).2:=by
   unfold Xb;simp only[jW e2,pN];split<;>rfl
  have:eQ c s.cu lo hi=0:=by unfold eQ;rw[f,show(Xa c s.cu).2.er.isNone=false from e2];rfl
  rw[this,f];exact .ret P _
def tv(n:Nat):Nat:=4294967296-2^(32-n)
def XnB(n):tv n<4294967296:=by have:0<2^(32-n):=Nat.pow_pos ak;unfold tv;omega
def XqC(n:Nat)(hn:n<=32)(d m):TA (d+2) QU [I n] m=some (.tuple ⟨[.int .u32 (tv n:Int),I 0]⟩,m):=by
 rw[Xaj];refine cD ?_ (.refl _ _) rfl;have c:2^(32-n)<=2^32:=zg aa aa;have:=XnB n;delta IE Qrx SS H C L E B K A jh;simp only[Qb,iT,X3,Xf];rw[af aa,af aa];have a:=XdF n hn d (aD m m.next);have b:tv n=4294967296-2^(32-n):=rfl;generalize 2^(32-n)=p at *;have e:bin .sub true true .int (.int .u64 4294967296) (.int .u64 (p))=some (.int .u64 (tv n)):=by rw[kP,IntWalk.u64_in _ aa];congr 2;omega
 simp only[a,X4,e,X3,dS];rw[IntWalk.u32_in _ aa]
def XfW:∀n,n<=32->mZ (tv n)=some n:=by trivial
def Xsn{n}(h:mZ a=some n):n<=32/\tv n=a:=by
 unfold mZ at h;split at h
 ·rename_i q;cases h;have b:qw (4294967295-a)<=32:=Nat.sub_le _ _;have:0<2^(32-qw (4294967295-a)):=Nat.pow_pos ak;exact⟨b,by unfold tv;omega⟩
 grind
def Xlh(a d)(m:aj):∀k n f,n+k=33->k<f->(∀i,i<n->tv i≠a)->AD (aH (d+2)) f (I n) (.int .u32 (a:Int)) m=some (yA (mZ a),m)
 |k,n,0,_,hf,_=>aa
 |0,n,f+1,hn,_,hi=>by
  unfold AD;delta C E B K jg ja A;have e:mZ a=none:=by
   cases h:mZ a with
   |none=>rfl
   |some b=>exact absurd (Xsn h).2 (hi b (by have:=(Xsn h).1;omega))
  simp only[kx,X3,Xf];rw[af aa,e];rfl
 |k+1,n,f+1,hn,hf,hi=>by
  have c:=Xlh a d m k (n+1) f aa aa;unfold AD;delta C E B K jg ja A;simp only[kx,X3,Xf];rw[ah aa];simp only[XqC n aa d,X4,dy,dK,X3,dI,Xf];by_cases h:tv n=a
  ·rw[ah (by rw[h]),<-h,XfW n aa];rfl
  ·have e:bin .add true true .int (I n) (.int .i64 1)=some (I (n+1:Nat)):=by
    rw[cz];have:((n:Nat):Int)+1=((n+1:Nat):Int):=aa;rw[this,wrap64 _ aa]
   rw[af aa,e,X3]
   grind
def XpZ(a:Nat)(d m):TA (d+3) QT [.int .u32 (a:Int)] m=some (yA (mZ a),m):=by rw[Xbh];refine cD ?_ (.refl _ _) (by unfold yA;split<;>rfl);delta ID SU SV A;exact Xlh a d _ 33 0 _ rfl ar (λi h=>aa)
def Xrh{c cu}(q:(Xy c cu).2.er.isNone=true):1<=(Xy c cu).2.pl:=by
 unfold Xy at q|-;split at q
 ·exact nZ q
 ·rw[fY]at q;cases q
def kE(c:Cx)(cu:Cu)(w:Bool)(a:Nat):Cu:=if(c8 c cu w).1<a then cA c (c8 c cu w).2 10 else(c8 c cu w).2
def lL(c:Cx)(cu:Cu)(w:Bool)(a:Nat):Nat:=if(kE c cu w a).er.isNone=true then(c8 c cu w).1 else 0
def Xof(h:PS c o m j s)(w)(b:Nat)(d:Nat):cd c o m j s (TA (d+4) CT [pt c.C 0 0,.bool w,I b] m) (I (lL c s.cu w b)) (kE c s.cu w b):=by
 have u:=uo c s.cu;refine h.iB (X6o _ _ _ _ _) λG k=>?_;delta G4 Qlt C;refine .bind (uh k d) λl P=>?_;delta Qlu Qlv L E jc B K A;simp only[Xg,X7,X3,P.lq,eg,Xf];rcases P.er with⟨e1,e2⟩|⟨e1,e2⟩
 ·rw[af aq];have r:∀e:Nat × Cu,c8 c s.cu w=e->(e.1<b/\e.2=(Xy c s.cu).2\/e.2=cA c (Xy c s.cu).2 10)->cd c o l j { s with cu:=(Xy c s.cu).2 } (bp (TA (d+3) Q3 [pt c.C 0 0,.int .i64 10] l) λ_ m=>some (.int .i64 0,m)) (I (lL c s.cu w b)) (kE c s.cu w b):=λe g v=>by
   have f:kE c s.cu w b=cA c (Xy c s.cu).2 10:=by
    unfold kE;rw[g];rcases v with⟨z,D⟩|q
    ·grind
    ·rw[q,jW (fY _ _ _)];simp
   have i:lL c s.cu w b=0:=by unfold lL;rw[f,fY];rfl
   rw[f,i];exact .bind (kS P Xrh 10 ak _) λy P2=>.ret P2 _
  have fin:∀a,a<4294967296->(c8 c s.cu w)=(match mZ a with|some n=>(n,(Xy c s.cu).2)|none=>(0,cA c (Xy c s.cu).2 10))->cd c o l j { s with cu:=(Xy c s.cu).2 } (Hy (aH (d+3)) (Kn a) (I b) (pt c.C 0 0) l) (I (lL c s.cu w b)) (kE c s.cu w b):=λa x g=>by
   delta Hy Qlw Pp C L E B K jg A ji jh;simp only[XpZ a d l,X4];unfold yA;cases p:mZ a with
   |none =>rw[p]at g;simp only[dy,dK,X3,eg,Xf,X6];rw[ah ak];exact r _ g (.inr rfl)
   |some n =>
    rw[p]at g;simp only[dy,dK,X3,eg,Qb,Xf];rw[af ak];by_cases q:n<b
    ·rw[ah aa];exact r _ g (.inl ⟨q,rfl⟩)
    ·rw[af aa];have f:kE c s.cu w b=(Xy c s.cu).2:=by unfold kE;rw[g,af q]
     have i:lL c s.cu w b=n:=by unfold lL;rw[f,g,ah e2]
     rw[f,i];exact .ret P _
  cases w with
  |true =>
   simp only[X6];have e:bin .sub true true .int (.int .u32 4294967295) (Kn (Xy c s.cu).1)=some (Kn (4294967295-(Xy c s.cu).1)):=by rw[kP,IntWalk.u32_in _ aa];congr 2;omega
   rw[e,X3];exact fin _ aa rfl
  |false =>simp only[X5];exact fin _ u rfl
 ·rw[ah e1];have t:(c8 c s.cu w).2=(Xy c s.cu).2:=by
   unfold c8;split
   ·rfl
   ·exact jW e2 _
  have f:kE c s.cu w b=(Xy c s.cu).2:=by unfold kE;rw[t,jW e2];split<;>rfl
  have i:lL c s.cu w b=0:=by unfold lL;rw[f,e2];rfl
  rw[f,i];exact .ret P _
abbrev nB(a b:Int):ae:=.agg ⟨[.int .u32 a,.int .u32 b]⟩
def Xxs(s):tx (num E' s)<=E':=by
 cases h:num E' s with
 |none=>exact kn _
 |some n=>exact(gj.mp h).2
def Er(c cu lo hi):0<=(Xb c cu lo hi).1/\(Xb c cu lo hi).1<=hi:=by
 unfold Xb;split
 ·have:=Xxs (E':=hi) (Xa c cu).1;constructor
  ·omega
  omega
 omega
def Bk(c cu lo hi)(h:hi<4294967296)(m:aj):conv (.int .u32) (.int .i64 (Xb c cu lo hi).1) m=some (.int .u32 (Xb c cu lo hi).1,m):=by have:=Er c cu lo hi;rw[dS,IntWalk.u32_in _ aa]
def Xoo(h:PS c o m j s)(gk d):cd c o m j s (TA (d+7) HW [pt c.C 0 0,.int .i64 gk] m) (nB (fR c s.cu gk).1.1 (fR c s.cu gk).1.2) (fR c s.cu gk).2:=by
 refine h.pw (Xa4 _ _ _ _) λG k=>?_;delta Dz U;refine k.new λp S P=>?_;delta Qqg B Y U;rw[show Xc _ _ _=some (nB 0 _) from aU rfl rfl,X3];refine P.new λu T Q=>?_;refine Q.aC (l1:=[]) (za6:=[.int _ 0,.int _ _]) rfl rfl aW rfl λw q=>?_;have fin:∀i cu a b,W c G j s o i j { s with cu:=cu } [(u,0,[.int .u32 0,.int .u32 65535]),(p,0,mJ)] ->
   aK c G j s (bp (bP (Xe 2 (pt p 0 0) (nB a b) i)) λ_ m=>ob (ob (X9 true 2 (pt p 0 0) m) λv=>ob (some []) λl=>some (v::l)) λl=>some (bZ l,m)) (jU o j s (nB a b) cu):=λi cu a b g=>by
  refine g.aC (l1:=[_]) (za6:=[.int _ a,.int _ b]) rfl rfl aW rfl λr f=>?_;rw[show X9 _ 2 _ r=some (nB a b) from f.fi (gC _ br) rW rfl,vT];exact f.ki
 have K:∀i cu,W c G j s o i j { s with cu:=cu } [(u,0,[.int _ 0,.int _ _]),(p,0,mJ)]->X9 _ 2 _ i=some (nB 0 65535):=λi cu g=>g.fi br rW rfl;have J:∀x y,Xc mJ [(0,1),(1,1)] [(0,.int _ x),(1,.int _ y)]=some (nB x y):=λx y=>aU rfl rfl;have q:W c G j s o w j _ [(u,0,[.int _ 0,.int _ _]),(p,0,mJ)]:=q;delta Qqh E B jj A;simp only[eg,X3];by_cases t:gk≠6/\gk≠17
 ·rw[bj t.1,X6,bj t.2];delta DQ H C L jd B jl A D;rw[X6,K w _ q,X3];dsimp only[fR];rw[ah t];exact fin w _ 0 _ q
 ·have go:∀x,x=DQ (aH (d+6)) (.bool false) (pt u 0 0) (pt p 0 0) (pt c.C 0 0) w->aK c G j s x (jU o j s (nB (fR c s.cu gk).1.1 (fR c s.cu gk).1.2) (fR c s.cu gk).2):=λx O=>by
   subst O;delta DQ H C L jd B jl A D;rw[X5];dsimp only[fR];rw[af t];refine q.call (kF q.ps _ _) λi g=>?_;refine Xh (λn=>?_) (λn=>?_)
   ·rw[n,ah rfl];refine g.call (kz g.ps 0 _ 65535 rfl aa d) λr f=>?_;dsimp only at f|-;simp only[Bk c _ 0 65535 aa,X4,J,X3];exact fin r _ _ _ f
   ·rw[n,af ak];refine g.call (kF g.ps _ _) λr f=>?_;refine Xh (λn=>?_) (λn=>?_)
    ·rw[n,ah rfl];refine f.call (kz f.ps 0 _ 65535 rfl aa d) λV F=>?_;dsimp only at F|-;simp only[Bk c _ 0 65535 aa,X4];refine F.call (kz F.ps _ _ 65535 rfl aa d) λR M=>?_;dsimp only at M|-;simp only[Bk c _ _ 65535 aa,X4,J,X3];exact fin R _ _ _ M
    ·rw[n,af ak,K r _ f,X3];exact fin r _ 0 _ f
  by_cases z:gk=6
  ·rw[bJ (λe=>e z),X5];exact go _ rfl
  ·rw[bj z,X6,bJ (λe=>e (M7 λe=>t ⟨z,e⟩))];exact go _ rfl
def XgK{c cu l}(q:(kE c cu w l).er.isNone=true):1<=(kE c cu w l).pl:=by
 have h:(c8 c cu w).2.er.isNone=true->1<=(c8 c cu w).2.pl:=λq=>by
  unfold c8 at q|-;split at q
  ·exact Xrh q
  ·rw[fY]at q;cases q
 unfold kE at q|-;split at q
 ·rw[fY]at q;cases q
 grind
def Xz7(c cu w):kE c cu w 0=(c8 c cu w).2:=by rfl
def gU(c:Cx)(cu:Cu)(w:Bool):(Nat × Nat) × Cu:=(((Xy c cu).1,lL c (Xy c cu).2 w 0),iX c (c8 c (Xy c cu).2 w).2 (Xy c cu).1 ((c8 c (Xy c cu).2 w).1:Int))
def Wv(h:PS c o m j s)(w d):cd c o m j s (TA (d+5) C3 [pt c.C 0 0,.bool w] m) (dL (gU c s.cu w).1.1 ((gU c s.cu w).1.2:Int)) (gU c s.cu w).2:=by
 refine h.pw (X73 _ _ _ _) λG k=>?_;delta Hl Qn6 C U;refine k.new λF R K=>?_;refine K.call (uh K.ps (d+1)) λT M=>?_;delta Qn7 C B Y U A;refine M.call (Xof M.ps w 0 d) λV Q=>?_;have e1:∀x q,Xc Q9 [(0,1),(1,1)] [(0,.int _ (x)),(1,I q)]=some (dL x q):=λx q=>aU rfl rfl;rw[e1,X3];refine Q.new λH l g=>?_;have N:=uo c s.cu;generalize n:(Xy c _).1=a at *;generalize p:lL c (Xy c _).2 w 0=b at *;refine g.aC (l1:=[]) (za6:=[.int _ _,I b]) rfl rfl aW rfl λt i=>?_;have O:(gU c s.cu w).1=(a,b):=by unfold gU;rw[n,p]
 have J:=Xz7 c (Xy c s.cu).2 w;have l1:∀{S D u},W c G j s o S j u ((H,0,[.int _ _,I b])::D)->X9 _ 2 _ S=some (dL a b):=λw=>w.fi br rW rfl;have fin:∀l cu,W c G j s o l j { s with cu:=cu } [(H,0,[.int _ (a),I b]),(F,0,Q9)]->aK c G j s (HF (aH (d+4)) _ _ l) _:=λl cu g=>by delta HF jd jl;rw[l1 g,X3];refine g.aC (l1:=[_]) (y:=0) (g8:=dL a b) (za6:=[.int .u32 (a:Int),I b]) rfl rfl aW rfl λt i=>?_;rw[show X9 true 2 (pt F 0 0) t=some (dL a b) from i.fi (y:=0) (gC _ br) aW rfl,vT];exact i.ki
 rw[O];have P:=i.ps;delta Qn8 PU C L E jd jc B jk jj A;simp only[Xg,X7,X3,P.lq,dI,Xf];rcases P.er with⟨v,r⟩|⟨v,r⟩
 ·rw[ah v,l1 i,X3];simp only[XdD a N b _ t,X4,eg,X3];have f:b=(c8 c (Xy c s.cu).2 w).1:=by rw[<-p];unfold lL;exact ah r
  have hn:(gU c s.cu w).2=iX c (kE c (Xy c s.cu).2 w 0) a b:=by unfold gU;rw[n,f,J]
  rw[hn];unfold iX;refine Xh (λf=>?_) (λf=>?_)
  ·have f:=aT f;rw[af (λe=>f aa)];exact i.call (kS P XgK 10 ak _) λl g=>fin l _ g
  ·have f:=aV f;rw[ah aa]
   grind
 ·rw[af v,X5];have hn:(gU c s.cu w).2=kE c (Xy c s.cu).2 w 0:=by
   unfold gU iX;rw[J]at r|-;rw[jW r];exact pN _
  grind
def pg(c:Cx)(cu:Cu):(Nat × Nat) × Cu:=
 let x:=bh c cu sc;let g8:=bh c x.2 Cq;let a:=Xy c g8.2;let k:=gU c g8.2 true
 if x.1=true then((0,0),x.2)else if g8.1=true then((a.1,32),a.2)else k
def Xv8(c cu):(pg c cu).2=(iy c cu).2:=by
 unfold pg iy gU;dsimp only;split
 ·rfl
 ·split<;>rfl
def XlD{c cu}(h:(iX c cu a b).er.isNone=true):cu.er.isNone=true:=by
 unfold iX at h;split at h
 ·exact h
 ·rw[fY]at h;cases h
def Uw{c cu}(h:(gU c cu w).2.er.isNone=true):(gU c cu w).1=((Xy c cu).1,(c8 c (Xy c cu).2 w).1):=by unfold gU at h|-;have:=XlD h;dsimp only;unfold lL;rw[Xz7,ah this]
attribute [local irreducible] gU
def Xzz{c cu}(h:(pg c cu).2.er.isNone=true):(pg c cu).1=(iy c cu).1:=by
 unfold pg iy at *;dsimp only at *;split
 ·rfl
 ·rename_i a;split
  ·rfl
  ·rename_i b;rw[af a,af b]at h;exact Uw h
def Xot(h:PS c o m j s)(d):cd c o m j s (TA (d+6) G1 [pt c.C 0 0] m) (dL (pg c s.cu).1.1 ((pg c s.cu).1.2:Int)) (pg c s.cu).2:=by
 refine h.pw (X6q _ _ _) λG k=>?_;delta G2 C L B jl U A jh D;refine k.new λg y p=>?_;refine p.call (kT p.ps _ (d+3)) λu i=>?_;have fin:∀b cu v,v.cells.size=2->v.cells.toList.all one=true->v=.agg ⟨v.cells.toList⟩->W c G j s o b j { s with cu:=cu } [(g,0,Q9)] ->
   aK c G j s (bp (bP (Xe 2 (pt g 0 0) v b)) λ_ m=>ob (ob (X9 true 2 (pt g 0 0) m) λv=>ob (some []) λl=>some (v::l)) λl=>some (bZ l,m)) (jU o j s v cu):=λb cu v n r t e=>by
  refine e.aC (l1:=[]) (za6:=v.cells.toList) n r aW (by simp[rS,Q9]) λw q=>?_;rw[show X9 _ 2 _ w=some v from(q.fi br (by rw[pL,n];decide) (by rw[mA,zj (oT aa)])).trans (by rw[<-t]),vT];exact q.ki
 unfold pg;dsimp only;refine Xh (λa=>?_) (λa=>?_)
 ·rw[a,ah rfl,show Xc Q9 _ []=some (dL 0 0) from aU rfl rfl,X3];exact fin u _ _ rfl rfl rfl i
 ·rw[a,af ak];refine i.call (kT i.ps _ _) λz f=>?_;refine Xh (λa=>?_) (λa=>?_)
  ·rw[a,ah rfl];refine f.call (uh f.ps _) λb e=>?_;rw[show Xc _ _ _=some (dL (Xy c (bh c (bh c _ _).2 _).2).1 32) from aU rfl rfl,X3];exact fin b _ _ rfl rfl rfl e
  ·rw[a,af ak];refine f.call (Wv f.ps _ d) λb e=>?_;exact fin b _ _ rfl rfl rfl e
end Go.Ab.Sh
end
