/- Plain facts. -/
import Derived.Test.YtpldpilhgjpkjaaGreatWVE
set_option linter.all false
open Go
open Bool renaming and_eq_true->Zc,and_false->Z3
open Int renaming toNat_of_nonneg->Zo,toNat_natCast->ZA,le_refl->Yh
open IntKind renaming has->Vl,wrap->Xj,bits->Vm,signed->Vn,i64->Za
open IntWalk renaming i64_in->YZ
open List renaming range->Zl,mem_range->Z7,length_append->Zh,mem_cons->Zk,length_cons->Zp,getD_eq_getElem?_getD->Zn,getElem?_eq_getElem->Zr,take->Yp,drop->YI,mem_append->Zg,find?_range_eq_some->XZ,find?_range_eq_none->Wy,append_assoc->Zj,nodup_append->Zu,nodup_nil->ZL
open Nat renaming zero_le->Ze,le_refl->Zf
open Value renaming int->Zq
namespace Go.V
def yP {n:Int}(h:Vl Za n): -9223372036854775808<=n/\n<=9223372036854775807:=h
def dd {i:Int}(h0:0<=i)(h1:i<9223372036854775807):bK .add Za i 1=i+1:=bD Uc
def inR (x a b:Int):Bool:=decide (a<=x)&&decide (x<=b)
def bz {x a b:Int}:inR x a b=true↔a<=x/\x<=b:=by simp[inR]
def uJ {x a b:Int}:inR x a b=false↔x<a\/b<x:=by
 cases h:inR x a b
 ·simp only[true_iff];unfold inR at h;simp only[Bool.and_eq_false_iff,decide_eq_false_iff_not]at h;omega
 ·rw[bz]at h;constructor
  ·intro q;cases q
  ·omega
def cC (p:Int->Bool)(n:Nat):Bool:=(Zl n).all fun j=>p (j:Int)
def upto (p:Int->Bool)(i:Int):Prop:=∀ j:Int,0<=j->j<i->p j=true
def bI {p:Int->Bool}:upto p 0:=fun j h0 h1=>absurd h1 Uc
def bu {p:Int->Bool}{i:Int}(h:upto p i)(hp:p i=true):upto p (i+1):=fun j h0 h1=>by
 by_cases q:j=i
 ·subst q;exact hp
 ·exact h j h0 Uc
def dN {p:Int->Bool}{n:Nat}:cC p n=true↔upto p n:=by
 simp only[cC,List.all_eq_true,Z7];exact⟨fun h j h0 h1=>by have:=h j.toNat Uc;rwa [Zo h0]at this,fun h x hx=>h x Uc Uc⟩
def bJ {p:Int->Bool}{n:Nat}{i:Int}(h:upto p i)(hi:(n:Int)<=i):cC p n=true:=dN.2 fun j h0 h1=>h j h0 Uc
def bV {p:Int->Bool}{n:Nat}{i:Int}(h0:0<=i)(h:i<n)(hp:p i=false):cC p n=false:=by
 cases q:cC p n
 ·rfl
 ·rw[dN.1 q i h0 h]at hp;cases hp
def ij {a b:Bool}(h:a=true↔b=true):a=b:=by cases a<;>cases b<;>simp_all
def aj {a b:Bool}(h:a=b):[DV.k a]=[DV.k b]:=by rw[h]
def nP (cs us:ab)(i k:Int):Bool:=inR (ag (aw cs i 0) k 0) 0 999&&(qO us i 0||decide (ag (aw cs i 0) k 0=0))
def hN (cs us:ab)(i:Int):Bool:=decide ((aw cs i 0).length=16)&&cC (nP cs us i) 16
def framesOk (cs us:ab):Bool:=inR cs.length 1 32&&decide (us.length=cs.length)&&cC (hN cs us) cs.length
def rk (es:ab)(fr i:Int):Bool:=inR (ag es i 0) 0 2&&decide (ag es i 0=0->ag es i 1=0)&&decide (0<ag es i 0->0<=ag es i 1/\ag es i 1<fr)
def tableOk (es:ab)(fr:Int):Bool:=cC (rk es fr) es.length&&inR es.length 1 32
def vu (es:ab)(f:Int):Nat->ab
 |0=>[]
 |n+1=>if ag es n 0≠0/\ag es n 1=f then vu es f n++[[.i n]]else vu es f n
def pagesOn (es:ab)(f:Int):ab:=vu es f es.length
def Fo {es:ab}{f:Int}:∀ {n:Nat},(vu es f n).length<=n
 |0=>Ze _
 | n+1=>by
   have:=Fo (es:=es) (f:=f) (n:=n);unfold vu;split
   ·rw[Zh];simp;omega
   ·omega
def Kn {es:ab}{f:Int}{n:Nat}(h0:ag es n 0≠0)(h1:ag es n 1=f):vu es f (n+1)=vu es f n++[[.i n]]:=by rw[vu,VE ⟨h0,h1⟩]
def N1 {es:ab}{f:Int}{n:Nat}(h:ag es n 0=0\/ag es n 1≠f):vu es f (n+1)=vu es f n:=by rw[vu,VF (by rintro⟨a,b⟩;rcases h with q|q;exact a q;exact q b)]
def QE {es:ab}{f i:Int}(hi:0<=i)(h0:ag es i 0≠0)(h1:ag es i 1=f):vu es f (i+1).toNat=vu es f i.toNat++[[.i i]]:=by
 have e:((i.toNat:Nat):Int)=i:=Zo hi;rw[show(i+1).toNat=i.toNat+1 from by omega,Kn (by rw[e];exact h0) (by rw[e];exact h1),e]
def N0 {es:ab}{f i:Int}(hi:0<=i)(h:ag es i 0=0\/ag es i 1≠f):vu es f (i+1).toNat=vu es f i.toNat:=by
 have e:((i.toNat:Nat):Int)=i:=Zo hi;rw[show(i+1).toNat=i.toNat+1 from by omega,N1 (by rw[e];exact h)]
def DW {es:ab}{f:Int}:(pagesOn es f).length<=es.length:=Fo
def gP (es:ab)(f:Int):Bool:=decide (0<(pagesOn es f).length)
def E5 {es:ab}{f:Int}:gP es f=true↔0<(pagesOn es f).length:=by simp[gP]
def aax {cs us:ab}(h:inR cs.length 1 32=false):framesOk cs us=false:=by unfold framesOk;rw[h];rfl
def aay {cs us:ab}(h:us.length≠cs.length):framesOk cs us=false:=by unfold framesOk;rw[VC h];simp
def aaz {cs us:ab}{i:Int}(h0:0<=i)(h1:i<cs.length)(h:(aw cs i 0).length≠16):framesOk cs us=false:=by
 unfold framesOk;rw[bV h0 h1 (by unfold hN;rw[VC h];rfl)];simp
def Mx {cs us:ab}{i k:Int}(h0:0<=i)(h1:i<cs.length)(k0:0<=k)(k1:k<16)(h:inR (ag (aw cs i 0) k 0) 0 999=false\/qO us i 0=false/\ag (aw cs i 0) k 0≠0):framesOk cs us=false:=by
 unfold framesOk;rw[bV h0 h1 (by unfold hN;rw[bV k0 (by simpa using k1) (by unfold nP;rcases h with q|⟨q,q'⟩;rw[q];rfl;rw[q,VC q'];simp)];simp)];simp
def My {cs us:ab}{i:Int}(h1:inR cs.length 1 32=true)(h2:us.length=cs.length)(h:upto (hN cs us) i)(hi:(cs.length:Int)<=i):framesOk cs us=true:=by
 unfold framesOk;rw[h1,VB h2,bJ h hi];rfl
def Sj {cs us:ab}{i k:Int}(hl:(aw cs i 0).length=16)(h:upto (nP cs us i) k)(hk:16<=k):hN cs us i=true:=by
 unfold hN;rw[VB hl,bJ h (by simpa using hk)];rfl
def RV {cs us:ab}{i k:Int}(h:inR (ag (aw cs i 0) k 0) 0 999=true)(h':qO us i 0=true\/ag (aw cs i 0) k 0=0):nP cs us i k=true:=by
 unfold nP;rw[h];rcases h' with q|q
 ·rw[q];rfl
 ·rw[VB q];simp
def Fu {k:Nat}{a b:ab}(h:a=b):[DV.one (.s k a)]=[DV.one (.s k b)]:=by rw[h]
def aga {es:ab}{n i:Int}(h0:0<=i)(h1:i<es.length)(h:¬ (0<=ag es i 0/\ag es i 0<=2/\(ag es i 0=0->ag es i 1=0)/\(0<ag es i 0->0<=ag es i 1/\ag es i 1<n))):tableOk es n=false:=by
 unfold tableOk;rw[bV h0 h1];rfl;cases q:rk es n i;rfl
 ·refine absurd ?_ h;unfold rk at q;simp only[Zc,VD,bz]at q;exact⟨q.1.1.1,q.1.1.2,q.1.2,q.2⟩
def T5 {es:ab}{n i:Int}(h:0<=ag es i 0/\ag es i 0<=2/\(ag es i 0=0->ag es i 1=0)/\(0<ag es i 0->0<=ag es i 1/\ag es i 1<n)):rk es n i=true:=by
 unfold rk;simp only[Zc,VD,bz];exact⟨⟨⟨h.1,h.2.1⟩,h.2.2.1⟩,h.2.2.2⟩
def OI {es:ab}{n i:Int}(h:upto (rk es n) i)(hi:(es.length:Int)<=i):tableOk es n=inR es.length 1 32:=by unfold tableOk;rw[bJ h hi];rfl
def BW {es:ab}{n:Int}(h:tableOk es n=true):1<=es.length/\es.length<=32:=by
 unfold tableOk at h;simp only[Zc,bz]at h;omega
def T4 {es:ab}{n i:Int}(h:tableOk es n=true)(h0:0<=i)(h1:i<es.length):0<=ag es i 0/\ag es i 0<=2/\(ag es i 0=0->ag es i 1=0)/\(0<ag es i 0->0<=ag es i 1/\ag es i 1<n):=by
 unfold tableOk at h;simp only[Zc]at h;have q:=dN.1 h.1 i h0 h1;unfold rk at q;simp only[Zc,VD,bz]at q;exact⟨q.1.1.1,q.1.1.2,q.1.2,q.2⟩
def A7 {cs us:ab}(h:framesOk cs us=true):us.length=cs.length/\1<=cs.length/\cs.length<=32:=by
 unfold framesOk at h;simp only[Zc,VD,bz]at h;omega
def Si {cs us:ab}{i:Int}(h:framesOk cs us=true)(h0:0<=i)(h1:i<cs.length):(aw cs i 0).length=16:=by
 unfold framesOk at h;simp only[Zc,VD,bz]at h;have q:=dN.1 h.2 i h0 h1;unfold hN at q;simp only[Zc,VD]at q;exact q.1
end Go.V
namespace Go.V
def rJ {a n:Int}(h0:0<=a)(h1:a<=9223372036854775807)(hn:0<n):bK .quo Za a n=a/n:=by
 show Xj Za (a.tdiv n)=_;rw[Int.tdiv_eq_ediv_of_nonneg h0];have h2:0<=a/n:=Int.ediv_nonneg h0 Uc;have h3:a/n<=a:=Int.ediv_le_self _ h0;exact YZ _ Uc
def ve {a n:Int}(h0:0<=a):bK .rem Za a n=a%n:=Int.tmod_eq_emod_of_nonneg h0
def J2 {a:ab}{f:Int}:cM .gtr (pagesOn a f).length 0=gP a f:=ij (by rw[E5];simp only[SS];omega)
def Qo {a:ab}{f:Int}(h:(pagesOn a f).length=0):gP a f=false:=by unfold gP;rw[h];rfl
def Gg {a b a' b':Int}(h:a=a')(h':b=b'):[DV.agg [.i a,.i b]]=[DV.agg [.i a',.i b']]:=by rw[h,h']
def LU {a b c a' b' c':Int}(h:a=a')(h':b=b')(h'':c=c'):[DV.agg [.i a,.i b],DV.j c]=[DV.agg [.i a',.i b'],DV.j c']:=by rw[h,h',h'']
def sR {a b a' b':Int}(h:a=a')(h':b=b'):[DV.j a,DV.j b]=[DV.j a',DV.j b']:=by rw[h,h']
def dH {a b:Int}(h:a=b):[DV.j a]=[DV.j b]:=by rw[h]
def peM (es:ab)(p:Int):Int:=if 0<=p/\p<es.length then ag es p 0 else 0
def peF (es:ab)(p:Int):Int:=if 0<=p/\p<es.length then ag es p 1 else 0
def k7 {es:ab}{p:Int}(h:0<=p/\p<es.length):peM es p=ag es p 0/\peF es p=ag es p 1:=by unfold peM peF;rw[VE h,VE h];exact⟨rfl,rfl⟩
def uZ {es:ab}{p:Int}(h:¬ (0<=p/\p<es.length)):peM es p=0/\peF es p=0:=by unfold peM peF;rw[VF h,VF h];exact⟨rfl,rfl⟩
def ae8 {es:ab}{n p:Int}(h:tableOk es n=true)(hm:peM es p≠0):0<=peF es p/\peF es p<n/\1<=peM es p/\peM es p<=2:=by
 by_cases q:0<=p/\p<es.length
 ·rw[(k7 q).1]at hm ⊢;rw[(k7 q).2];have:=T4 h q.1 q.2;omega
 ·exact absurd (uZ q).1 hm
def leM (es:ab)(a:Int):Int:=if a<0 then 0 else peM es (a/16)
def leF (es:ab)(a:Int):Int:=if a<0 then 0 else peF es (a/16)
def leK (a:Int):Int:=if a<0 then 0 else a%16
def Bl {es:ab}{a:Int}(h:a<0):leM es a=0/\leF es a=0/\leK a=0:=by unfold leM leF leK;rw[VE h,VE h,VE h];exact⟨rfl,rfl,rfl⟩
def pS {es:ab}{a:Int}(h:¬ a<0):leM es a=peM es (a/16)/\leF es a=peF es (a/16)/\leK a=a%16:=by unfold leM leF leK;rw[VF h,VF h,VF h];exact⟨rfl,rfl,rfl⟩
end Go.V
namespace Go.V
def jh {fs:List Ty}{es:ab}{i:Int}(h:Rw [.sl fs] es)(h0:0<=i)(h1:i<es.length):es.take (i+1).toNat=es.take i.toNat++[[.s fs.length (aw es i 0)]]:=by
 rw[show(i+1).toNat=i.toNat+1 from by omega,fB (d:=[]) (show i.toNat<es.length by omega)];have e:=h.eta h0 h1;rw[e];rfl
def sv {fs:List Ty}{es:ab}{i:Int}(h:Rw [.sl fs] es)(h0:0<=i)(h1:i<es.length):au (aw es i 0)+es.length<=au es:=by
 have e:=h.eta h0 h1;have h2:=dk (es:=es) (n:=i.toNat) Uc;have h3:=bR (es:=es) (n:=i.toNat+1);rw[e]at h2;have h4:dO (mZ ah es i 0 (zR [Ty.sl fs]))=au (aw es i 0):=by
  show dO [.s fs.length (aw es i 0)]=_;simp only[dO,gW,au];omega
 rw[h4]at h2;show _<=es.length+bO es;omega
def aS {es:ab}:es.length<=au es:=Nat.le_add_right _ _
def jg {es:ab}{i:Int}(h:(es.length:Int)<=i):es.take i.toNat=es:=List.take_of_length_le Uc
def oF (us es:ab)(i:Int):Bool:=qO us i 0==gP es i
def machOk (cs us es:ab):Bool:=framesOk cs us&&tableOk es cs.length&&cC (oF us es) cs.length
def J7 {cs us es:ab}(h:framesOk cs us=false\/tableOk es cs.length=false):machOk cs us es=false:=by
 unfold machOk;rcases h with h|h<;>rw[h]<;>simp
def abz {cs us es:ab}(hf:framesOk cs us=true)(h:tableOk es us.length=false):machOk cs us es=false:=by
 rw[(A7 hf).1]at h;exact J7 (.inr h)
def No {cs us es:ab}{i:Int}(h0:0<=i)(h1:i<cs.length)(h:qO us i 0≠gP es i):machOk cs us es=false:=by
 unfold machOk;rw[bV h0 h1 (by unfold oF;simpa using h)];simp
def Nn {us es:ab}{i:Int}(h:qO us i 0=gP es i):oF us es i=true:=by unfold oF;simpa using h
def IA {cs us es:ab}{i:Int}(h:framesOk cs us=true)(h2:tableOk es us.length=true)(hu:upto (oF us es) i)(hi:(us.length:Int)<=i):machOk cs us es=true:=by
 rw[(A7 h).1]at h2 hi;unfold machOk;rw[h,h2,bJ hu hi];rfl
def S6 {cs us es:ab}(q:machOk cs us es=true):framesOk cs us=true/\tableOk es cs.length=true/\∀ i:Int,0<=i->i<cs.length->qO us i 0=gP es i:=by
 unfold machOk at q;simp only[Zc]at q;refine⟨q.1.1,q.1.2,fun i h0 h1=>?_⟩;have:=dN.1 q.2 i h0 h1;unfold oF at this;simpa using this
def GU:List ab->Int->List ab
 |[],_=>[]
 |r::rs,k=>dL r k::GU rs (bj [r] k)
def Bi:∀ {rs:List ab} {k k':Int},bj (GU rs k) k'=bj rs k'
 |[],_,_=>rfl
 | r::rs,k,k'=>by
   show bj (GU rs (bj [r] k)) (dx (dx r k).1 k').2=bj rs (dx r k').2;rw[fc];exact Bi
def Nl {rs:List ab}(h:∀ r∈rs,(dx r 0).2<=(64*au r:Nat))(hc:aP rs<=1099511627776):bj rs 1<=1152921504606846976:=M1 h Uc hc
def ga:∀ {rs:List ab} {r:ab} {n:Nat},aP rs<=n->r∈rs->au r<=n
 | a::rs,r,n,h,hr=>by
   simp only[aP]at h;rcases Zk.1 hr with rfl|q;omega;exact ga (rs:=rs) Uc q
end Go.V
namespace Go.V
def Di:∀ {fs:List Ty} {e:ax},bW fs e->e.length=fs.length
 |[],[],_=>rfl
 |[],_::_,h=>h.elim
 |_::_,[],h=>h.elim
 |_::fs,_::e,h=>by simp only[Zp];rw[Di h.2]
def Rw.wid {fs:List Ty}{es:ab}(h:Rw fs es){n:Nat}(hn:n<es.length):(es.getD n []).length=fs.length:=Di (h.at hn)
def Sw {t:Ty}{u:ab}{i:Int}(h:Rw [t] u)(h0:0<=i)(h1:i<u.length):∃ rec o',bT (.s 1 u) [(i.toNat,0)]=some (rec,o')/\o'+1<=rec.length:=il Uc (by rw[h.wid Uc];exact Zf _)
end Go.V
namespace Go.V
def sU (cs:ab)(fr k v:Int):ab:=cs.set fr.toNat [.s 1 ((aw cs fr 0).set k.toNat [.i v])]
def Ft {cs:ab}{fr:Int}(h:Rw [.sl [tI]] cs)(h0:0<=fr)(h1:fr<cs.length):cs.getD fr.toNat []=[.s 1 (aw cs fr 0)]:=h.eta h0 h1
def Rh {cs:ab}{fr k v:Int}(h:Rw [.sl [tI]] cs)(h0:0<=fr)(h1:fr<cs.length)(k0:0<=k)(k1:k<(aw cs fr 0).length):vk (.s 1 cs) [(fr.toNat,0),(k.toNat,0)] [.i v]=sU cs fr k v:=by
 have hr:Rw [tI] (aw cs fr 0):=Rw.sub (fs:=[.sl [tI]]) h Uc rfl;have hw:=hr.wid (n:=k.toNat) Uc;show cs.set fr.toNat ((cs.getD fr.toNat []).set 0 (mR ((cs.getD fr.toNat []).getD 0 .g) [(k.toNat,0)] [.i v]))=_;rw[Ft h h0 h1];show cs.set fr.toNat [.s 1 ((aw cs fr 0).set k.toNat (((aw cs fr 0).getD k.toNat []).take 0++[.i v]++((aw cs fr 0).getD k.toNat []).drop (0+1)))]=_;have hw':((aw cs fr 0).getD k.toNat []).length=1:=hw;rw[List.take_zero,List.drop_of_length_le Uc];rfl
def JK {cs:ab}{fr k:Int}(h:Rw [.sl [tI]] cs)(h0:0<=fr)(h1:fr<cs.length)(k0:0<=k)(k1:k<(aw cs fr 0).length):∃ rec o',bT (.s 1 cs) [(fr.toNat,0),(k.toNat,0)]=some (rec,o')/\o'+1<=rec.length:=by
 have hr:Rw [tI] (aw cs fr 0):=Rw.sub (fs:=[.sl [tI]]) h Uc rfl;have hw:=hr.wid (n:=k.toNat) Uc;refine⟨(aw cs fr 0).getD k.toNat [],0,?_,?_⟩
 ·have e:=Ft h h0 h1;have e1:cs[fr.toNat]?=some [.s 1 (aw cs fr 0)]:=by
   rw[Zn,Zr Uc]at e;rw[Zr Uc];simpa using e
  show(match cs[fr.toNat]? with
   | some rec=>match rec[0]? with
     |some l=>bT l [(k.toNat,0)]
     |none=>none
   |none=>none)=_
  rw[e1];show(((aw cs fr 0)[k.toNat]?).map (·,0))=_;rw[Zn,Zr Uc];rfl
 ·rw[hw];exact Zf _
def BB {cs:ab}{fr:Int}:vy (.s 1 cs) [(fr.toNat,0)]=aw cs fr 0:=u9
def aah {cs:ab}{fr:Int}(h:Rw [.sl [tI]] cs)(h0:0<=fr)(h1:fr<cs.length):cs[fr.toNat]?=some [.s 1 (aw cs fr 0)]:=by
 have e:=Ft h h0 h1;rw[Zn,Zr Uc]at e;rw[Zr Uc];simpa using e
def uI {cs:ab}{fr:Int}(h:Rw [.sl [tI]] cs)(h0:0<=fr)(h1:fr<cs.length):∃ rec o,bT (.s 1 cs) [(fr.toNat,0)]=some (rec,o)/\o+[L.s 1 []].length<=rec.length/\Yp [L.s 1 []].length (YI o rec)=oB ah (.s 1 cs) [(fr.toNat,0)] 0 [L.s 1 []]:=by
 refine⟨[.s 1 (aw cs fr 0)],0,?_,Zf _,?_⟩
 ·show(cs[fr.toNat]?).map (·,0)=_;rw[aah h h0 h1];rfl
 ·show[L.s 1 (aw cs fr 0)]=[L.s 1 (vy (.s 1 cs) [(fr.toNat,0)])];rw[BB]
def rn {cs:ab}{fr:Int}(h:Rw [.sl [tI]] cs)(h0:0<=fr)(h1:fr<cs.length):∃ es,lz (.s 1 cs) [(fr.toNat,0)]=some (1,es):=by
 refine⟨aw cs fr 0,?_⟩;rw[zk Uc,Ft h h0 h1];rfl
def Hi {cs:ab}{fr k v:Int}(h:Rw [.sl [tI]] cs)(h0:0<=fr)(h1:fr<cs.length)(hv: -9223372036854775808<=v/\v<=9223372036854775807):Rw [.sl [tI]] (sU cs fr k v):=by
 have hr:Rw [tI] (aw cs fr 0):=Rw.sub (fs:=[.sl [tI]]) h Uc rfl;exact h.set (show bW [.sl [tI]] [.s 1 _]from⟨⟨rfl,hr.set (show bW [tI] [.i v]from⟨⟨rfl,hv⟩,trivial⟩) _⟩,trivial⟩) _
def smM (cs us es:ab)(a:Int):Int:=if machOk cs us es=true then leM es a else 0
def smF (cs us es:ab)(a:Int):Int:=if machOk cs us es=true then leF es a else 0
def tz {cs us es:ab}{a:Int}(h:machOk cs us es=true):smM cs us es a=leM es a/\smF cs us es a=leF es a:=by unfold smM smF;rw[VE h,VE h];exact⟨rfl,rfl⟩
def xz {cs us es:ab}{a:Int}(h:machOk cs us es=false\/a<0):smM cs us es a=0/\smF cs us es a=0:=by
 unfold smM smF;rcases h with h|h
 ·rw[h];exact⟨rfl,rfl⟩
 ·rw[(Bl h).1,(Bl (es:=es) h).2.1];constructor<;>split<;>rfl
def Hg {cs us es:ab}{a:Int}(h:smM cs us es a≠0):machOk cs us es=true/\0<=a:=by
 constructor
 ·cases q:machOk cs us es
  ·exact absurd (xz (.inl q)).1 h
  ·rfl
 ·rcases Int.lt_or_le a 0 with q|q;exact absurd (xz (.inr q)).1 h;exact q
def OA {cs us es:ab}{a:Int}(h:smM cs us es a≠0):0<=smF cs us es a/\smF cs us es a<cs.length/\1<=smM cs us es a/\smM cs us es a<=2/\(aw cs (smF cs us es a) 0).length=16:=by
 obtain⟨h0,h1⟩:=Hg h;rw[(tz h0).1,(pS Uc).1]at h ⊢;rw[(tz h0).2,(pS Uc).2.1];have hm:=S6 h0;have hp:=ae8 hm.2.1 h;exact⟨hp.1,hp.2.1,hp.2.2.1,hp.2.2.2,Si hm.1 hp.1 hp.2.1⟩
def stK (cs us es:ab)(a v:Int):Int:=if smM cs us es a=0 then 1 else if smM cs us es a=1 then 2 else if inR v 0 999=true then 0 else 3
def stC (cs us es:ab)(a v:Int):ab:=if stK cs us es a v=0 then sU cs (smF cs us es a) (a%16) v else cs
def Hj {cs us es:ab}{a v:Int}(h:smM cs us es a=0):stK cs us es a v=1/\stC cs us es a v=cs:=by
 have:stK cs us es a v=1:=by unfold stK;rw[VE h]
 exact⟨this,by unfold stC;rw[this];rfl⟩
def Q2 {cs us es:ab}{a v:Int}(h:smM cs us es a=1):stK cs us es a v=2/\stC cs us es a v=cs:=by
 have:stK cs us es a v=2:=by unfold stK;rw[VF Uc,VE h]
 exact⟨this,by unfold stC;rw[this];rfl⟩
def Q3 {cs us es:ab}{a v:Int}(h0:smM cs us es a≠0)(h1:smM cs us es a≠1)(h:inR v 0 999=false):stK cs us es a v=3/\stC cs us es a v=cs:=by
 have:stK cs us es a v=3:=by unfold stK;rw[VF h0,VF h1,h];rfl
 exact⟨this,by unfold stC;rw[this];rfl⟩
def Q1 {cs us es:ab}{a v:Int}(h0:smM cs us es a≠0)(h1:smM cs us es a≠1)(h:inR v 0 999=true):stK cs us es a v=0/\stC cs us es a v=sU cs (smF cs us es a) (a%16) v:=by
 have:stK cs us es a v=0:=by unfold stK;rw[VF h0,VF h1,h];rfl
 exact⟨this,by unfold stC;rw[VE this]⟩
def vi {a b c a' b' c':ab}{x y:Int}(h1:a=a')(h2:b=b')(h3:c=c')(h4:x=y):[DV.agg [.s 1 a,.s 1 b,.s 2 c],DV.j x]=[DV.agg [.s 1 a',.s 1 b',.s 2 c'],DV.j y]:=by rw[h1,h2,h3,h4]
def acm {cs us es:ab}{a v:Int}(h:Rw [.sl [tI]] cs)(hv: -9223372036854775808<=v/\v<=9223372036854775807):Rw [.sl [tI]] (stC cs us es a v):=by
 unfold stC;split
 ·rename_i q;have hm:smM cs us es a≠0:=fun e=>by rw[(Hj e).1]at q;cases q
  have hf:=OA hm;exact Hi h hf.1 hf.2.1 hv
 ·exact h
def clsSz (k:Int):Int:=if k=0 then 1 else if k=1 then 2 else if k=2 then 4 else if k=3 then 8 else 0
def clsOf (s:Int):Int:=if s<1 then-1 else if s<=1 then 0 else if s<=2 then 1 else if s<=4 then 2 else if s<=8 then 3 else-1
def acT {k:Int}(h:inR k 0 3=false):clsSz k=0:=by rw[uJ]at h;unfold clsSz;repeat' split<;>omega
def RZ {k:Int}(h:inR k 0 3=true):TN .shl Za 1 k=clsSz k:=by
 rw[bz]at h;rcases(show k=0\/k=1\/k=2\/k=3 by omega)with rfl|rfl|rfl|rfl<;>decide
def R1 {k:Int}(h:inR k 0 3=true):wrI .u64 k=k:=by
 rw[bz]at h;rcases(show k=0\/k=1\/k=2\/k=3 by omega)with rfl|rfl|rfl|rfl<;>decide
def R0 {k s:Int}(h0:0<=k/\k<=3)(h:clsSz k<s)(hs:1<=s/\s<=8):k+1<=3:=by
 rcases(show k=0\/k=1\/k=2\/k=3 by omega)with rfl|rfl|rfl|rfl<;>simp[clsSz]at h<;>omega
def acS {s:Int}(h:s<1\/8<s):clsOf s= -1:=by unfold clsOf;repeat' split<;>omega
def aan {k s:Int}(h0:0<=k/\k<=3)(h:s<=clsSz k)(hs:1<=s/\s<=8)(hp:k=0\/clsSz (k-1)<s):clsOf s=k:=by
 rcases(show k=0\/k=1\/k=2\/k=3 by omega)with rfl|rfl|rfl|rfl<;>simp[clsSz]at h hp<;>unfold clsOf<;>repeat' split<;>omega
end Go.V
namespace Go.V
def ET {l:ab}{i:Int}(h:Rw [tI] l)(h0:0<=i)(h1:i<l.length): -9223372036854775808<=ag l i 0/\ag l i 0<=9223372036854775807:=by
 have e:=h.at (n:=i.toNat) Uc;rw[h.eta h0 h1]at e;have e':bW [tI] [.i (ag l i 0)]:=e;exact e'.1.2
def gS {l:ab}{i:Int}(h0:0<=i):C7 (.s 1 l) [(i.toNat,0)]=ag l i 0:=by
 rw[IR];unfold ag;rw[ZA]
def nA {l:ab}{i:Int}(h:Rw [tI] l)(h0:0<=i)(h1:i<l.length):∃ rec o,bT (.s 1 l) [(i.toNat,0)]=some (rec,o)/\o+[L.v (Zq Za 0)].length<=rec.length/\Yp [L.v (Zq Za 0)].length (YI o rec)=oB ah (.s 1 l) [(i.toNat,0)] 0 [L.v (Zq Za 0)]:=by
 have e:l.getD i.toNat []=[L.i (ag l i 0)]:=h.eta h0 h1;rw[Zn,Zr Uc]at e;have e1:l[i.toNat]?=some [.i (ag l i 0)]:=by
  rw[Zr Uc];exact congrArg some e
 refine⟨[.i (ag l i 0)],0,?_,Zf _,?_⟩
 ·rw[mK,e1];rfl
 ·show[L.i (ag l i 0)]=[L.i (C7 (.s 1 l) [(i.toNat,0)])];rw[gS h0]
end Go.V
namespace Go.V
def Mz (us:ab):Int:=match(Zl us.length).find? (fun j:Nat=> !qO us (j:Int) 0)with
 |some j=>(j:Int)
 |none=> -1
def Pq {fs:List Ty}{cs:ab}{fr:Int}(h:Rw [.sl fs] cs)(h0:0<=fr)(h1:fr<cs.length):cs[fr.toNat]?=some [.s fs.length (aw cs fr 0)]:=by
 have e:cs.getD fr.toNat []=[.s fs.length (aw cs fr 0)]:=h.eta h0 h1;rw[Zn,Zr Uc]at e;rw[Zr Uc];simpa using e
def Fp {es:ab}{f:Int}:∀ {n:Nat} {e:ax},e∈vu es f n->∃ k:Nat,k<n/\e=[.i k]
 |0,e,h=>by cases h
 | n+1,e,h=>by
   unfold vu at h;split at h
   ·rcases Zg.1 h with q|q
    ·obtain⟨k,hk,e⟩:=Fp q;exact⟨k,Uc,e⟩
    ·rw[List.mem_singleton]at q;exact⟨n,Uc,q⟩
   ·obtain⟨k,hk,e⟩:=Fp h;exact⟨k,Uc,e⟩
def NX {es:ab}{f:Int}(h:es.length<=1099511627776):Rw [tI] (pagesOn es f):=by
 have hl:=DW (es:=es) (f:=f);refine⟨by simp[maxLen];omega,fun e he=>?_⟩;obtain⟨k,hk,rfl⟩:=Fp he;exact⟨⟨rfl,(show-9223372036854775808<=(k:Int)/\(k:Int)<=9223372036854775807 by omega)⟩,trivial⟩
end Go.V
namespace Go.V
def cK (p:Int->Bool)(n:Nat):Int:=match(Zl n).find? (fun j:Nat=>p (j:Int))with
 |some j=>(j:Int)
 |none=> -1
def cY (p:Int->Bool)(j:Int):Bool:= !p j
def rE {p:Int->Bool}{i:Int}(h:p i=false):cY p i=true:=by unfold cY;rw[h];rfl
def gx {p:Int->Bool}{n:Nat}{i:Int}(h:upto (cY p) i)(h0:0<=i)(h1:i<n)(h2:p i=true):cK p n=i:=by
 have e:((i.toNat:Nat):Int)=i:=Zo h0;have:(Zl n).find? (fun j:Nat=>p (j:Int))=some i.toNat:=by
  rw[XZ];refine⟨by rw[e];exact h2,Z7.2 Uc,fun j hj=>?_⟩;exact h j Uc Uc
 unfold cK;rw[this];exact e
def fK {p:Int->Bool}{n:Nat}{i:Int}(h:upto (cY p) i)(h1:(n:Int)<=i):cK p n= -1:=by
 have:(Zl n).find? (fun j:Nat=>p (j:Int))=none:=by
  rw[Wy];intro j hj;exact h j Uc Uc
 unfold cK;rw[this]
def uB {p:Int->Bool}{n:Nat}:cK p n= -1\/0<=cK p n/\cK p n<n:=by
 unfold cK;split
 ·rename_i j h;rw[XZ]at h;have:=Z7.1 h.2.1;omega
 ·exact .inl rfl
def eqB (a b:Int):Bool:=decide (a=b)
def Gw {a b:Int}(h:a=b):eqB a b=true:=VB h
def Gv {a b:Int}(h:a≠b):eqB a b=false:=VC h
end Go.V
namespace Go.V
def af8 (f:Int->Int):Nat->Int
 |0=>0
 |n+1=>bK .add Za (af8 f n) (f n)
def szF (os:ab)(i:Int):Int:=ag os i 2
def lsI (os:ab):Int:=af8 (szF os) os.length
def ahx (os:ab)(a j:Int):Bool:=eqB (ag os j 1) a
def O5 (os:ab)(a:Int):Int:=cK (ahx os a) os.length
def isSp (ss:ab)(p j:Int):Bool:=eqB (ag ss j 0) p
def spI (ss:ab)(p:Int):Int:=cK (isSp ss p) ss.length
end Go.V
namespace Go.V
def fpg (es:ab)(p:Int):ab:=if peM es p=0 then[]else pagesOn es (peF es p)
def Mw {es:ab}{p:Int}(h:peM es p=0):fpg es p=[]:=by unfold fpg;rw[VE h]
def JI {es:ab}{p:Int}(h:peM es p≠0):fpg es p=pagesOn es (peF es p):=by unfold fpg;rw[VF h]
def aav {es:ab}{p:Int}(h:es.length<=1099511627776):Rw [tI] (fpg es p)/\(fpg es p).length<=1099511627776:=by
 unfold fpg;split;exact⟨Rw.nil,by simp⟩;exact⟨NX h,Nat.le_trans DW h⟩
def LD (l:ab)(x j:Int):Bool:=eqB x (ag l j 0)
def idxI (l:ab)(x:Int):Int:=cK (LD l x) l.length
def hasB (l:ab)(x:Int):Bool:=decide (0<=idxI l x)
def JL {l:ab}{x:Int}:hasB l x=true↔∃ k:Nat,k<l.length/\ag l k 0=x:=by
 unfold hasB idxI;rw[VD]
 constructor
 ·intro h;unfold cK at h;split at h
  ·rename_i j hj;rw[XZ]at hj;refine⟨j,Z7.1 hj.2.1,?_⟩;have:=hj.1;unfold LD eqB at this;exact(VG this).symm
  ·omega
 ·rintro⟨k,hk,e⟩;rcases uB (p:=LD l x) (n:=l.length)with q|q
  ·exfalso;unfold cK at q;split at q
   ·omega
   ·rename_i hn;rw[Wy]at hn;have:=hn k hk;unfold LD eqB at this;rw[e]at this;simp at this
  ·exact q.1
def ubI (ss l:ab)(b:Int):Nat->Int
 |0=>b
 |n+1=>if hasB l (ag ss n 0)=true then bK .or Za (ubI ss l b n) (ag ss n 2)else ubI ss l b n
def ubB (es ss:ab)(i:Int):Int:=if inR i 0 (ss.length-1)=true then ubI ss (fpg es (ag ss i 0)) (ag ss i 2) ss.length else 0
end Go.V
namespace Go.V
def slB (b i:Int):Bool:=decide (0<=b)&&inR i 0 15
def hsB (b i:Int):Bool:=slB b i&&decide (bK .and Za (TN .shr Za b i) 1=1)
def aiD {b i:Int}:slB b i=true↔0<=b/\0<=i/\i<=15:=by simp[slB,inR]
def ady {b i:Int}(h:slB b i=false):hsB b i=false:=by unfold hsB;rw[h];rfl
def OW {i:Int}(h0:0<=i)(h1:i<=15):wrI .u64 i=i:=by
 show Xj .u64 i=i;simp only[Xj,Vm,Vn,Bool.false_and];rw[VF (by simp)];omega
def LB (b:Int):Nat->Int
 |0=>0
 |n+1=>if hsB b n=true then bK .add Za (LB b n) 1 else LB b n
def ctI (b:Int):Int:=LB b 16
def aao {b i:Int}(h:0<=i)(q:hsB b i=true):LB b (i+1).toNat=bK .add Za (LB b i.toNat) 1:=by
 have e:((i.toNat:Nat):Int)=i:=Zo h;rw[show(i+1).toNat=i.toNat+1 by omega,LB,e,VE q]
def acU {b i:Int}(h:0<=i)(q:hsB b i=false):LB b (i+1).toNat=LB b i.toNat:=by
 have e:((i.toNat:Nat):Int)=i:=Zo h;rw[show(i+1).toNat=i.toNat+1 by omega,LB,e,q];rfl
def abJ (ss:ab)(i:Int):ax:=[.i (ag ss i 0),.i (ag ss i 1),.i (ag ss i 2)]
def zw (es ss:ab):Nat->ab
 |0=>[]
 |n+1=>if 0<ctI (ag ss n 2)/\(fpg es (ag ss n 0)).length=1 then zw es ss n++[abJ ss n]else zw es ss n
def msS (es ss:ab):ab:=zw es ss ss.length
def abK {es ss:ab}{i:Int}(h:0<=i)(q:0<ctI (ag ss i 2))(q2:(fpg es (ag ss i 0)).length=1):zw es ss (i+1).toNat=zw es ss i.toNat++[abJ ss i]:=by
 have e:((i.toNat:Nat):Int)=i:=Zo h;rw[show(i+1).toNat=i.toNat+1 by omega,zw,e,VE ⟨q,q2⟩]
def aey {es ss:ab}{i:Int}(h:0<=i)(q:¬ (0<ctI (ag ss i 2)/\(fpg es (ag ss i 0)).length=1)):zw es ss (i+1).toNat=zw es ss i.toNat:=by
 have e:((i.toNat:Nat):Int)=i:=Zo h;rw[show(i+1).toNat=i.toNat+1 by omega,zw,e,VF q]
def zx {es ss:ab}:∀ {n:Nat},(zw es ss n).length<=n
 |0=>Ze _
 | n+1=>by
   have:=zx (es:=es) (ss:=ss) (n:=n);unfold zw;split
   ·rw[Zh];simp;omega
   ·omega
def Nt {es ss:ab}(h:Rw [tI,tI,tI] ss):∀ {n:Nat},n<=ss.length->Rw [tI,tI,tI] (zw es ss n)
 |0,_=>Rw.nil
 | n+1,hn=>by
   have ih:=Nt (es:=es) h (n:=n) Uc;have hl:=zx (es:=es) (ss:=ss) (n:=n);have hm:=h.1;have hc:bW [tI,tI,tI] (abJ ss n):=by
    have e:=h.at (n:=n) Uc;have e2:=h.eta (i:=n) Uc Uc;rw[ZA]at e2;rw[e2]at e;exact e
   unfold zw;split;exact ih.append (Rw.one hc) (by simp;omega);exact ih
def Nx {es ss:ab}(h:Rw [tI,tI,tI] ss):Rw [tI,tI,tI] (msS es ss)/\au (msS es ss)<=au ss:=by
 have hr:=Nt (es:=es) h (Zf ss.length);have e1:=hr.cnt rfl;have e2:=h.cnt rfl;have hl:=zx (es:=es) (ss:=ss) (n:=ss.length);exact⟨hr,by unfold msS;omega⟩
end Go.V
namespace Go.V
def GY (rs:ab)(i:Int):Bool:=decide (0<=ag rs i 0)
def rK (rs:ab):Bool:=cC (GY rs) rs.length&&decide (rs.length<=40)
def kerOk (cs us es:ab)(c:Int)(rs:ab):Bool:=machOk cs us es&&inR c 0 100000&&rK rs
def Ob {rs:ab}{i:Int}(h:0<=ag rs i 0):GY rs i=true:=VB h
def Oc {cs us es rs:ab}{c i:Int}(h0:0<=i)(h1:i<rs.length)(h:ag rs i 0<0):kerOk cs us es c rs=false:=by
 unfold kerOk rK;rw[bV h0 h1 (by unfold GY;exact VC Uc)];simp
def QM {rs:ab}{i:Int}(h:upto (GY rs) i)(hi:(rs.length:Int)<=i)(hl:(rs.length:Int)<=40):rK rs=true:=by
 unfold rK;rw[bJ h hi,VB Uc];rfl
def QL {rs:ab}(hl:¬ (rs.length:Int)<=40):rK rs=false:=by
 unfold rK;rw[VC Uc];simp
def Qi {cs us es rs:ab}{c:Int}(h1:machOk cs us es=true)(h2:inR c 0 100000=true)(h3:rK rs=true):kerOk cs us es c rs=true:=by unfold kerOk;rw[h1,h2,h3];rfl
def Qg {cs us es rs:ab}{c:Int}(h1:machOk cs us es=false):kerOk cs us es c rs=false:=by unfold kerOk;rw[h1];rfl
def JS {cs us es rs:ab}{c:Int}(h1:inR c 0 100000=false):kerOk cs us es c rs=false:=by unfold kerOk;rw[h1];simp
def Qh {cs us es rs:ab}{c:Int}(h1:rK rs=false):kerOk cs us es c rs=false:=by unfold kerOk;rw[h1];simp
end Go.V
namespace Go.V
def Tl {a b:Int}(h: -9223372036854775808<=a*b/\a*b<=9223372036854775807):bK .mul Za a b=a*b:=YZ _ h
end Go.V
namespace Go.V
end Go.V
namespace Go.V
end Go.V
namespace Go.V
def slN (k:Int):Int:=if inR k 0 3=true then 16/clsSz k else 0
def PI {k:Int}(h:inR k 0 3=true):k=0\/k=1\/k=2\/k=3:=by have:=bz.1 h;omega
def lW {k:Int}(h:inR k 0 3=true):1<=clsSz k/\clsSz k<=8/\2<=slN k/\slN k<=16/\slN k*clsSz k=16:=by
 rcases PI h with rfl|rfl|rfl|rfl<;>decide
def Oy {k:Int}(h:inR k 0 3=true):bK .quo Za 16 (clsSz k)=slN k:=by
 rcases PI h with rfl|rfl|rfl|rfl<;>decide
def Oz {k:Int}(h:inR k 0 3=true):TN .shr Za 16 (wrI .u64 k)=slN k:=by
 rcases PI h with rfl|rfl|rfl|rfl<;>decide
def I3 {k:Int}(h:inR k 0 3=false):slN k=0:=by unfold slN;rw[h];rfl
def bmOk (n b:Int):Bool:=inR n 1 16&&inR b 0 (2^n.toNat-1)
def Ow {n:Int}(h:inR n 1 16=true):bK .sub Za (TN .shl Za 1 n) 1=2^n.toNat-1/\bK .sub Za (TN .shl Za 1 (wrI .u64 n)) 1=2^n.toNat-1/\0<=wrI .u64 n:=by
 have q:=bz.1 h;have:n=1\/n=2\/n=3\/n=4\/n=5\/n=6\/n=7\/n=8\/n=9\/n=10\/n=11\/n=12\/n=13\/n=14\/n=15\/n=16:=by omega
 rcases this with rfl|rfl|rfl|rfl|rfl|rfl|rfl|rfl|rfl|rfl|rfl|rfl|rfl|rfl|rfl|rfl<;>decide
def RI {n b:Int}(h:inR n 1 16=false):bmOk n b=false:=by unfold bmOk;rw[h];rfl
def L3 {n b:Int}(h:inR n 1 16=true):bmOk n b=inR b 0 (2^n.toNat-1):=by unfold bmOk;rw[h];rfl
def spOk (p k b:Int):Bool:=inR p 0 31&&bmOk (slN k) b
def L2 {k b:Int}(h:inR k 0 3=false):bmOk (slN k) b=false:=by rw[I3 h];rfl
def OE {p k b:Int}(h:inR p 0 31=false):spOk p k b=false:=by unfold spOk;rw[h];rfl
def ack {p k b:Int}(h:inR k 0 3=false):spOk p k b=false:=by unfold spOk;rw[L2 h,Z3]
def OF {p k b:Int}(h:inR p 0 31=true):spOk p k b=bmOk (slN k) b:=by unfold spOk;rw[h];rfl
def mT {p k b:Int}(h:spOk p k b=true):0<=p/\p<=31/\inR k 0 3=true/\bmOk (slN k) b=true:=by
 unfold spOk at h;simp only[Zc,bz]at h;refine⟨h.1.1,h.1.2,?_,h.2⟩;cases q:inR k 0 3
 ·rw[L2 q]at h;exact absurd h.2 (by decide)
 ·rfl
def pfN (s:Int):Int:=if inR s 9 1000=true then(s+15)/16 else 0
def abY {s:Int}(h:inR s 9 1000=true):bK .quo Za (bK .sub Za (bK .add Za s 16) 1) 16=pfN s:=by
 have q:=bz.1 h;have e1:bK .add Za s 16=s+16:=bD Uc;have e2:bK .sub Za (s+16) 1=s+16-1:=dp Uc;unfold pfN;rw[VE h,e1,e2,rJ Uc Uc Uc,show s+16-1=s+15 from by omega]
def Tw {s:Int}(h:inR s 9 1000=false):pfN s=0:=by unfold pfN;rw[h];rfl
def ng {s:Int}(h:inR s 9 1000=true):1<=pfN s/\pfN s<=63/\s<=pfN s*16:=by
 have q:=bz.1 h;unfold pfN;rw[VE h];omega
def NZ {s:Int}:0<pfN s↔inR s 9 1000=true:=by
 constructor
 ·intro h;cases q:inR s 9 1000
  ·rw[Tw q]at h;omega
  ·rfl
 ·intro h;have:=ng h;omega
def lgOk (p n s:Int):Bool:=inR s 9 1000&&(decide (n=pfN s)&&inR p 0 (32-n))
def M9 {p n s:Int}(h:inR s 9 1000=false):lgOk p n s=false:=by unfold lgOk;rw[h];rfl
def Na {p n s:Int}(h:n≠pfN s):lgOk p n s=false:=by unfold lgOk;rw[VC h];simp
def Nb {p n s:Int}(h:inR s 9 1000=true)(h2:n=pfN s):lgOk p n s=inR p 0 (32-n):=by unfold lgOk;rw[h,VB h2];rfl
def oE {p n s:Int}(h:lgOk p n s=true):inR s 9 1000=true/\n=pfN s/\0<=p/\p<=32-n:=by
 unfold lgOk at h;simp only[Zc,VD,bz]at h;exact⟨bz.2 h.1,h.2.1,h.2.2⟩
def HO (p k b a:Int):Bool:=spOk p k b&&inR a (p*16) (p*16+15)
def saS (p k b a:Int):Int:=if HO p k b a=true then(a-p*16)/clsSz k else-1
def saO (p k b a:Int):Int:=if HO p k b a=true then(a-p*16)%clsSz k else-1
def D1 {p k b a:Int}(h:HO p k b a=false):saS p k b a= -1/\saO p k b a= -1:=by unfold saS saO;rw[h];exact⟨rfl,rfl⟩
def BL {p k b a:Int}(h:HO p k b a=true):saS p k b a=(a-p*16)/clsSz k/\saO p k b a=(a-p*16)%clsSz k:=by unfold saS saO;rw[VE h,VE h];exact⟨rfl,rfl⟩
def G9 {p k b a:Int}:HO p k b a=true↔spOk p k b=true/\p*16<=a/\a<=p*16+15:=by unfold HO;rw[Zc,bz]
def aaB (p k b s:Int):Bool:=spOk p k b&&inR s 0 (slN k-1)
def aaI (p k b s:Int):Int:=if aaB p k b s=true then p*16+s*clsSz k else-1
def lhB (p n s a:Int):Bool:=lgOk p n s&&inR a (p*16) (p*16+s-1)
def loI (p n s a:Int):Int:=if lhB p n s a=true then a-p*16 else-1
def Ng {p n s a:Int}(h:lgOk p n s=false):lhB p n s a=false:=by unfold lhB;rw[h];rfl
def Ix {p n s a:Int}(h:lgOk p n s=true):lhB p n s a=inR a (p*16) (p*16+s-1):=by unfold lhB;rw[h];rfl
def ad6 {p n s a:Int}(h:lhB p n s a=false):loI p n s a= -1:=by unfold loI;rw[h];rfl
def abv {p n s a:Int}(h:lhB p n s a=true):loI p n s a=a-p*16:=by unfold loI;rw[VE h]
def II {a b:Int}(h: -9223372036854775808<=a*b/\a*b<=9223372036854775807):bK .mul Za a b=a*b:=YZ _ h
def ae9 {p:Int}(h:0<=p/\p<=31):bK .mul Za p 16=p*16/\bK .sub Za (bK .add Za (p*16) 16) 1=p*16+15:=by
 have e1:bK .mul Za p 16=p*16:=II Uc;have e2:bK .add Za (p*16) 16=p*16+16:=bD Uc;have e3:bK .sub Za (p*16+16) 1=p*16+16-1:=dp Uc;rw[e1,e2,e3];omega
def QQ {p k b a:Int}(h:spOk p k b=true)(h1:inR a (p*16) (p*16+15)=true):saS p k b a=bK .quo Za (bK .sub Za a (p*16)) (clsSz k)/\saO p k b a=bK .rem Za (bK .sub Za a (p*16)) (clsSz k):=by
 have t:=mT h;have q:=bz.1 h1;have c:=lW t.2.2.1;have y:=BL (G9.2 ⟨h,q⟩);have e:bK .sub Za a (p*16)=a-p*16:=dp Uc;rw[y.1,y.2,e,rJ Uc Uc Uc,ve Uc];exact⟨rfl,rfl⟩
def TH {p k b a:Int}(h:spOk p k b=false):HO p k b a=false:=by unfold HO;rw[h];rfl
def afP {p k b a:Int}(h:inR a (p*16) (p*16+15)=false):HO p k b a=false:=by unfold HO;rw[h,Z3]
def QR {p k b a:Int}(h:spOk p k b=true)(h0:¬ a<0)(h1:bK .quo Za a 16=p)(ha:a<=9223372036854775807):saS p k b a=bK .quo Za (bK .rem Za a 16) (clsSz k)/\saO p k b a=bK .rem Za (bK .rem Za a 16) (clsSz k):=by
 have t:=mT h;have c:=lW t.2.2.1;rw[rJ Uc ha Uc]at h1;have e:bK .rem Za a 16=a%16:=ve Uc;have y:=BL (G9.2 ⟨h,show p*16<=a/\a<=p*16+15 by omega⟩);rw[y.1,y.2,e,rJ Uc Uc Uc,ve Uc,show a-p*16=a%16 by omega];exact⟨rfl,rfl⟩
def TJ {p k b a:Int}(h0:a<0\/bK .quo Za a 16≠p)(ha:a<=9223372036854775807):HO p k b a=false:=by
 cases q:HO p k b a
 ·rfl
 ·obtain⟨h,h1⟩:=G9.1 q;have t:=mT h;rcases h0 with h0|h0;omega
  ·rw[rJ Uc ha Uc]at h0;omega
def aag {p k b s:Int}(h:spOk p k b=true)(h1:inR s 0 (slN k-1)=true):bK .add Za (bK .mul Za p 16) (bK .mul Za s (clsSz k))=aaI p k b s:=by
 have t:=mT h;have c:=lW t.2.2.1;have q:=bz.1 h1;have m1:0<=s*clsSz k:=Int.mul_nonneg q.1 Uc;have m2:s*clsSz k<=(slN k-1)*clsSz k:=Int.mul_le_mul_of_nonneg_right q.2 Uc;have m3:(slN k-1)*clsSz k=16-clsSz k:=by rw[Int.sub_mul,c.2.2.2.2,Int.one_mul]
 have e:bK .mul Za s (clsSz k)=s*clsSz k:=II Uc;rw[(ae9 ⟨t.1,t.2.1⟩).1,e];unfold aaI aaB;rw[h,h1];exact bD Uc
def RE {p k b s:Int}(h:spOk p k b=false\/inR s 0 (slN k-1)=false):aaI p k b s= -1:=by
 unfold aaI aaB;rcases h with h|h
 ·rw[h];rfl
 ·rw[h,Z3];rfl
def Nf {p n s:Int}(h:lgOk p n s=true):bK .mul Za p 16=p*16/\bK .add Za (bK .mul Za p 16) s=p*16+s/\bK .sub Za (bK .add Za (bK .mul Za p 16) s) 1=p*16+s-1:=by
 have t:=oE h;have b:=ng t.1;have q:=bz.1 t.1;have e1:bK .mul Za p 16=p*16:=II Uc;have e2:bK .add Za (p*16) s=p*16+s:=bD Uc;have e3:bK .sub Za (p*16+s) 1=p*16+s-1:=dp Uc;rw[e1,e2,e3];exact⟨rfl,rfl,rfl⟩
def abq {p n s a:Int}:lhB p n s a=true↔lgOk p n s=true/\p*16<=a/\a<=p*16+s-1:=by unfold lhB;rw[Zc,bz]
def ad5 {p n s a:Int}(h:lhB p n s a=true):bK .sub Za a (bK .mul Za p 16)=loI p n s a:=by
 obtain⟨h1,h2,h3⟩:=abq.1 h;have t:=oE h1;have b:=ng t.1;have q:=bz.1 t.1;rw[(Nf h1).1,abv h];exact dp Uc
end Go.V
namespace Go.V
def jd (l:List Int):ab:=l.map fun x=>[.i x]
def cq {l:List Int}:(jd l).length=l.length:=by unfold jd;rw[List.length_map]
def hP {a b:List Int}:jd (a++b)=jd a++jd b:=by unfold jd;rw[List.map_append]
def wB {l:List Int}{k:Nat}(h:k<l.length):ag (jd l) k 0=l[k]:=by
 have e:(jd l).getD k []=[.i l[k]]:=by
  unfold jd;rw[Zn,List.getElem?_map,Zr h];rfl
 unfold ag;rw[ZA,e];rfl
def rY {l:List Int}{x:Int}:hasB (jd l) x=true↔x∈l:=by
 rw[JL]
 constructor
 ·rintro⟨k,hk,e⟩;rw[cq]at hk;rw[wB hk]at e;rw[<-e];exact List.getElem_mem hk
 ·intro h;obtain⟨k,hk,e⟩:=List.getElem_of_mem h;exact⟨k,by rw[cq];exact hk,by rw[wB hk];exact e⟩
def zn {l:List Int}{x:Int}(h:hasB (jd l) x=false):x∉l:=fun m=>by rw[rY.2 m]at h;cases h
def wC {l:List Int}(h:∀ x∈l,-9223372036854775808<=x/\x<=9223372036854775807)(hl:l.length<=70368744177664):Rw [tI] (jd l):=by
 refine⟨by rw[cq];unfold maxLen;omega,fun e he=>?_⟩;obtain⟨x,hx,rfl⟩:=List.mem_map.1 he;have q:=h x hx;exact⟨⟨rfl,by show-9223372036854775808<=x/\x<=(9223372036854775807:Int);exact q⟩,trivial⟩
def aaC {l:ab}{x i:Int}(h:upto (cY (LD l x)) i)(hi:(l.length:Int)<=i):hasB l x=false:=by
 unfold hasB idxI;rw[fK h hi];rfl
def TU (sp:ab)(i:Int):Bool:=spOk (ag sp i 0) (ag sp i 1) (ag sp i 2)
def lgA (lg:ab)(i:Int):Bool:=lgOk (ag lg i 0) (ag lg i 1) (ag lg i 2)
def oQ (sp:ab):Nat->List Int
 |0=>[]
 |n+1=>oQ sp n++[ag sp n 0]
def sj (p:Int):Nat->List Int
 |0=>[]
 |n+1=>sj p n++[p+n]
def oP (lg:ab):Nat->List Int
 |0=>[]
 |n+1=>oP lg n++sj (ag lg n 0) (ag lg n 1).toNat
def BA (sp lg:ab):List Int:=oQ sp sp.length++oP lg lg.length
def layOk (sp lg:ab):Bool:=(cC (TU sp) sp.length&&cC (lgA lg) lg.length)&&decide (BA sp lg).Nodup
def rP {sp:ab}{i:Int}(h:0<=i):oQ sp (i+1).toNat=oQ sp i.toNat++[ag sp i 0]:=by
 rw[show(i+1).toNat=i.toNat+1 from by omega,oQ,Zo h]
def tn {lg:ab}{i:Int}(h:0<=i):oP lg (i+1).toNat=oP lg i.toNat++sj (ag lg i 0) (ag lg i 1).toNat:=by
 rw[show(i+1).toNat=i.toNat+1 from by omega,oP,Zo h]
def BC {p i:Int}(h:0<=i):sj p (i+1).toNat=sj p i.toNat++[p+i]:=by
 rw[show(i+1).toNat=i.toNat+1 from by omega,sj,Zo h]
def su {sp:ab}:∀ {n:Nat},(oQ sp n).length=n
 |0=>rfl
 |n+1=>by rw[oQ,Zh,su];rfl
def vc {p:Int}:∀ {n:Nat},(sj p n).length=n
 |0=>rfl
 |n+1=>by rw[sj,Zh,vc];rfl
def KO {sp:ab}:∀ (m n:Nat),n<=m->∃ r,oQ sp m=oQ sp n++r
 |0,n,h=>⟨[],by rw[show n=0 by omega];rfl⟩
 | m+1,n,h=>by
   by_cases c:n=m+1
   ·subst c;exact⟨[],by simp⟩
   ·obtain⟨r,e⟩:=KO (sp:=sp) m n Uc;exact⟨r++[ag sp m 0],by rw[oQ,e,Zj]⟩
def Kr {p:Int}:∀ (m n:Nat),n<=m->∃ r,sj p m=sj p n++r
 |0,n,h=>⟨[],by rw[show n=0 by omega];rfl⟩
 | m+1,n,h=>by
   by_cases c:n=m+1
   ·subst c;exact⟨[],by simp⟩
   ·obtain⟨r,e⟩:=Kr (p:=p) m n Uc;exact⟨r++[p+m],by rw[sj,e,Zj]⟩
def J3 {lg:ab}:∀ (m n:Nat),n<=m->∃ r,oP lg m=oP lg n++r
 |0,n,h=>⟨[],by rw[show n=0 by omega];rfl⟩
 | m+1,n,h=>by
   by_cases c:n=m+1
   ·subst c;exact⟨[],by simp⟩
   ·obtain⟨r,e⟩:=J3 (lg:=lg) m n Uc;exact⟨r++sj (ag lg m 0) (ag lg m 1).toNat,by rw[oP,e,Zj]⟩
def dup {a b l:List Int}{x:Int}(h:l=a++x::b)(hm:x∈a):¬ l.Nodup:=by
 rw[h,Zu];rintro⟨_,_,q⟩;exact q x hm x (by simp) rfl
def nD {a:List Int}{x:Int}(h:a.Nodup)(hx:x∉a):(a++[x]).Nodup:=by
 rw[Zu];exact⟨h,by simp,fun y hy z hz e=>by simp at hz;subst hz;subst e;exact hx hy⟩
def JV {sp lg:ab}{i:Int}(h0:0<=i)(h1:i<sp.length)(h:spOk (ag sp i 0) (ag sp i 1) (ag sp i 2)=false):layOk sp lg=false:=by
 unfold layOk;rw[bV h0 h1 h];rfl
def JW {sp lg:ab}{i:Int}(h0:0<=i)(h1:i<lg.length)(h:lgOk (ag lg i 0) (ag lg i 1) (ag lg i 2)=false):layOk sp lg=false:=by
 unfold layOk;rw[bV (p:=lgA lg) h0 h1 h,Z3];rfl
def JX {sp lg:ab}{i:Int}(h0:0<=i)(h1:i<sp.length)(h:ag sp i 0∈oQ sp i.toNat):layOk sp lg=false:=by
 obtain⟨r,e⟩:=KO (sp:=sp) sp.length (i+1).toNat Uc;rw[rP h0,Zj]at e;have:¬ (BA sp lg).Nodup:=dup (a:=oQ sp i.toNat) (b:=r++oP lg lg.length) (x:=ag sp i 0) (by unfold BA;rw[e,Zj];rfl) h;unfold layOk;rw[VC this,Z3]
def JY {sp lg:ab}{i k:Int}(h0:0<=i)(h1:i<lg.length)(k0:0<=k)(k1:k<ag lg i 1)(h:ag lg i 0+k∈oQ sp sp.length++oP lg i.toNat++sj (ag lg i 0) k.toNat):layOk sp lg=false:=by
 obtain⟨r,e⟩:=J3 (lg:=lg) lg.length (i+1).toNat Uc;obtain⟨r2,e2⟩:=Kr (p:=ag lg i 0) (ag lg i 1).toNat (k+1).toNat Uc;rw[tn h0,e2,BC k0]at e;have:¬ (BA sp lg).Nodup:=dup (a:=oQ sp sp.length++oP lg i.toNat++sj (ag lg i 0) k.toNat) (b:=r2++r) (x:=ag lg i 0+k) (by unfold BA;rw[e];simp only[Zj];rfl) h;unfold layOk;rw[VC this,Z3]
def JZ {sp lg:ab}{i j:Int}(h:upto (TU sp) i)(hi:(sp.length:Int)<=i)(h2:upto (lgA lg) j)(hj:(lg.length:Int)<=j)(hn:(BA sp lg).Nodup):layOk sp lg=true:=by
 unfold layOk;rw[bJ h hi,bJ h2 hj,VB hn];rfl
def M6 {sp lg:ab}(h:layOk sp lg=true):(∀ i:Int,0<=i->i<sp.length->spOk (ag sp i 0) (ag sp i 1) (ag sp i 2)=true)/\(∀ i:Int,0<=i->i<lg.length->lgOk (ag lg i 0) (ag lg i 1) (ag lg i 2)=true)/\(BA sp lg).Nodup:=by
 unfold layOk at h;simp only[Zc,VD]at h;exact⟨dN.1 h.1.1,dN.1 h.1.2,h.2⟩
def WfB (es:ab):Prop:=∀ e∈es,∃ (k:Int) (b:Bool),e=[.i k,.v (.bool b)]
def Bp {k:Int}{b:Bool}{es:ab}{n:Int}:eU ([.i k,.v (.bool b)]::es) n=if k=n then some (0,.bool b)else(eU es n).map fun p=>(p.1+1,p.2):=rfl
def rA {k:Int}{b:Bool}{es:ab}{n:Int}:mgbI ([.i k,.v (.bool b)]::es) n=if k=n then b else mgbI es n:=by
 unfold mgbI;rw[Bp];by_cases c:k=n
 ·rw[VE c,VE c]
 ·rw[VF c,VF c];cases eU es n with
  |none=>rfl
  |some p=>obtain⟨j,v⟩:=p;cases v<;>rfl
def Kd {k:Int}{b x:Bool}{es:ab}{n:Int}:pu ([.i k,.v (.bool b)]::es) n (.v (.bool x))=if k=n then[.i n,.v (.bool x)]::es else[.i k,.v (.bool b)]::pu es n (.v (.bool x)):=by
 unfold pu;rw[Bp];by_cases c:k=n
 ·rw[VE c,VE c];rfl
 ·rw[VF c,VF c];cases eU es n with
  |none=>rfl
  |some p=>rfl
def mub {x:Bool}{n:Int}:∀ {es:ab},WfB es->WfB (pu es n (.v (.bool x)))/\∀ m,mgbI (pu es n (.v (.bool x))) m=if m=n then x else mgbI es m
 | [],_=>by
   refine⟨fun e he=>?_,fun m=>?_⟩
   ·have:e=[.i n,.v (.bool x)]:=by simpa[pu,eU]using he
    exact⟨n,x,this⟩
   ·show mgbI [[.i n,.v (.bool x)]] m=_;rw[rA];by_cases c:m=n
    ·rw[VE c.symm,VE c]
    ·rw[VF (fun e=>c e.symm),VF c]
 | e::es,h=>by
   obtain⟨k,b,rfl⟩:=h e (by simp);have h':WfB es:=fun e he=>h e (by simp[he])
   obtain⟨a1,a2⟩:=mub (x:=x) (n:=n) h';rw[Kd];by_cases c:k=n
   ·rw[VE c];refine⟨fun e he=>?_,fun m=>?_⟩
    ·rcases Zk.1 he with rfl|he;exact⟨n,x,rfl⟩;exact h' e he
    ·rw[rA,rA];by_cases d:m=n
     ·rw[VE d.symm,VE d]
     ·rw[VF (fun e=>d e.symm),VF d,VF (fun e=>d (by rw[<-e,c]))]
   ·rw[VF c];refine⟨fun e he=>?_,fun m=>?_⟩
    ·rcases Zk.1 he with rfl|he;exact⟨k,b,rfl⟩;exact a1 e he
    ·rw[rA,rA,a2 m];by_cases d:k=m
     ·rw[VE d,VE d,VF (fun e=>c (d.trans e))]
     ·rw[VF d,VF d]
def muT (es:ab)(n:Int):ab:=pu es n (.v (.bool true))
structure sJ (es:ab)(l:List Int):Prop where
 wf:WfB es
 at_:∀ m,mgbI es m=true↔m∈l
def I0:sJ [] []:=⟨(fun e he=>by cases he),fun m=>by simp[mgbI,eU]⟩
def zB {es:ab}{l:List Int}{n:Int}(h:sJ es l):sJ (pu es n (.v (.bool true))) (l++[n]):=by
 have q:=mub (x:=true) (n:=n) h.wf;refine⟨q.1,fun m=>?_⟩;rw[q.2 m];by_cases c:m=n
 ·rw[VE c];simp[c]
 ·rw[VF c,h.at_ m];simp[c]
def one (x:Int):ab:=[[.i x]]
structure Pg (sp:ab)(i:Int)(o:ab):Prop where
 e:o=jd (oQ sp i.toNat)
 nd:(oQ sp i.toNat).Nodup
 ok:upto (TU sp) i
 b:∀ x∈oQ sp i.toNat,0<=x/\x<=64
structure LlP (sp lg:ab)(j:Int)(o:ab):Prop where
 e:o=jd (oQ sp sp.length++oP lg j.toNat)
 nd:(oQ sp sp.length++oP lg j.toNat).Nodup
 oks:upto (TU sp) sp.length
 ok:upto (lgA lg) j
 b:∀ x∈oQ sp sp.length++oP lg j.toNat,0<=x/\x<=64
 l:(oP lg j.toNat).length<=64*j.toNat
structure Pf (sp lg:ab)(j k:Int)(o:ab):Prop where
 e:o=jd (oQ sp sp.length++oP lg j.toNat++sj (ag lg j 0) k.toNat)
 nd:(oQ sp sp.length++oP lg j.toNat++sj (ag lg j 0) k.toNat).Nodup
 oks:upto (TU sp) sp.length
 ok:upto (lgA lg) j
 b:∀ x∈oQ sp sp.length++oP lg j.toNat++sj (ag lg j 0) k.toNat,0<=x/\x<=64
 l:(oP lg j.toNat).length<=64*j.toNat
def L5 {l:List Int}(h:∀ x∈l,0<=x/\x<=64)(hl:l.length<=70368744177664):Rw [tI] (jd l):=wC (fun x hx=>by have:=h x hx;omega) hl
def Gn {l:List Int}{x:Int}(h:∀ x∈l,0<=x/\x<=64)(hx:0<=x/\x<=64):∀ y∈l++[x],0<=y/\y<=64:=by
 intro y hy;rcases Zg.1 hy with q|q;exact h y q
 ·simp at q;rw[q];exact hx
def ahR {sp:ab}:Pg sp 0 []:=⟨rfl,ZL,bI,fun x hx=>by cases hx⟩
def Ni {sp o:ab}{i:Int}(h:Pg sp i o):o.length=i.toNat:=by rw[h.e,cq,su]
def ad7 {sp o:ab}{i:Int}(h:Pg sp i o)(hi:i<=1073741824):Rw [tI] o:=by
 have l:=Ni h;have e:=h.e;rw[e,cq]at l;rw[e];exact L5 h.b Uc
def abw {sp lg o:ab}{i:Int}(h:Pg sp i o)(h0:0<=i)(h1:i<sp.length)(hh:hasB o (ag sp i 0)=true):layOk sp lg=false:=by
 rw[h.e,rY]at hh;exact JX h0 h1 hh
def ad8 {sp o:ab}{i:Int}(h:Pg sp i o)(h0:0<=i)(hs:spOk (ag sp i 0) (ag sp i 1) (ag sp i 2)=true)(hh:hasB o (ag sp i 0)=false):Pg sp (i+1) (o++[[.i (ag sp i 0)]]):=by
 have t:=mT hs;have e:=h.e;rw[e]at hh;have hm:=zn hh;exact⟨by rw[rP h0,hP,e];rfl,by rw[rP h0];exact nD h.nd hm,bu h.ok hs,by rw[rP h0];exact Gn h.b Uc⟩
def abx {sp lg o:ab}{i:Int}(h:Pg sp i o)(h1:i<=sp.length)(h2:(sp.length:Int)<=i):LlP sp lg 0 o:=by
 have e:i.toNat=sp.length:=by omega
 have ei:i=sp.length:=by omega
 have q1:=h.e;have q2:=h.nd;have q3:=h.ok;have q4:=h.b;rw[e]at q1 q2 q4;rw[ei]at q3;exact⟨by rw[q1];simp[oP],by simpa[oP]using q2,q3,bI,by simpa[oP]using q4,by simp[oP]⟩
def ahQ {sp lg o:ab}{j:Int}(h:LlP sp lg j o):Pf sp lg j 0 o:=by
 refine⟨by rw[h.e];simp[sj],by simpa[sj]using h.nd,h.oks,h.ok,by simpa[sj]using h.b,h.l⟩
def Nh {sp lg o:ab}{j k:Int}(h:Pf sp lg j k o):o.length<=sp.length+64*j.toNat+k.toNat:=by
 have l:=h.l;rw[h.e,cq,Zh,Zh,su,vc];omega
def ad3 {sp lg o:ab}{j k:Int}(h:Pf sp lg j k o)(h1:sp.length<=1073741824)(h2:j<=1073741824)(h3:k<=64):Rw [tI] o:=by
 have l:=Nh h;have e:=h.e;rw[e,cq]at l;rw[e];exact L5 h.b Uc
def abr {sp lg o:ab}{j k:Int}(h:Pf sp lg j k o)(h0:0<=j)(h1:j<lg.length)(k0:0<=k)(k1:k<ag lg j 1)(hh:hasB o (ag lg j 0+k)=true):layOk sp lg=false:=by
 rw[h.e,rY]at hh;exact JY h0 h1 k0 k1 hh
def ad2 {p n s k:Int}(h:lgOk p n s=true)(k0:0<=k)(k1:k<n):0<=p/\p+k<=32/\bK .add Za p k=p+k/\1<=n/\n<=32:=by
 have t:=oE h;have b:=ng t.1;have e:bK .add Za p k=p+k:=bD Uc;exact⟨Uc,Uc,e,Uc,Uc⟩
def ad4 {sp lg o:ab}{j k:Int}(h:Pf sp lg j k o)(k0:0<=k)(hx:0<=ag lg j 0+k/\ag lg j 0+k<=64)(hh:hasB o (ag lg j 0+k)=false):Pf sp lg j (k+1) (o++[[.i (ag lg j 0+k)]]):=by
 have e:=h.e;rw[e]at hh;have hm:=zn hh;have q:∀ A:List Int,A++sj (ag lg j 0) (k+1).toNat=A++sj (ag lg j 0) k.toNat++[ag lg j 0+k]:=fun A=>by rw[BC k0,Zj]
 exact⟨by rw[q,hP,e];rfl,by rw[q];exact nD h.nd hm,h.oks,h.ok,by rw[q];exact Gn h.b hx,h.l⟩
def abt {sp lg o:ab}{j k:Int}(h:Pf sp lg j k o)(j0:0<=j)(hl:lgOk (ag lg j 0) (ag lg j 1) (ag lg j 2)=true)(k0:0<=k)(k1:k<=ag lg j 1)(k2:ag lg j 1<=k):LlP sp lg (j+1) o:=by
 have t:=oE hl;have b:=ng t.1;have ek:k.toNat=(ag lg j 1).toNat:=by omega
 have q1:=h.e;have q2:=h.nd;have q4:=h.b;have q5:=h.l;rw[ek,Zj, <-tn j0]at q1 q2 q4;refine⟨q1,q2,h.oks,bu h.ok hl,q4,?_⟩;rw[tn j0,Zh,vc];omega
def abu {sp lg o:ab}{j:Int}(h:LlP sp lg j o)(j1:j<=lg.length)(j2:(lg.length:Int)<=j):layOk sp lg=true:=by
 have e:j.toNat=lg.length:=by omega
 have q:=h.nd;rw[e]at q;exact JZ h.oks (Yh _) h.ok j2 q
end Go.V
namespace Go.V
structure IsP (sp:ab)(i:Int)(es:ab):Prop where
 s:sJ es (oQ sp i.toNat)
 nd:(oQ sp i.toNat).Nodup
 ok:upto (TU sp) i
structure IlP (sp lg:ab)(j:Int)(es:ab):Prop where
 s:sJ es (oQ sp sp.length++oP lg j.toNat)
 nd:(oQ sp sp.length++oP lg j.toNat).Nodup
 oks:upto (TU sp) sp.length
 ok:upto (lgA lg) j
structure IkP (sp lg:ab)(j k:Int)(es:ab):Prop where
 s:sJ es (oQ sp sp.length++oP lg j.toNat++sj (ag lg j 0) k.toNat)
 nd:(oQ sp sp.length++oP lg j.toNat++sj (ag lg j 0) k.toNat).Nodup
 oks:upto (TU sp) sp.length
 ok:upto (lgA lg) j
def Oo {es:ab}{l:List Int}{n:Int}(h:sJ es l)(e:mgbI es n=false):n∉l:=fun m=>by rw[(h.at_ n).2 m]at e;cases e
def ahy {sp:ab}:IsP sp 0 []:=⟨I0,ZL,bI⟩
def aa3 {sp lg es:ab}{i:Int}(h:IsP sp i es)(h0:0<=i)(h1:i<sp.length)(hh:mgbI es (ag sp i 0)=true):layOk sp lg=false:=
 JX h0 h1 ((h.s.at_ _).1 hh)
def adH {sp es:ab}{i:Int}(h:IsP sp i es)(h0:0<=i)(hs:spOk (ag sp i 0) (ag sp i 1) (ag sp i 2)=true)(hh:mgbI es (ag sp i 0)=false):IsP sp (i+1) (muT es (ag sp i 0)):=
 ⟨by rw[rP h0];exact zB h.s,by rw[rP h0];exact nD h.nd (Oo h.s hh),bu h.ok hs⟩
def aa4 {sp lg es:ab}{i:Int}(h:IsP sp i es)(h1:i<=sp.length)(h2:(sp.length:Int)<=i):IlP sp lg 0 es:=by
 have e:i.toNat=sp.length:=by omega
 have ei:i=sp.length:=by omega
 have q1:=h.s;have q2:=h.nd;have q3:=h.ok;rw[e]at q1 q2;rw[ei]at q3;exact⟨by simpa[oP]using q1,by simpa[oP]using q2,q3,bI⟩
def ahv {sp lg es:ab}{j:Int}(h:IlP sp lg j es):IkP sp lg j 0 es:=
 ⟨by simpa[sj]using h.s,by simpa[sj]using h.nd,h.oks,h.ok⟩
def aaW {sp lg es:ab}{j k:Int}(h:IkP sp lg j k es)(h0:0<=j)(h1:j<lg.length)(k0:0<=k)(k1:k<ag lg j 1)(hh:mgbI es (ag lg j 0+k)=true):layOk sp lg=false:=
 JY h0 h1 k0 k1 ((h.s.at_ _).1 hh)
def adF {sp lg es:ab}{j k:Int}(h:IkP sp lg j k es)(k0:0<=k)(hh:mgbI es (ag lg j 0+k)=false):IkP sp lg j (k+1) (muT es (ag lg j 0+k)):=by
 have q:∀ A:List Int,A++sj (ag lg j 0) (k+1).toNat=A++sj (ag lg j 0) k.toNat++[ag lg j 0+k]:=fun A=>by rw[BC k0,Zj]
 exact⟨by rw[q];exact zB h.s,by rw[q];exact nD h.nd (Oo h.s hh),h.oks,h.ok⟩
def aaX {sp lg es:ab}{j k:Int}(h:IkP sp lg j k es)(j0:0<=j)(hl:lgOk (ag lg j 0) (ag lg j 1) (ag lg j 2)=true)(k1:k<=ag lg j 1)(k2:ag lg j 1<=k):IlP sp lg (j+1) es:=by
 have ek:k.toNat=(ag lg j 1).toNat:=by omega
 have q1:=h.s;have q2:=h.nd;rw[ek,Zj, <-tn j0]at q1 q2;exact⟨q1,q2,h.oks,bu h.ok hl⟩
def aaY {sp lg es:ab}{j:Int}(h:IlP sp lg j es)(j1:j<=lg.length)(j2:(lg.length:Int)<=j):layOk sp lg=true:=by
 have e:j.toNat=lg.length:=by omega
 have q:=h.nd;rw[e]at q;exact JZ h.oks (Yh _) h.ok j2 q
def aeR {b:Bool}(h:(!b)=false):b=true:=by cases b<;>simp_all
def aeS {b:Bool}(h:(!b)=true):b=false:=by cases b<;>simp_all
end Go.V
namespace Go.V
def Fw (sp:ab)(a i:Int):Bool:=decide (0<=saS (ag sp i 0) (ag sp i 1) (ag sp i 2) a)
def GO (lg:ab)(a i:Int):Bool:=lhB (ag lg i 0) (ag lg i 1) (ag lg i 2) a
def pp (sp:ab)(a:Int):Int:=cK (Fw sp a) sp.length
def CZ (lg:ab)(a:Int):Int:=cK (GO lg a) lg.length
def O6 (sp:ab)(a i:Int):Int:=saS (ag sp i 0) (ag sp i 1) (ag sp i 2) a
def soA (sp:ab)(a i:Int):Int:=saO (ag sp i 0) (ag sp i 1) (ag sp i 2) a
def loA (lg:ab)(a i:Int):Int:=loI (ag lg i 0) (ag lg i 1) (ag lg i 2) a
def dnK (sp lg:ab)(a:Int):Int:=if 0<=pp sp a then(if hsB (ag sp (pp sp a) 2) (O6 sp a (pp sp a))then 1 else 2)else if 0<=CZ lg a then 3 else 0
def dnI (sp lg:ab)(a:Int):Int:=if 0<=pp sp a then pp sp a else if 0<=CZ lg a then CZ lg a else 0
def dnS (sp:ab)(a:Int):Int:=if 0<=pp sp a then O6 sp a (pp sp a)else 0
def dnO (sp lg:ab)(a:Int):Int:=if 0<=pp sp a then soA sp a (pp sp a)else if 0<=CZ lg a then loA lg a (CZ lg a)else 0
def dzK (sp lg:ab)(a:Int):Int:=if layOk sp lg then dnK sp lg a else 0
def dzI (sp lg:ab)(a:Int):Int:=if layOk sp lg then dnI sp lg a else 0
def dzS (sp lg:ab)(a:Int):Int:=if layOk sp lg then dnS sp a else 0
def dzO (sp lg:ab)(a:Int):Int:=if layOk sp lg then dnO sp lg a else 0
def afO {sp:ab}{a i:Int}(h:upto (cY (Fw sp a)) i)(hs:saS (ag sp i 0) (ag sp i 1) (ag sp i 2) a<0):upto (cY (Fw sp a)) (i+1):=
 bu h (by unfold cY Fw;rw[VC Uc];rfl)
def adW {lg:ab}{a i:Int}(h:upto (cY (GO lg a)) i)(hs:lhB (ag lg i 0) (ag lg i 1) (ag lg i 2) a=false):upto (cY (GO lg a)) (i+1):=
 bu h (by unfold cY GO;rw[hs];rfl)
def Sk {sp:ab}{a i:Int}(h:upto (cY (Fw sp a)) i)(h0:0<=i)(h1:i<sp.length)(hs:0<=saS (ag sp i 0) (ag sp i 1) (ag sp i 2) a):pp sp a=i:=
 gx h h0 h1 (VB hs)
def Sl {sp:ab}{a i:Int}(h:upto (cY (Fw sp a)) i)(h1:(sp.length:Int)<=i):pp sp a= -1:=fK h h1
def ac5 {lg:ab}{a i:Int}(h:upto (cY (GO lg a)) i)(h0:0<=i)(h1:i<lg.length)(hs:lhB (ag lg i 0) (ag lg i 1) (ag lg i 2) a=true):CZ lg a=i:=
 gx h h0 h1 hs
def ac6 {lg:ab}{a i:Int}(h:upto (cY (GO lg a)) i)(h1:(lg.length:Int)<=i):CZ lg a= -1:=fK h h1
def owL (k i s o:Int):List DV:=[DV.agg [.i k,.i i,.i s,.i o]]
def O1 (sp lg:ab)(a:Int):List DV:=owL (dnK sp lg a) (dnI sp lg a) (dnS sp a) (dnO sp lg a)
def dzL (sp lg:ab)(a:Int):List DV:=owL (dzK sp lg a) (dzI sp lg a) (dzS sp lg a) (dzO sp lg a)
def ow1 {sp lg:ab}{a i:Int}(h:upto (cY (Fw sp a)) i)(h0:0<=i)(h1:i<sp.length)(hs:0<=saS (ag sp i 0) (ag sp i 1) (ag sp i 2) a)(hh:hsB (ag sp i 2) (saS (ag sp i 0) (ag sp i 1) (ag sp i 2) a)=true):
 owL 1 i (saS (ag sp i 0) (ag sp i 1) (ag sp i 2) a) (saO (ag sp i 0) (ag sp i 1) (ag sp i 2) a)=O1 sp lg a:=by
 have e:=Sk h h0 h1 hs;unfold O1 dnK dnI dnS dnO O6 soA;rw[e,VE h0,VE h0,VE h0,VE h0,hh];rfl
def ow2 {sp lg:ab}{a i:Int}(h:upto (cY (Fw sp a)) i)(h0:0<=i)(h1:i<sp.length)(hs:0<=saS (ag sp i 0) (ag sp i 1) (ag sp i 2) a)(hh:hsB (ag sp i 2) (saS (ag sp i 0) (ag sp i 1) (ag sp i 2) a)=false):
 owL 2 i (saS (ag sp i 0) (ag sp i 1) (ag sp i 2) a) (saO (ag sp i 0) (ag sp i 1) (ag sp i 2) a)=O1 sp lg a:=by
 have e:=Sk h h0 h1 hs;unfold O1 dnK dnI dnS dnO O6 soA;rw[e,VE h0,VE h0,VE h0,VE h0,hh];rfl
def ow3 {sp lg:ab}{a i j:Int}(h:upto (cY (Fw sp a)) i)(h1:(sp.length:Int)<=i)(g:upto (cY (GO lg a)) j)(j0:0<=j)(j1:j<lg.length)(hh:lhB (ag lg j 0) (ag lg j 1) (ag lg j 2) a=true):
 owL 3 j 0 (loI (ag lg j 0) (ag lg j 1) (ag lg j 2) a)=O1 sp lg a:=by
 have e:=Sl h h1;have f:=ac5 g j0 j1 hh;have n:¬ (0:Int)<= -1:=by omega
 unfold O1 dnK dnI dnS dnO loA;rw[e,f,VF n,VF n,VF n,VF n,VE j0,VE j0,VE j0]
def ow4 {sp lg:ab}{a i j:Int}(h:upto (cY (Fw sp a)) i)(h1:(sp.length:Int)<=i)(g:upto (cY (GO lg a)) j)(j1:(lg.length:Int)<=j):
 owL 0 0 0 0=O1 sp lg a:=by
 have e:=Sl h h1;have f:=ac6 g j1;have n:¬ (0:Int)<= -1:=by omega
 unfold O1 dnK dnI dnS dnO;rw[e,f,VF n,VF n,VF n,VF n,VF n,VF n,VF n]
def PQ {sp lg:ab}{a:Int}(h:layOk sp lg=true):O1 sp lg a=dzL sp lg a:=by
 unfold dzL O1 dzK dzI dzS dzO;rw[VE h,VE h,VE h,VE h]
def ag9 {sp lg:ab}{a:Int}(h:layOk sp lg=false):owL 0 0 0 0=dzL sp lg a:=by
 have n:¬ layOk sp lg=true:=by rw[h];decide
 unfold dzL dzK dzI dzS dzO;rw[VF n,VF n,VF n,VF n]
end Go.V
namespace Go.V
def yQ (sp lg:ab)(a:Int):Bool:=decide (dzO sp lg a=0)&&(decide (dzK sp lg a=1)||decide (dzK sp lg a=3))
def O4 (sp lg:ab):Nat->ab
 |0=>[]
 |n+1=>O4 sp lg n++(if yQ sp lg n then[[.i n]]else[])
def laL (sp lg:ab):ab:=if layOk sp lg then O4 sp lg 512 else[]
structure Pe (sp lg:ab)(i:Int)(o:ab):Prop where
 e:o=O4 sp lg i.toNat
 l:o.length<=i.toNat
 y:0<i->layOk sp lg=true
def ahN {sp lg:ab}:Pe sp lg 0 []:=⟨rfl,Zf _,fun h=>absurd h Uc⟩
def M3 {sp lg:ab}{i:Int}(h:0<=i):O4 sp lg (i+1).toNat=O4 sp lg i.toNat++(if yQ sp lg i then[[.i i]]else[]):=by
 rw[show(i+1).toNat=i.toNat+1 from by omega,O4,Zo h]
def M5 {sp lg o:ab}{i:Int}(h:Pe sp lg i o)(h0:0<=i)(hl:layOk sp lg=true)(hv:yQ sp lg i=true):Pe sp lg (i+1) (o++[[.i i]]):=by
 have e:=h.e;have l:=h.l;refine⟨by rw[M3 h0,VE hv, <-e],?_,fun _=>hl⟩;rw[Zh,Zp,List.length_nil];omega
def SQ {sp lg o:ab}{i:Int}(h:Pe sp lg i o)(h0:0<=i)(hl:layOk sp lg=true)(hv:yQ sp lg i=false):Pe sp lg (i+1) o:=by
 have e:=h.e;have l:=h.l;refine⟨by rw[M3 h0,hv, <-e];simp,?_,fun _=>hl⟩;omega
def abp {sp lg o:ab}{i:Int}(h:Pe sp lg i o)(h1:i<=512)(h2:512<=i):o=laL sp lg:=by
 have e:i=512:=by omega
 subst e;unfold laL;rw[VE (h.y Uc)];exact h.e
def abo {sp lg o:ab}{i:Int}(h:Pe sp lg i o)(h0:0<=i)(hl:layOk sp lg=false):o=laL sp lg:=by
 have z:i=0:=by
  by_cases c:0<i
  ·have:=h.y c;rw[hl]at this;cases this
  ·omega
 subst z;unfold laL;rw[hl];exact h.e
def aec {sp lg:ab}{a:Int}(h:dzO sp lg a=0)(k:dzK sp lg a=1):yQ sp lg a=true:=by unfold yQ;rw[h,k];rfl
def aed {sp lg:ab}{a:Int}(h:dzO sp lg a=0)(k:dzK sp lg a=3):yQ sp lg a=true:=by unfold yQ;rw[h,k];rfl
def ad9 {sp lg:ab}{a:Int}(h:dzO sp lg a≠0):yQ sp lg a=false:=by unfold yQ;rw[VC h];rfl
def aea {sp lg:ab}{a:Int}(h:dzK sp lg a≠1)(k:dzK sp lg a≠3):yQ sp lg a=false:=by unfold yQ;rw[VC h,VC k,Bool.or_false,Z3]
def oL {a b:ab}(h:a=b):[DV.one (.s 1 a)]=[DV.one (.s 1 b)]:=by rw[h]
end Go.V