/- Plain facts. -/
import Derived.Test.YtcbcfelbafccpaaGreatXVE
set_option linter.all false
open Go
open BitVec renaming ofInt->ZR
open Bool renaming and_eq_true->Zb,and_false->Yb
open Int renaming toNat_of_nonneg->Zm,tmod_eq_emod_of_nonneg->Wz,toNat_natCast->ZI,le_trans->XZ,le_refl->Yl
open IntKind renaming has->Xw,wrap->YT,bits->WB,signed->WC,i64->Za
open IntWalk renaming i64_in->YU
open List renaming range->Ze,mem_range->Z2,mem_cons->Zj,getD_eq_getElem?_getD->Zp,getElem?_eq_getElem->Zt,take->Yo,drop->YA,find?_range_eq_some->Xx,find?_range_eq_none->WA,replicate->Zk,length_replicate->YX,append_assoc->Zn,nodup_append->Zu
open Nat renaming le_refl->Zf,le_trans->ZA
open Value renaming int->Zq
namespace Go.V
def acv {n:Int}(h:Xw Za n): -9223372036854775808<=n/\n<=9223372036854775807:=h
def di {i:Int}(h0:0<=i)(h1:i<9223372036854775807):bK .add Za i 1=i+1:=cu Uc
def inR (x a b:Int):Bool:=decide (a<=x)&&decide (x<=b)
def bB {x a b:Int}:inR x a b=true↔a<=x/\x<=b:=by simp[inR]
def sW {x a b:Int}:inR x a b=false↔x<a\/b<x:=by
 cases h:inR x a b
 ·simp only[true_iff];unfold inR at h;simp only[Bool.and_eq_false_iff,decide_eq_false_iff_not]at h;omega
 ·rw[bB]at h;constructor
  ·intro q;cases q
  ·omega
def dj (p:Int->Bool)(n:Nat):Bool:=(Ze n).all fun j=>p (j:Int)
def upto (p:Int->Bool)(i:Int):Prop:=∀ j:Int,0<=j->j<i->p j=true
def bR {p:Int->Bool}:upto p 0:=fun j h0 h1=>absurd h1 Uc
def bL {p:Int->Bool}{i:Int}(h:upto p i)(hp:p i=true):upto p (i+1):=fun j h0 h1=>by
 by_cases q:j=i
 ·subst q;exact hp
 ·exact h j h0 Uc
def dI {p:Int->Bool}{n:Nat}:dj p n=true↔upto p n:=by
 simp only[dj,List.all_eq_true,Z2];exact⟨fun h j h0 h1=>by have:=h j.toNat Uc;rwa [Zm h0]at this,fun h x hx=>h x Uc Uc⟩
def cv {p:Int->Bool}{n:Nat}{i:Int}(h:upto p i)(hi:(n:Int)<=i):dj p n=true:=dI.2 fun j h0 h1=>h j h0 Uc
def cM {p:Int->Bool}{n:Nat}{i:Int}(h0:0<=i)(h:i<n)(hp:p i=false):dj p n=false:=by
 cases q:dj p n
 ·rfl
 ·rw[dI.1 q i h0 h]at hp;cases hp
def k8 {a b:Bool}(h:a=true↔b=true):a=b:=by cases a<;>cases b<;>simp_all
def au {a b:Bool}(h:a=b):[DV.k a]=[DV.k b]:=by rw[h]
def nz (cs us:af)(i k:Int):Bool:=inR (ag (aO cs i 0) k 0) 0 999&&(pA us i 0||decide (ag (aO cs i 0) k 0=0))
def iO (cs us:af)(i:Int):Bool:=decide ((aO cs i 0).length=16)&&dj (nz cs us i) 16
def framesOk (cs us:af):Bool:=inR cs.length 1 32&&decide (us.length=cs.length)&&dj (iO cs us) cs.length
def qg (es:af)(fr i:Int):Bool:=inR (ag es i 0) 0 2&&decide (ag es i 0=0->ag es i 1=0)&&decide (0<ag es i 0->0<=ag es i 1/\ag es i 1<fr)
def tableOk (es:af)(fr:Int):Bool:=dj (qg es fr) es.length&&inR es.length 1 32
def vO (es:af)(f:Int):Nat->af
 |0=>[]
 |n+1=>if ag es n 0≠0/\ag es n 1=f then vO es f n++[[.i n]]else vO es f n
def pagesOn (es:af)(f:Int):af:=vO es f es.length
def yK {es:af}{f:Int}:∀ {n:Nat},(vO es f n).length<=n
 |0=>Nat.zero_le _
 | n+1=>by
   have:=yK (es:=es) (f:=f) (n:=n);unfold vO;split
   ·rw[List.length_append];simp;omega
   ·omega
def Ku {es:af}{f:Int}{n:Nat}(h0:ag es n 0≠0)(h1:ag es n 1=f):vO es f (n+1)=vO es f n++[[.i n]]:=by rw[vO,VJ ⟨h0,h1⟩]
def HI {es:af}{f:Int}{n:Nat}(h:ag es n 0=0\/ag es n 1≠f):vO es f (n+1)=vO es f n:=by rw[vO,VK (by rintro⟨a,b⟩;rcases h with q|q;exact a q;exact q b)]
def Kt {es:af}{f i:Int}(hi:0<=i)(h0:ag es i 0≠0)(h1:ag es i 1=f):vO es f (i+1).toNat=vO es f i.toNat++[[.i i]]:=by
 have e:((i.toNat:Nat):Int)=i:=Zm hi;rw[show(i+1).toNat=i.toNat+1 from by omega,Ku (by rw[e];exact h0) (by rw[e];exact h1),e]
def HG {es:af}{f i:Int}(hi:0<=i)(h:ag es i 0=0\/ag es i 1≠f):vO es f (i+1).toNat=vO es f i.toNat:=by
 have e:((i.toNat:Nat):Int)=i:=Zm hi;rw[show(i+1).toNat=i.toNat+1 from by omega,HI (by rw[e];exact h)]
def xD {es:af}{f:Int}:(pagesOn es f).length<=es.length:=yK
def eR (es:af)(f:Int):Bool:=decide (0<(pagesOn es f).length)
def yB {es:af}{f:Int}:eR es f=true↔0<(pagesOn es f).length:=by simp[eR]
def NB {cs us:af}(h:inR cs.length 1 32=false):framesOk cs us=false:=by unfold framesOk;rw[h];rfl
def NC {cs us:af}(h:us.length≠cs.length):framesOk cs us=false:=by unfold framesOk;rw[VH h];simp
def ND {cs us:af}{i:Int}(h0:0<=i)(h1:i<cs.length)(h:(aO cs i 0).length≠16):framesOk cs us=false:=by
 unfold framesOk;rw[cM h0 h1 (by unfold iO;rw[VH h];rfl)];simp
def GG {cs us:af}{i k:Int}(h0:0<=i)(h1:i<cs.length)(k0:0<=k)(k1:k<16)(h:inR (ag (aO cs i 0) k 0) 0 999=false\/pA us i 0=false/\ag (aO cs i 0) k 0≠0):framesOk cs us=false:=by
 unfold framesOk;rw[cM h0 h1 (by unfold iO;rw[cM k0 (by simpa using k1) (by unfold nz;rcases h with q|⟨q,q'⟩;rw[q];rfl;rw[q,VH q'];simp)];simp)];simp
def B8 {cs us:af}{i:Int}(h1:inR cs.length 1 32=true)(h2:us.length=cs.length)(h:upto (iO cs us) i)(hi:(cs.length:Int)<=i):framesOk cs us=true:=by
 unfold framesOk;rw[h1,VG h2,cv h hi];rfl
def GF {cs us:af}{i k:Int}(hl:(aO cs i 0).length=16)(h:upto (nz cs us i) k)(hk:16<=k):iO cs us i=true:=by
 unfold iO;rw[VG hl,cv h (by simpa using hk)];rfl
def Gc {cs us:af}{i k:Int}(h:inR (ag (aO cs i 0) k 0) 0 999=true)(h':pA us i 0=true\/ag (aO cs i 0) k 0=0):nz cs us i k=true:=by
 unfold nz;rw[h];rcases h' with q|q
 ·rw[q];rfl
 ·rw[VG q];simp
def CR {k:Nat}{a b:af}(h:a=b):[DV.one (.s k a)]=[DV.one (.s k b)]:=by rw[h]
def aaJ {es:af}{n i:Int}(h0:0<=i)(h1:i<es.length)(h:¬ (0<=ag es i 0/\ag es i 0<=2/\(ag es i 0=0->ag es i 1=0)/\(0<ag es i 0->0<=ag es i 1/\ag es i 1<n))):tableOk es n=false:=by
 unfold tableOk;rw[cM h0 h1];rfl;cases q:qg es n i;rfl
 ·refine absurd ?_ h;unfold qg at q;simp only[Zb,VI,bB]at q;exact⟨q.1.1.1,q.1.1.2,q.1.2,q.2⟩
def Ii {es:af}{n i:Int}(h:0<=ag es i 0/\ag es i 0<=2/\(ag es i 0=0->ag es i 1=0)/\(0<ag es i 0->0<=ag es i 1/\ag es i 1<n)):qg es n i=true:=by
 unfold qg;simp only[Zb,VI,bB];exact⟨⟨⟨h.1,h.2.1⟩,h.2.2.1⟩,h.2.2.2⟩
def C0 {es:af}{n i:Int}(h:upto (qg es n) i)(hi:(es.length:Int)<=i):tableOk es n=inR es.length 1 32:=by unfold tableOk;rw[cv h hi];rfl
def CZ {es:af}{n:Int}(h:tableOk es n=true):1<=es.length/\es.length<=32:=by
 unfold tableOk at h;simp only[Zb,bB]at h;omega
def Mp {es:af}{n i:Int}(h:tableOk es n=true)(h0:0<=i)(h1:i<es.length):0<=ag es i 0/\ag es i 0<=2/\(ag es i 0=0->ag es i 1=0)/\(0<ag es i 0->0<=ag es i 1/\ag es i 1<n):=by
 unfold tableOk at h;simp only[Zb]at h;have q:=dI.1 h.1 i h0 h1;unfold qg at q;simp only[Zb,VI,bB]at q;exact⟨q.1.1.1,q.1.1.2,q.1.2,q.2⟩
def rS {cs us:af}(h:framesOk cs us=true):us.length=cs.length/\1<=cs.length/\cs.length<=32:=by
 unfold framesOk at h;simp only[Zb,VI,bB]at h;omega
def GE {cs us:af}{i:Int}(h:framesOk cs us=true)(h0:0<=i)(h1:i<cs.length):(aO cs i 0).length=16:=by
 unfold framesOk at h;simp only[Zb,VI,bB]at h;have q:=dI.1 h.2 i h0 h1;unfold iO at q;simp only[Zb,VI]at q;exact q.1
end Go.V
namespace Go.V
def xE {a n:Int}(h0:0<=a)(h1:a<=9223372036854775807)(hn:0<n):bK .quo Za a n=a/n:=by
 show YT Za (a.tdiv n)=_;rw[Int.tdiv_eq_ediv_of_nonneg h0];have h2:0<=a/n:=Int.ediv_nonneg h0 Uc;have h3:a/n<=a:=Int.ediv_le_self _ h0;exact YU _ Uc
def tp {a n:Int}(h0:0<=a):bK .rem Za a n=a%n:=Wz h0
def Kc {a:af}{f:Int}:cT .gtr (pagesOn a f).length 0=eR a f:=k8 (by rw[yB];simp only[SS];omega)
def Kh {a:af}{f:Int}(h:(pagesOn a f).length=0):eR a f=false:=by unfold eR;rw[h];rfl
def Aa {a b a' b':Int}(h:a=a')(h':b=b'):[DV.agg [.i a,.i b]]=[DV.agg [.i a',.i b']]:=by rw[h,h']
def o9 {a b a' b':Int}(h:a=a')(h':b=b'):[DV.j a,DV.j b]=[DV.j a',DV.j b']:=by rw[h,h']
def cg {a b:Int}(h:a=b):[DV.j a]=[DV.j b]:=by rw[h]
def peM (es:af)(p:Int):Int:=if 0<=p/\p<es.length then ag es p 0 else 0
def peF (es:af)(p:Int):Int:=if 0<=p/\p<es.length then ag es p 1 else 0
def yJ {es:af}{p:Int}(h:0<=p/\p<es.length):peM es p=ag es p 0/\peF es p=ag es p 1:=by unfold peM peF;rw[VJ h,VJ h];exact⟨rfl,rfl⟩
def AQ {es:af}{p:Int}(h:¬ (0<=p/\p<es.length)):peM es p=0/\peF es p=0:=by unfold peM peF;rw[VK h,VK h];exact⟨rfl,rfl⟩
def L2 {es:af}{n p:Int}(h:tableOk es n=true)(hm:peM es p≠0):0<=peF es p/\peF es p<n/\1<=peM es p/\peM es p<=2:=by
 by_cases q:0<=p/\p<es.length
 ·rw[(yJ q).1]at hm ⊢;rw[(yJ q).2];have:=Mp h q.1 q.2;omega
 ·exact absurd (AQ q).1 hm
def Hb (es:af)(a:Int):Int:=if a<0 then 0 else peM es (a/16)
def LN (es:af)(a:Int):Int:=if a<0 then 0 else peF es (a/16)
def Ka (a:Int):Int:=if a<0 then 0 else a%16
def Hc {es:af}{a:Int}(h:a<0):Hb es a=0/\LN es a=0/\Ka a=0:=by unfold Hb LN Ka;rw[VJ h,VJ h,VJ h];exact⟨rfl,rfl,rfl⟩
def vA {es:af}{a:Int}(h:¬ a<0):Hb es a=peM es (a/16)/\LN es a=peF es (a/16)/\Ka a=a%16:=by unfold Hb LN Ka;rw[VK h,VK h,VK h];exact⟨rfl,rfl,rfl⟩
def On {a:Int}:0<=Ka a/\Ka a<16:=by unfold Ka;split<;>omega
end Go.V
namespace Go.V
def ko {fs:List Ty}{es:af}{i:Int}(h:Rw [.sl fs] es)(h0:0<=i)(h1:i<es.length):es.take (i+1).toNat=es.take i.toNat++[[.s fs.length (aO es i 0)]]:=by
 rw[show(i+1).toNat=i.toNat+1 from by omega,kf (d:=[]) (show i.toNat<es.length by omega)];have e:=h.eta h0 h1;rw[e];rfl
def qP {fs:List Ty}{es:af}{i:Int}(h:Rw [.sl fs] es)(h0:0<=i)(h1:i<es.length):bC (aO es i 0)+es.length<=bC es:=by
 have e:=h.eta h0 h1;have h2:=Jt (es:=es) (n:=i.toNat) Uc;have h3:=wO (es:=es) (n:=i.toNat+1);rw[e]at h2;have h4:mY (ky am es i 0 (zR [Ty.sl fs]))=bC (aO es i 0):=by
  show mY [.s fs.length (aO es i 0)]=_;simp only[mY,Gn,bC];omega
 rw[h4]at h2;show _<=es.length+dk es;omega
def bj {es:af}:es.length<=bC es:=Nat.le_add_right _ _
def iZ {es:af}{i:Int}(h:(es.length:Int)<=i):es.take i.toNat=es:=List.take_of_length_le Uc
def nJ (us es:af)(i:Int):Bool:=pA us i 0==eR es i
def machOk (cs us es:af):Bool:=framesOk cs us&&tableOk es cs.length&&dj (nJ us es) cs.length
def LU {cs us es:af}(h:framesOk cs us=false\/tableOk es cs.length=false):machOk cs us es=false:=by
 unfold machOk;rcases h with h|h<;>rw[h]<;>simp
def OB {cs us es:af}(hf:framesOk cs us=true)(h:tableOk es us.length=false):machOk cs us es=false:=by
 rw[(rS hf).1]at h;exact LU (.inr h)
def OD {cs us es:af}{i:Int}(h0:0<=i)(h1:i<cs.length)(h:pA us i 0≠eR es i):machOk cs us es=false:=by
 unfold machOk;rw[cM h0 h1 (by unfold nJ;simpa using h)];simp
def Hi {us es:af}{i:Int}(h:pA us i 0=eR es i):nJ us es i=true:=by unfold nJ;simpa using h
def Ct {cs us es:af}{i:Int}(h:framesOk cs us=true)(h2:tableOk es us.length=true)(hu:upto (nJ us es) i)(hi:(us.length:Int)<=i):machOk cs us es=true:=by
 rw[(rS h).1]at h2 hi;unfold machOk;rw[h,h2,cv hu hi];rfl
def D4 {cs us es:af}(q:machOk cs us es=true):framesOk cs us=true/\tableOk es cs.length=true/\∀ i:Int,0<=i->i<cs.length->pA us i 0=eR es i:=by
 unfold machOk at q;simp only[Zb]at q;refine⟨q.1.1,q.1.2,fun i h0 h1=>?_⟩;have:=dI.1 q.2 i h0 h1;unfold nJ at this;simpa using this
def eN:∀ {rs:List af} {r:af} {n:Nat},xf rs<=n->r∈rs->bC r<=n
 | a::rs,r,n,h,hr=>by
   simp only[xf]at h;rcases Zj.1 hr with rfl|q;omega;exact eN (rs:=rs) Uc q
end Go.V
namespace Go.V
def xh:∀ {fs:List Ty} {e:ax},bU fs e->e.length=fs.length
 |[],[],_=>rfl
 |[],_::_,h=>h.elim
 |_::_,[],h=>h.elim
 |_::fs,_::e,h=>by simp only[List.length_cons];rw[xh h.2]
def Rw.wid {fs:List Ty}{es:af}(h:Rw fs es){n:Nat}(hn:n<es.length):(es.getD n []).length=fs.length:=xh (h.at hn)
def adH {u:af}{i:Int}{b:Bool}(h:Rw [tB] u)(h0:0<=i)(h1:i<u.length):oJ (.s 1 u) [(i.toNat,0)] [.v (.bool b)]=u.set i.toNat [.v (.bool b)]:=mC (by rw[h.wid Uc];rfl)
def RU {t:Ty}{u:af}{i:Int}(h:Rw [t] u)(h0:0<=i)(h1:i<u.length):∃ rec o',bP (.s 1 u) [(i.toNat,0)]=some (rec,o')/\o'+1<=rec.length:=fv Uc (by rw[h.wid Uc];exact Zf _)
end Go.V
namespace Go.V
def nZ (cs:af)(fr k v:Int):af:=cs.set fr.toNat [.s 1 ((aO cs fr 0).set k.toNat [.i v])]
def yU {cs:af}{fr:Int}(h:Rw [.sl [tI]] cs)(h0:0<=fr)(h1:fr<cs.length):cs.getD fr.toNat []=[.s 1 (aO cs fr 0)]:=h.eta h0 h1
def aaU {cs:af}{fr k v:Int}(h:Rw [.sl [tI]] cs)(h0:0<=fr)(h1:fr<cs.length)(k0:0<=k)(k1:k<(aO cs fr 0).length):oJ (.s 1 cs) [(fr.toNat,0),(k.toNat,0)] [.i v]=nZ cs fr k v:=by
 have hr:Rw [tI] (aO cs fr 0):=Rw.sub (fs:=[.sl [tI]]) h Uc rfl;have hw:=hr.wid (n:=k.toNat) Uc;show cs.set fr.toNat ((cs.getD fr.toNat []).set 0 (lK ((cs.getD fr.toNat []).getD 0 .g) [(k.toNat,0)] [.i v]))=_;rw[yU h h0 h1];show cs.set fr.toNat [.s 1 ((aO cs fr 0).set k.toNat (((aO cs fr 0).getD k.toNat []).take 0++[.i v]++((aO cs fr 0).getD k.toNat []).drop (0+1)))]=_;have hw':((aO cs fr 0).getD k.toNat []).length=1:=hw;rw[List.take_zero,List.drop_of_length_le Uc];rfl
def LE {cs:af}{fr k:Int}(h:Rw [.sl [tI]] cs)(h0:0<=fr)(h1:fr<cs.length)(k0:0<=k)(k1:k<(aO cs fr 0).length):∃ rec o',bP (.s 1 cs) [(fr.toNat,0),(k.toNat,0)]=some (rec,o')/\o'+1<=rec.length:=by
 have hr:Rw [tI] (aO cs fr 0):=Rw.sub (fs:=[.sl [tI]]) h Uc rfl;have hw:=hr.wid (n:=k.toNat) Uc;refine⟨(aO cs fr 0).getD k.toNat [],0,?_,?_⟩
 ·have e:=yU h h0 h1;have e1:cs[fr.toNat]?=some [.s 1 (aO cs fr 0)]:=by
   rw[Zp,Zt Uc]at e;rw[Zt Uc];simpa using e
  show(match cs[fr.toNat]? with
   | some rec=>match rec[0]? with
     |some l=>bP l [(k.toNat,0)]
     |none=>none
   |none=>none)=_
  rw[e1];show(((aO cs fr 0)[k.toNat]?).map (·,0))=_;rw[Zp,Zt Uc];rfl
 ·rw[hw];exact Zf _
def mo {cs:af}{fr:Int}:mT (.s 1 cs) [(fr.toNat,0)]=aO cs fr 0:=Kx
def MV {cs:af}{fr:Int}(h:Rw [.sl [tI]] cs)(h0:0<=fr)(h1:fr<cs.length):cs[fr.toNat]?=some [.s 1 (aO cs fr 0)]:=by
 have e:=yU h h0 h1;rw[Zp,Zt Uc]at e;rw[Zt Uc];simpa using e
def yq {cs:af}{fr:Int}(h:Rw [.sl [tI]] cs)(h0:0<=fr)(h1:fr<cs.length):∃ rec o,bP (.s 1 cs) [(fr.toNat,0)]=some (rec,o)/\o+[L.s 1 []].length<=rec.length/\Yo [L.s 1 []].length (YA o rec)=ka am (.s 1 cs) [(fr.toNat,0)] 0 [L.s 1 []]:=by
 refine⟨[.s 1 (aO cs fr 0)],0,?_,Zf _,?_⟩
 ·show(cs[fr.toNat]?).map (·,0)=_;rw[MV h h0 h1];rfl
 ·show[L.s 1 (aO cs fr 0)]=[L.s 1 (mT (.s 1 cs) [(fr.toNat,0)])];rw[mo]
def qq {cs:af}{fr:Int}(h:Rw [.sl [tI]] cs)(h0:0<=fr)(h1:fr<cs.length):∃ es,gT (.s 1 cs) [(fr.toNat,0)]=some (1,es):=by
 refine⟨aO cs fr 0,?_⟩;rw[JO Uc,yU h h0 h1];rfl
def Ic {cs:af}{fr k v:Int}(h:Rw [.sl [tI]] cs)(h0:0<=fr)(h1:fr<cs.length)(hv: -9223372036854775808<=v/\v<=9223372036854775807):Rw [.sl [tI]] (nZ cs fr k v):=by
 have hr:Rw [tI] (aO cs fr 0):=Rw.sub (fs:=[.sl [tI]]) h Uc rfl;exact h.set (show bU [.sl [tI]] [.s 1 _]from⟨⟨rfl,hr.set (show bU [tI] [.i v]from⟨⟨rfl,hv⟩,trivial⟩) _⟩,trivial⟩) _
def smM (cs us es:af)(a:Int):Int:=if machOk cs us es=true then Hb es a else 0
def smF (cs us es:af)(a:Int):Int:=if machOk cs us es=true then LN es a else 0
def sk {cs us es:af}{a:Int}(h:machOk cs us es=true):smM cs us es a=Hb es a/\smF cs us es a=LN es a:=by unfold smM smF;rw[VJ h,VJ h];exact⟨rfl,rfl⟩
def xI {cs us es:af}{a:Int}(h:machOk cs us es=false\/a<0):smM cs us es a=0/\smF cs us es a=0:=by
 unfold smM smF;rcases h with h|h
 ·rw[h];exact⟨rfl,rfl⟩
 ·rw[(Hc h).1,(Hc (es:=es) h).2.1];constructor<;>split<;>rfl
def Ev {cs us es:af}{a:Int}(h:smM cs us es a≠0):machOk cs us es=true/\0<=a:=by
 constructor
 ·cases q:machOk cs us es
  ·exact absurd (xI (.inl q)).1 h
  ·rfl
 ·rcases Int.lt_or_le a 0 with q|q;exact absurd (xI (.inr q)).1 h;exact q
def Ml {cs us es:af}{a:Int}(h:smM cs us es a≠0):0<=smF cs us es a/\smF cs us es a<cs.length/\1<=smM cs us es a/\smM cs us es a<=2/\(aO cs (smF cs us es a) 0).length=16:=by
 obtain⟨h0,h1⟩:=Ev h;rw[(sk h0).1,(vA Uc).1]at h ⊢;rw[(sk h0).2,(vA Uc).2.1];have hm:=D4 h0;have hp:=L2 hm.2.1 h;exact⟨hp.1,hp.2.1,hp.2.2.1,hp.2.2.2,GE hm.1 hp.1 hp.2.1⟩
def stK (cs us es:af)(a v:Int):Int:=if smM cs us es a=0 then 1 else if smM cs us es a=1 then 2 else if inR v 0 999=true then 0 else 3
def stC (cs us es:af)(a v:Int):af:=if stK cs us es a v=0 then nZ cs (smF cs us es a) (a%16) v else cs
def aaA {cs us es:af}{a v:Int}(h:smM cs us es a=0):stK cs us es a v=1/\stC cs us es a v=cs:=by
 have:stK cs us es a v=1:=by unfold stK;rw[VJ h]
 exact⟨this,by unfold stC;rw[this];rfl⟩
def aaC {cs us es:af}{a v:Int}(h:smM cs us es a=1):stK cs us es a v=2/\stC cs us es a v=cs:=by
 have:stK cs us es a v=2:=by unfold stK;rw[VK Uc,VJ h]
 exact⟨this,by unfold stC;rw[this];rfl⟩
def aaD {cs us es:af}{a v:Int}(h0:smM cs us es a≠0)(h1:smM cs us es a≠1)(h:inR v 0 999=false):stK cs us es a v=3/\stC cs us es a v=cs:=by
 have:stK cs us es a v=3:=by unfold stK;rw[VK h0,VK h1,h];rfl
 exact⟨this,by unfold stC;rw[this];rfl⟩
def aaz {cs us es:af}{a v:Int}(h0:smM cs us es a≠0)(h1:smM cs us es a≠1)(h:inR v 0 999=true):stK cs us es a v=0/\stC cs us es a v=nZ cs (smF cs us es a) (a%16) v:=by
 have:stK cs us es a v=0:=by unfold stK;rw[VK h0,VK h1,h];rfl
 exact⟨this,by unfold stC;rw[VJ this]⟩
def Ey {a b c a' b' c':af}{x y:Int}(h1:a=a')(h2:b=b')(h3:c=c')(h4:x=y):[DV.agg [.s 1 a,.s 1 b,.s 2 c],DV.j x]=[DV.agg [.s 1 a',.s 1 b',.s 2 c'],DV.j y]:=by rw[h1,h2,h3,h4]
def clsSz (k:Int):Int:=if k=0 then 1 else if k=1 then 2 else if k=2 then 4 else if k=3 then 8 else 0
def clsOf (s:Int):Int:=if s<1 then-1 else if s<=1 then 0 else if s<=2 then 1 else if s<=4 then 2 else if s<=8 then 3 else-1
def Rh {k:Int}(h:inR k 0 3=false):clsSz k=0:=by rw[sW]at h;unfold clsSz;repeat' split<;>omega
def Ri {k:Int}(h:inR k 0 3=true):IW .shl Za 1 k=clsSz k:=by
 rw[bB]at h;rcases(show k=0\/k=1\/k=2\/k=3 by omega)with rfl|rfl|rfl|rfl<;>decide
def Ll {k s:Int}(h0:0<=k/\k<=3)(h:clsSz k<s)(hs:1<=s/\s<=8):k+1<=3:=by
 rcases(show k=0\/k=1\/k=2\/k=3 by omega)with rfl|rfl|rfl|rfl<;>simp[clsSz]at h<;>omega
def Rc {s:Int}(h:s<1\/8<s):clsOf s= -1:=by unfold clsOf;repeat' split<;>omega
def Nh {k s:Int}(h0:0<=k/\k<=3)(h:s<=clsSz k)(hs:1<=s/\s<=8)(hp:k=0\/clsSz (k-1)<s):clsOf s=k:=by
 rcases(show k=0\/k=1\/k=2\/k=3 by omega)with rfl|rfl|rfl|rfl<;>simp[clsSz]at h hp<;>unfold clsOf<;>repeat' split<;>omega
end Go.V
namespace Go.V
def Lh {s:Int}(h:0<=clsOf s):1<=s/\s<=clsSz (clsOf s)/\clsSz (clsOf s)<=8/\clsOf s<=3:=by
 unfold clsOf at h ⊢
 repeat' split at h
 all_goals simp_all [clsSz]
 all_goals omega
def CJ {l:af}{i:Int}(h0:0<=i):yM (.s 1 l) [(i.toNat,0)]=ag l i 0:=by
 rw[yN];unfold ag;rw[ZI]
def DJ {l:af}{i:Int}(h:Rw [tI] l)(h0:0<=i)(h1:i<l.length):∃ rec o,bP (.s 1 l) [(i.toNat,0)]=some (rec,o)/\o+[L.v (Zq Za 0)].length<=rec.length/\Yo [L.v (Zq Za 0)].length (YA o rec)=ka am (.s 1 l) [(i.toNat,0)] 0 [L.v (Zq Za 0)]:=by
 have e:l.getD i.toNat []=[L.i (ag l i 0)]:=h.eta h0 h1;rw[Zp,Zt Uc]at e;have e1:l[i.toNat]?=some [.i (ag l i 0)]:=by
  rw[Zt Uc];exact congrArg some e
 refine⟨[.i (ag l i 0)],0,?_,Zf _,?_⟩
 ·rw[kg,e1];rfl
 ·show[L.i (ag l i 0)]=[L.i (yM (.s 1 l) [(i.toNat,0)])];rw[CJ h0]
end Go.V
namespace Go.V
def xM (us:af)(j:Int):Bool:=pA us j 0
def dC (us:af):Int:=match(Ze us.length).find? (fun j:Nat=> !pA us (j:Int) 0)with
 |some j=>(j:Int)
 |none=> -1
def free_at {us:af}{i:Int}(h:upto (xM us) i)(h0:0<=i)(h1:i<us.length)(h2:pA us i 0=false):dC us=i:=by
 have e:((i.toNat:Nat):Int)=i:=Zm h0;have:(Ze us.length).find? (fun j:Nat=> !pA us (j:Int) 0)=some i.toNat:=by
  rw[Xx];refine⟨by rw[e,h2];rfl,Z2.2 Uc,fun j hj=>?_⟩;have:=h j Uc Uc;unfold xM at this;rw[this];rfl
 unfold dC;rw[this];exact e
def JK {us:af}{i:Int}(h:upto (xM us) i)(h1:(us.length:Int)<=i):dC us= -1:=by
 have:(Ze us.length).find? (fun j:Nat=> !pA us (j:Int) 0)=none:=by
  rw[WA];intro j hj;have:=h j Uc Uc;unfold xM at this;rw[this];rfl
 unfold dC;rw[this]
def ug {us:af}:dC us= -1\/0<=dC us/\dC us<us.length:=by
 unfold dC;split
 ·rename_i j h;rw[Xx]at h;have:=Z2.1 h.2.1;omega
 ·exact .inl rfl
def ftB (cs us:af):Bool:=framesOk cs us&&decide (0<=dC us)
def ftI (cs us:af):Int:=if ftB cs us=true then dC us else-1
def ftU (cs us:af):af:=if ftB cs us=true then us.set (dC us).toNat [.v (.bool true)]else us
def LD {cs us:af}(h:framesOk cs us=false\/dC us= -1):ftB cs us=false/\ftI cs us= -1/\ftU cs us=us:=by
 have:ftB cs us=false:=by
  unfold ftB;rcases h with h|h
  ·rw[h];rfl
  ·rw[h];simp
 unfold ftI ftU;rw[this];exact⟨rfl,rfl,rfl⟩
def GI {cs us:af}{i:Int}(hf:framesOk cs us=true)(h0:0<=i)(h:dC us=i):ftB cs us=true/\ftI cs us=i/\ftU cs us=us.set i.toNat [.v (.bool true)]:=by
 have:ftB cs us=true:=by unfold ftB;rw[hf,h,VG h0];rfl
 unfold ftI ftU;rw[this,h];exact⟨rfl,rfl,rfl⟩
def GH {a b a' b':af}{i i':Int}{x y:Bool}(h1:a=a')(h2:b=b')(h3:i=i')(h4:x=y):[DV.agg [.s 1 a,.s 1 b],DV.j i,DV.k x]=[DV.agg [.s 1 a',.s 1 b'],DV.j i',DV.k y]:=by rw[h1,h2,h3,h4]
def RN {cs us:af}(h:ftB cs us=true):0<=ftI cs us/\ftI cs us<cs.length/\ftI cs us=dC us/\ftU cs us=us.set (dC us).toNat [.v (.bool true)]:=by
 have hf:framesOk cs us=true/\0<=dC us:=by unfold ftB at h;simpa using h
 have q:=GI hf.1 hf.2 rfl;have hb:=ug (us:=us);have hl:=rS hf.1;rw[q.2.1,q.2.2];exact⟨hf.2,Uc,rfl,rfl⟩
def Dq {fs:List Ty}{cs:af}{fr:Int}(h:Rw [.sl fs] cs)(h0:0<=fr)(h1:fr<cs.length):cs[fr.toNat]?=some [.s fs.length (aO cs fr 0)]:=by
 have e:cs.getD fr.toNat []=[.s fs.length (aO cs fr 0)]:=h.eta h0 h1;rw[Zp,Zt Uc]at e;rw[Zt Uc];simpa using e
def yL {es:af}{f:Int}:∀ {n:Nat} {e:ax},e∈vO es f n->∃ k:Nat,k<n/\e=[.i k]
 |0,e,h=>by cases h
 | n+1,e,h=>by
   unfold vO at h;split at h
   ·rcases List.mem_append.1 h with q|q
    ·obtain⟨k,hk,e⟩:=yL q;exact⟨k,Uc,e⟩
    ·rw[List.mem_singleton]at q;exact⟨n,Uc,q⟩
   ·obtain⟨k,hk,e⟩:=yL h;exact⟨k,Uc,e⟩
def HE {es:af}{f:Int}(h:es.length<=1099511627776):Rw [tI] (pagesOn es f):=by
 have hl:=xD (es:=es) (f:=f);refine⟨by simp[maxLen];omega,fun e he=>?_⟩;obtain⟨k,hk,rfl⟩:=yL he;exact⟨⟨rfl,(show-9223372036854775808<=(k:Int)/\(k:Int)<=9223372036854775807 by omega)⟩,trivial⟩
end Go.V
namespace Go.V
def cQ (p:Int->Bool)(n:Nat):Int:=match(Ze n).find? (fun j:Nat=>p (j:Int))with
 |some j=>(j:Int)
 |none=> -1
def cI (p:Int->Bool)(j:Int):Bool:= !p j
def fE {p:Int->Bool}{i:Int}(h:p i=false):cI p i=true:=by unfold cI;rw[h];rfl
def dB {p:Int->Bool}{n:Nat}{i:Int}(h:upto (cI p) i)(h0:0<=i)(h1:i<n)(h2:p i=true):cQ p n=i:=by
 have e:((i.toNat:Nat):Int)=i:=Zm h0;have:(Ze n).find? (fun j:Nat=>p (j:Int))=some i.toNat:=by
  rw[Xx];refine⟨by rw[e];exact h2,Z2.2 Uc,fun j hj=>?_⟩;exact h j Uc Uc
 unfold cQ;rw[this];exact e
def dL {p:Int->Bool}{n:Nat}{i:Int}(h:upto (cI p) i)(h1:(n:Int)<=i):cQ p n= -1:=by
 have:(Ze n).find? (fun j:Nat=>p (j:Int))=none:=by
  rw[WA];intro j hj;exact h j Uc Uc
 unfold cQ;rw[this]
def qn {p:Int->Bool}{n:Nat}:cQ p n= -1\/0<=cQ p n/\cQ p n<n:=by
 unfold cQ;split
 ·rename_i j h;rw[Xx]at h;have:=Z2.1 h.2.1;omega
 ·exact .inl rfl
def eqB (a b:Int):Bool:=decide (a=b)
def xk {a b:Int}(h:a=b):eqB a b=true:=VG h
def An {a b:Int}(h:a≠b):eqB a b=false:=VH h
end Go.V
namespace Go.V
def A2 (f:Int->Int):Nat->Int
 |0=>0
 |n+1=>bK .add Za (A2 f n) (f n)
def KU {f:Int->Int}{i:Int}(h:0<=i):A2 f (i+1).toNat=bK .add Za (A2 f i.toNat) (f i):=by
 have e:((i.toNat:Nat):Int)=i:=Zm h;rw[show(i+1).toNat=i.toNat+1 by omega,A2,e]
def szF (os:af)(i:Int):Int:=ag os i 2
def lsI (os:af):Int:=A2 (szF os) os.length
def Cl (os:af)(a j:Int):Bool:=eqB (ag os j 1) a
def obI (os:af)(a:Int):Int:=cQ (Cl os a) os.length
def isSp (ss:af)(p j:Int):Bool:=eqB (ag ss j 0) p
def spI (ss:af)(p:Int):Int:=cQ (isSp ss p) ss.length
end Go.V
namespace Go.V
def Q0 (x:Int):BitVec 64:=ZR 64 x
def K2 (x:BitVec 64):YT Za (x.toNat:Int)=x.toInt:=by
 have h:=x.isLt;rw[BitVec.toInt_eq_toNat_cond];simp only[YT,WB,WC,Bool.true_and,VI,show(64-1:Nat)=63 from rfl];split<;>split<;>omega
def TS {a b:Int}:bK .or Za a b=(Q0 a|||Q0 b).toInt:=K2 _
def fpg (es:af)(p:Int):af:=if peM es p=0 then[]else pagesOn es (peF es p)
def Ny {es:af}{p:Int}(h:peM es p=0):fpg es p=[]:=by unfold fpg;rw[VJ h]
def JJ {es:af}{p:Int}(h:peM es p≠0):fpg es p=pagesOn es (peF es p):=by unfold fpg;rw[VK h]
def Nz {es:af}{p:Int}(h:es.length<=1099511627776):Rw [tI] (fpg es p)/\(fpg es p).length<=1099511627776:=by
 unfold fpg;split;exact⟨Rw.nil,by simp⟩;exact⟨HE h,ZA xD h⟩
def SA (l:af)(x j:Int):Bool:=eqB x (ag l j 0)
def idxI (l:af)(x:Int):Int:=cQ (SA l x) l.length
def hasB (l:af)(x:Int):Bool:=decide (0<=idxI l x)
def Ft (ss l:af)(b:Int):Nat->Int
 |0=>b
 |n+1=>if hasB l (ag ss n 0)=true then bK .or Za (Ft ss l b n) (ag ss n 2)else Ft ss l b n
def K0 {ss l:af}{b i:Int}(h:0<=i)(q:hasB l (ag ss i 0)=true):Ft ss l b (i+1).toNat=bK .or Za (Ft ss l b i.toNat) (ag ss i 2):=by
 have e:((i.toNat:Nat):Int)=i:=Zm h;rw[show(i+1).toNat=i.toNat+1 by omega,Ft,e,VJ q]
def PZ {ss l:af}{b i:Int}(h:0<=i)(q:hasB l (ag ss i 0)=false):Ft ss l b (i+1).toNat=Ft ss l b i.toNat:=by
 have e:((i.toNat:Nat):Int)=i:=Zm h;rw[show(i+1).toNat=i.toNat+1 by omega,Ft,e,q];rfl
def ubB (es ss:af)(i:Int):Int:=if inR i 0 (ss.length-1)=true then Ft ss (fpg es (ag ss i 0)) (ag ss i 2) ss.length else 0
def aaR {es ss:af}{i:Int}(h:inR i 0 (ss.length-1)=false):ubB es ss i=0:=by unfold ubB;rw[h];rfl
def P0 {es ss:af}{i:Int}(h:inR i 0 (ss.length-1)=true):ubB es ss i=Ft ss (fpg es (ag ss i 0)) (ag ss i 2) ss.length:=by unfold ubB;rw[VJ h]
end Go.V
namespace Go.V
def slB (b i:Int):Bool:=decide (0<=b)&&inR i 0 15
def hsB (b i:Int):Bool:=slB b i&&decide (bK .and Za (IW .shr Za b i) 1=1)
def PI {b i:Int}:slB b i=true↔0<=b/\0<=i/\i<=15:=by simp[slB,inR]
def Sd {b i:Int}(h:slB b i=false):hsB b i=false:=by unfold hsB;rw[h];rfl
def Bq {i:Int}(h0:0<=i)(h1:i<=15):Mu .u64 i=i:=by
 show YT .u64 i=i;simp only[YT,WB,WC,Bool.false_and];rw[VK (by simp)];omega
def ctN (b:Int):Nat->Int
 |0=>0
 |n+1=>if hsB b n=true then bK .add Za (ctN b n) 1 else ctN b n
def ctI (b:Int):Int:=ctN b 16
def ac1 (ss:af)(i:Int):ax:=[.i (ag ss i 0),.i (ag ss i 1),.i (ag ss i 2)]
def msN (es ss:af):Nat->af
 |0=>[]
 |n+1=>if 0<ctI (ag ss n 2)/\(fpg es (ag ss n 0)).length=1 then msN es ss n++[ac1 ss n]else msN es ss n
def msS (es ss:af):af:=msN es ss ss.length
end Go.V
namespace Go.V
def xc:af:=Zk 16 [.i 0]
def fnC (n:Int):af:=if inR n 1 32=true then Zk n.toNat [.s 1 xc]else[]
def fnU (n:Int):af:=if inR n 1 32=true then Zk n.toNat [.v (.bool false)]else[]
def tnE (n:Int):af:=if inR n 1 32=true then Zk n.toNat [.i 0,.i 0]else[]
def nF {n:Int}(h:inR n 1 32=true):fnC n=Zk n.toNat [.s 1 xc]/\fnU n=Zk n.toNat [.v (.bool false)]/\tnE n=Zk n.toNat [.i 0,.i 0]:=by
 unfold fnC fnU tnE;rw[VJ h,VJ h,VJ h];exact⟨rfl,rfl,rfl⟩
def Lx {n:Int}(h:inR n 1 32=false):fnC n=[]/\fnU n=[]/\tnE n=[]:=by
 unfold fnC fnU tnE;rw[h];exact⟨rfl,rfl,rfl⟩
def HQ {r:ax}{i:Int}(h:0<=i):Zk i.toNat r++[r]=Zk (i+1).toNat r:=by
 rw[show(i+1).toNat=i.toNat+1 by omega,List.replicate_succ']
def mnB (p f:Int):Bool:=inR f 1 32&&inR p 1 32
def mnC (p f:Int):af:=if mnB p f=true then fnC f else[]
def mnU (p f:Int):af:=if mnB p f=true then fnU f else[]
def mnE (p f:Int):af:=if mnB p f=true then tnE p else[]
def nM {p f:Int}(h:inR f 1 32=true)(h2:inR p 1 32=true):mnC p f=fnC f/\mnU p f=fnU f/\mnE p f=tnE p/\mnB p f=true:=by
 have e:mnB p f=true:=by unfold mnB;rw[h,h2];rfl
 unfold mnC mnU mnE;rw[VJ e,VJ e,VJ e];exact⟨rfl,rfl,rfl,e⟩
def AM {p f:Int}(h:mnB p f=false):mnC p f=[]/\mnU p f=[]/\mnE p f=[]/\mnB p f=false:=by
 unfold mnC mnU mnE;rw[h];exact⟨rfl,rfl,rfl,rfl⟩
def OM {p f:Int}(h:inR f 1 32=false):mnB p f=false:=by unfold mnB;rw[h];rfl
def ON {p f:Int}(h:inR p 1 32=false):mnB p f=false:=by unfold mnB;rw[h];simp
def OO {p f:Int}(h:mnB p f=true):inR f 1 32=true/\inR p 1 32=true:=by unfold mnB at h;simpa using h
def Fb (rs:af)(i:Int):Bool:=decide (0<=ag rs i 0)
def lI (rs:af):Bool:=dj (Fb rs) rs.length&&decide (rs.length<=40)
def kerOk (cs us es:af)(c:Int)(rs:af):Bool:=machOk cs us es&&inR c 0 100000&&lI rs
def Pq {rs:af}{i:Int}(h:0<=ag rs i 0):Fb rs i=true:=VG h
def Ps {cs us es rs:af}{c i:Int}(h0:0<=i)(h1:i<rs.length)(h:ag rs i 0<0):kerOk cs us es c rs=false:=by
 unfold kerOk lI;rw[cM h0 h1 (by unfold Fb;exact VH Uc)];simp
def KE {rs:af}{i:Int}(h:upto (Fb rs) i)(hi:(rs.length:Int)<=i)(hl:(rs.length:Int)<=40):lI rs=true:=by
 unfold lI;rw[cv h hi,VG Uc];rfl
def KD {rs:af}(hl:¬ (rs.length:Int)<=40):lI rs=false:=by
 unfold lI;rw[VH Uc];simp
def DO {cs us es rs:af}{c:Int}(h1:machOk cs us es=true)(h2:inR c 0 100000=true)(h3:lI rs=true):kerOk cs us es c rs=true:=by unfold kerOk;rw[h1,h2,h3];rfl
def JY {cs us es rs:af}{c:Int}(h1:inR c 0 100000=false):kerOk cs us es c rs=false:=by unfold kerOk;rw[h1];simp
def JZ {cs us es rs:af}{c:Int}(h1:lI rs=false):kerOk cs us es c rs=false:=by unfold kerOk;rw[h1];simp
def SH {cs us es rs:af}{c:Int}(h:kerOk cs us es c rs=true):machOk cs us es=true/\inR c 0 100000=true/\lI rs=true:=by
 unfold kerOk at h;simp only[Zb]at h;exact⟨h.1.1,h.1.2,h.2⟩
def qM {r:ax}{n:Nat}{i:Int}(h0:0<=i)(h1:i<n):(Zk n r).getD i.toNat []=r:=by
 rw[Zp,List.getElem?_replicate,VJ Uc];rfl
def Cw {n:Nat}{i:Int}{j:Nat}(h0:0<=i)(h1:i<n)(hj:j<2):ag (Zk n [.i 0,.i 0]) i j=0:=by
 unfold ag;rw[qM h0 h1];rcases(show j=0\/j=1 by omega)with rfl|rfl<;>rfl
def Fa {n:Nat}{f:Int}:pagesOn (Zk n [.i 0,.i 0]) f=[]:=by
 have key:∀ m,m<=n->vO (Zk n [.i 0,.i 0]) f m=[]:=by
  intro m
  induction m with
  |zero=>intro _;rfl
  | succ m ih=>
    intro h;rw[HI (.inl (Cw Uc Uc Uc))];exact ih Uc
 unfold pagesOn;exact key _ (by simp)
def Hp {f p:Int}(hf:inR f 1 32=true)(hp:inR p 1 32=true):machOk (fnC f) (fnU f) (tnE p)=true:=by
 have h1:=bB.1 hf;have h2:=bB.1 hp;rw[(nF hf).1,(nF hf).2.1,(nF hp).2.2];have fo:framesOk (Zk f.toNat [.s 1 xc]) (Zk f.toNat [.v (.bool false)])=true:=by
  refine B8 (i:=f) ?_ (by simp) ?_ (by simp;omega)
  ·rw[YX,bB];omega
  ·intro j j0 j1;have e:aO (Zk f.toNat [.s 1 xc]) j 0=xc:=by unfold aO;rw[qM j0 Uc];rfl
   refine GF (k:=16) (by rw[e];rfl) ?_ Uc;intro k k0 k1;have e2:ag xc k 0=0:=by unfold ag xc;rw[qM k0 Uc];rfl
   refine Gc (by rw[e,e2];rfl) (.inr (by rw[e,e2]))
 have to:tableOk (Zk p.toNat [.i 0,.i 0]) (Zk f.toNat [L.s 1 xc]).length=true:=by
  rw[C0 (i:=p) ?_ (by simp;omega)]
  ·rw[YX,bB];omega
  ·intro j j0 j1;refine Ii ?_;rw[Cw j0 Uc Uc,Cw j0 Uc Uc];omega
 refine Ct (i:=f) fo ?_ ?_ (by simp;omega)
 ·rw[(rS fo).1];exact to
 ·intro j j0 j1;refine Hi ?_;have e:pA (Zk f.toNat [.v (.bool false)]) j 0=false:=by unfold pA;rw[qM j0 Uc];rfl
  rw[e];unfold eR;rw[Fa];rfl
def knB (p f:Int)(rs:af):Bool:=mnB p f&&lI rs
def knC (p f:Int)(rs:af):af:=if knB p f rs=true then fnC f else[]
def knU (p f:Int)(rs:af):af:=if knB p f rs=true then fnU f else[]
def knE (p f:Int)(rs:af):af:=if knB p f rs=true then tnE p else[]
def knR (p f:Int)(rs:af):af:=if knB p f rs=true then rs else[]
def G6 {p f:Int}{rs:af}(h:knB p f rs=true):knC p f rs=fnC f/\knU p f rs=fnU f/\knE p f rs=tnE p/\knR p f rs=rs:=by
 unfold knC knU knE knR;rw[VJ h,VJ h,VJ h,VJ h];exact⟨rfl,rfl,rfl,rfl⟩
def LL {p f:Int}{rs:af}(h:knB p f rs=false):knC p f rs=[]/\knU p f rs=[]/\knE p f rs=[]/\knR p f rs=[]:=by
 unfold knC knU knE knR;rw[h];exact⟨rfl,rfl,rfl,rfl⟩
def NG:Xw Za 0:=by unfold Xw;decide
def Cu {p f:Int}:Rw [.sl [tI]] (mnC p f)/\Rw [tB] (mnU p f)/\Rw [tI,tI] (mnE p f):=by
 cases h:mnB p f
 ·rw[(AM h).1,(AM h).2.1,(AM h).2.2.1];exact⟨Rw.nil,Rw.nil,Rw.nil⟩
 ·obtain⟨hf,hp⟩:=OO h;rw[(nM hf hp).1,(nM hf hp).2.1,(nM hf hp).2.2.1,(nF hf).1,(nF hf).2.1,(nF hp).2.2];have h1:=bB.1 hf;have h2:=bB.1 hp;have z:bU [tI] [L.i 0]:=⟨⟨rfl,NG⟩,trivial⟩;refine⟨Rw.replicate (fs:=[.sl [tI]]) ?_ (by unfold maxLen;omega),Rw.replicate (fs:=[tB]) ?_ (by unfold maxLen;omega),Rw.replicate (fs:=[tI,tI]) ?_ (by unfold maxLen;omega)⟩;exact⟨⟨rfl,Rw.replicate (fs:=[tI]) z (by unfold maxLen;omega)⟩,trivial⟩;exact⟨trivial,trivial⟩;exact⟨⟨rfl,NG⟩,⟨rfl,NG⟩,trivial⟩
def Ki {p f:Int}(h:mnB p f=true):machOk (mnC p f) (mnU p f) (mnE p f)=true:=by
 obtain⟨hf,hp⟩:=OO h;rw[(nM hf hp).1,(nM hf hp).2.1,(nM hf hp).2.2.1];exact Hp hf hp
def SJ {p f:Int}{rs:af}(h:mnB p f=true)(k:kerOk (mnC p f) (mnU p f) (mnE p f) 0 rs=true):knB p f rs=true:=by
 unfold knB;rw[h,(SH k).2.2];rfl
def Oe {p f:Int}{rs:af}(h:mnB p f=true)(k:kerOk (mnC p f) (mnU p f) (mnE p f) 0 rs=false):knB p f rs=false:=by
 unfold knB;cases q:lI rs
 ·simp
 ·rw[DO (Ki h) rfl q]at k;cases k
def J1 {p f:Int}{rs:af}(h:mnB p f=false):knB p f rs=false:=by unfold knB;rw[h];rfl
def acG {p f:Int}{rs:af}(h:knB p f rs=true):mnB p f=true:=by unfold knB at h;simp only[Zb]at h;exact h.1
def mwB (t:Int):af:=if inR t 1 4=true then Zk t.toNat [.s 2 []]else[]
def mwI (t:Int):af:=if inR t 1 4=true then Zk t.toNat [.s 1 []]else[]
def OQ {t:Int}(h:inR t 1 4=true):mwB t=Zk t.toNat [.s 2 []]/\mwI t=Zk t.toNat [.s 1 []]:=by unfold mwB mwI;rw[VJ h,VJ h];exact⟨rfl,rfl⟩
def Tm {t:Int}(h:inR t 1 4=false):mwB t=[]/\mwI t=[]:=by unfold mwB mwI;rw[h];exact⟨rfl,rfl⟩
def qnR (r:Int):Int:=if inR r 0 500=true then r else 0
def Po {r:Int}(h:inR r 0 500=true):qnR r=r:=by unfold qnR;rw[VJ h]
def aag {r:Int}(h:inR r 0 500=false):qnR r=0:=by unfold qnR;rw[h];rfl
def cnL:af:=Zk 4 [.s 1 []]
def hnB (p f t l:Int)(rs:af):Bool:=knB p f rs&&(inR t 1 4&&inR l 0 1000)
def hnC (p f t l:Int)(rs:af):af:=if hnB p f t l rs=true then fnC f else[]
def hnU (p f t l:Int)(rs:af):af:=if hnB p f t l rs=true then fnU f else[]
def hnE (p f t l:Int)(rs:af):af:=if hnB p f t l rs=true then tnE p else[]
def hnR (p f t l:Int)(rs:af):af:=if hnB p f t l rs=true then rs else[]
def hnF (p f t l:Int)(rs:af):af:=if hnB p f t l rs=true then[[.i 0,.i p]]else[]
def hnK (p f t l:Int)(rs:af):af:=if hnB p f t l rs=true then Zk t.toNat [.s 1 cnL]else[]
def hnM (p f t l:Int)(rs:af):af:=if hnB p f t l rs=true then mwB t else[]
def hnI (p f t l:Int)(rs:af):af:=if hnB p f t l rs=true then mwI t else[]
def hnQ (p f t l:Int)(rs:af):Int:=if hnB p f t l rs=true then 16 else 0
def hnL (p f t l:Int)(rs:af):Int:=if hnB p f t l rs=true then l else 0
def hnN (p f t l:Int)(rs:af):Int:=if hnB p f t l rs=true then 1 else 0
def NL {p f t l:Int}{rs:af}(h:hnB p f t l rs=true):hnC p f t l rs=fnC f/\hnU p f t l rs=fnU f/\hnE p f t l rs=tnE p/\hnR p f t l rs=rs/\hnF p f t l rs=[[.i 0,.i p]]/\
 hnK p f t l rs=Zk t.toNat [.s 1 cnL]/\hnM p f t l rs=mwB t/\hnI p f t l rs=mwI t/\hnQ p f t l rs=16/\hnL p f t l rs=l/\hnN p f t l rs=1:=by
 unfold hnC hnU hnE hnR hnF hnK hnM hnI hnQ hnL hnN;simp only[h,if_true];exact⟨trivial,trivial,trivial,trivial,trivial,trivial,trivial,trivial,trivial,trivial,trivial⟩
def R6 {p f t l:Int}{rs:af}(h:hnB p f t l rs=false):hnC p f t l rs=[]/\hnU p f t l rs=[]/\hnE p f t l rs=[]/\hnR p f t l rs=[]/\hnF p f t l rs=[]/\
 hnK p f t l rs=[]/\hnM p f t l rs=[]/\hnI p f t l rs=[]/\hnQ p f t l rs=0/\hnL p f t l rs=0/\hnN p f t l rs=0:=by
 unfold hnC hnU hnE hnR hnF hnK hnM hnI hnQ hnL hnN;simp[h]
def NJ {p f t l:Int}{rs:af}:hnB p f t l rs=true↔knB p f rs=true/\inR t 1 4=true/\inR l 0 1000=true:=by unfold hnB;simp
def ab4 {p f t l:Int}{rs:af}(h:¬ (knB p f rs=true/\inR t 1 4=true/\inR l 0 1000=true)):hnB p f t l rs=false:=by
 cases q:hnB p f t l rs
 ·rfl
 ·exact absurd (NJ.1 q) h
def LI {c u e r fr k m i c' u' e' r' fr' k' m' i':af}{q l n q' l' n':Int}{b b':Bool}(h1:c=c')(h2:u=u')(h3:e=e')(h4:r=r')(h5:fr=fr')(h6:k=k')(h7:m=m')(h8:i=i')(h9:q=q')(h10:l=l')(h11:n=n')(h12:b=b'):
 [DV.agg (LH c u e 0 r fr [] [] [] k m i q [] 0 0 l n false 0 0 [] 0 0),.k b]=
 [DV.agg (LH c' u' e' 0 r' fr' [] [] [] k' m' i' q' [] 0 0 l' n' false 0 0 [] 0 0),.k b']:=by
 subst h1 h2 h3 h4 h5 h6 h7 h8 h9 h10 h11 h12;rfl
def HT {c u e r c' u' e' r':af}{b b':Bool}(h1:c=c')(h2:u=u')(h3:e=e')(h4:r=r')(h5:b=b'):
 [DV.agg [.s 1 c,.s 1 u,.s 2 e,.i 0,.s 1 r],.k b]=[DV.agg [.s 1 c',.s 1 u',.s 2 e',.i 0,.s 1 r'],.k b']:=by subst h1 h2 h3 h4 h5;rfl
def HU {c u e c' u' e':af}{b b':Bool}(h1:c=c')(h2:u=u')(h3:e=e')(h5:b=b'):
 [DV.agg [.s 1 c,.s 1 u,.s 2 e],.k b]=[DV.agg [.s 1 c',.s 1 u',.s 2 e'],.k b']:=by subst h1 h2 h3 h5;rfl
def Ei {k1 k2:Nat}{c u c' u':af}{b b':Bool}(h1:c=c')(h2:u=u')(h5:b=b'):
 [DV.agg [.s k1 c,.s k2 u],.k b]=[DV.agg [.s k1 c',.s k2 u'],.k b']:=by subst h1 h2 h5;rfl
def L8 {k1:Nat}{c c':af}{b b':Bool}(h1:c=c')(h5:b=b'):
 [DV.agg [.s k1 c],.k b]=[DV.agg [.s k1 c'],.k b']:=by subst h1 h5;rfl
def Mf {q q':Int}{b b':Bool}(h1:q=q')(h5:b=b'):
 [DV.agg [.i q,.s 3 []],.k b]=[DV.agg [.i q',.s 3 []],.k b']:=by subst h1 h5;rfl
end Go.V
namespace Go.V
def tU:Ty:=.int .u8
def EL {a:Int}{m:Nat}(hm:m<=4611686018427387904):0<=bK .and Za a m/\bK .and Za a m<=m:=by
 have h1:(ZR 64 a&&&ZR 64 (m:Int)).toNat<=m:=by
  rw[BitVec.toNat_and];refine ZA Nat.and_le_right ?_;rw[BitVec.toNat_ofInt,Int.emod_eq_of_lt Uc Uc];omega
 have h2:bK .and Za a m=((ZR 64 a&&&ZR 64 (m:Int)).toNat:Int):=by
  show YT Za _=_;refine YU _ ⟨?_,?_⟩;exact XZ (by decide) (Int.natCast_nonneg _);exact XZ (Int.ofNat_le.2 h1) Uc
 rw[h2];omega
def bH (h:Int):Int:=bK .add Za (bK .mul Za h 6364136223846793005) 1442695040888963407
def bY (h:Int):Int:=bK .and Za (bK .xor Za (IW .shr Za (bH h) 33) (IW .shr Za (bH h) 45)) 255
def bI (cs:af)(i:Int):Int:=if i<cs.length then i+1 else i
def bX (cs:af)(i h:Int):Int:=if i<cs.length then bK .and Za (bK .add Za (bY h) (Mu Za (ag cs i 0))) 255 else bY h
def Ld {cs:af}{i h:Int}(q:i<cs.length):bI cs i=i+1/\bX cs i h=bK .and Za (bK .add Za (bY h) (Mu Za (ag cs i 0))) 255:=by unfold bI bX;rw[VJ q,VJ q];exact⟨rfl,rfl⟩
def QS {cs:af}{i h:Int}(q:¬ i<cs.length):bI cs i=i/\bX cs i h=bY h:=by unfold bI bX;rw[VK q,VK q];exact⟨rfl,rfl⟩
def uE {cs:af}{i:Int}(h0:0<=i)(h1:i<=cs.length):0<=bI cs i/\bI cs i<=cs.length:=by unfold bI;split<;>omega
def Ae {cs:af}{i h:Int}:0<=bX cs i h/\bX cs i h<=255:=by
 unfold bX bY;split<;>exact EL (m:=255) (by decide)
def wI (cs:af)(i n:Int):Int:=if n<=0 then i else if n<=256 then bI cs i else bI cs (bI cs (bI cs (bI cs i)))
def wH (h n:Int):Int:=if n<=0 then h else if n<=256 then bH h else bH (bH (bH (bH h)))
def wS (x y z w:Int):Int:=bK .add Za (bK .add Za (bK .add Za (bK .mul Za x 16777216) (bK .mul Za y 65536)) (bK .mul Za z 256)) w
def wX (cs:af)(i h n:Int):Int:=if n<=0 then 0 else if n<=256 then bK .rem Za (bX cs i h) n else
 bK .rem Za (wS (bX cs i h) (bX cs (bI cs i) (bH h)) (bX cs (bI cs (bI cs i)) (bH (bH h))) (bX cs (bI cs (bI cs (bI cs i))) (bH (bH (bH h))))) n
def w_0 {cs:af}{i h n:Int}(q:n<=0):wI cs i n=i/\wH h n=h/\wX cs i h n=0:=by unfold wI wH wX;rw[VJ q,VJ q,VJ q];exact⟨rfl,rfl,rfl⟩
def w_1 {cs:af}{i h n:Int}(q:0<n)(q2:n<=256):wI cs i n=bI cs i/\wH h n=bH h/\wX cs i h n=bK .rem Za (bX cs i h) n:=by
 have q3:¬ n<=0:=by omega
 unfold wI wH wX;simp only[VK q3,VJ q2];exact⟨trivial,trivial,trivial⟩
def w_4 {cs:af}{i h n:Int}(q2:256<n):wI cs i n=bI cs (bI cs (bI cs (bI cs i)))/\wH h n=bH (bH (bH (bH h)))/\
 wX cs i h n=bK .rem Za (wS (bX cs i h) (bX cs (bI cs i) (bH h)) (bX cs (bI cs (bI cs i)) (bH (bH h))) (bX cs (bI cs (bI cs (bI cs i))) (bH (bH (bH h))))) n:=by
 have q3:¬ n<=0:=by omega
 have q4:¬ n<=256:=by omega
 unfold wI wH wX;simp only[VK q3,VK q4];exact⟨trivial,trivial,trivial⟩
def aaZ {cs:af}{i n:Int}(h0:0<=i)(h1:i<=cs.length):0<=wI cs i n/\wI cs i n<=cs.length:=by
 have a:=uE h0 h1;have b:=uE a.1 a.2;have c:=uE b.1 b.2;have d:=uE c.1 c.2;unfold wI;split;exact⟨h0,h1⟩
 ·split;exact a;exact d
def Ho {a b:Int}(h: -9223372036854775808<=a*b/\a*b<=9223372036854775807):bK .mul Za a b=a*b:=YU _ h
def oG {a n:Int}(ha:0<=a)(hn:0<n):0<=bK .rem Za a n/\bK .rem Za a n<n:=by
 show 0<=a.tmod n/\a.tmod n<n;rw[Wz ha];exact⟨Int.emod_nonneg _ Uc,Int.emod_lt_of_pos _ hn⟩
def aa0 {cs:af}{i h n:Int}(hn:0<n):0<=wX cs i h n/\wX cs i h n<n:=by
 unfold wX;rw[VK Uc];split;exact oG Ae.1 hn
 ·have x:=Ae (cs:=cs) (i:=i) (h:=h);have y:=Ae (cs:=cs) (i:=bI cs i) (h:=bH h);have z:=Ae (cs:=cs) (i:=bI cs (bI cs i)) (h:=bH (bH h));have w:=Ae (cs:=cs) (i:=bI cs (bI cs (bI cs i))) (h:=bH (bH (bH h)));refine oG ?_ hn;generalize bX cs i h=x0 at*;generalize bX cs (bI cs i) (bH h)=y0 at*;generalize bX cs (bI cs (bI cs i)) (bH (bH h))=z0 at*;generalize bX cs (bI cs (bI cs (bI cs i))) (bH (bH (bH h)))=w0 at*;unfold wS;have m1:bK .mul Za x0 16777216=x0*16777216:=Ho Uc;have m2:bK .mul Za y0 65536=y0*65536:=Ho Uc;have m3:bK .mul Za z0 256=z0*256:=Ho Uc;rw[m1,m2,m3];have a1:bK .add Za (x0*16777216) (y0*65536)=x0*16777216+y0*65536:=cu Uc;rw[a1];have a2:bK .add Za (x0*16777216+y0*65536) (z0*256)=x0*16777216+y0*65536+z0*256:=cu Uc;rw[a2];have a3:bK .add Za (x0*16777216+y0*65536+z0*256) w0=x0*16777216+y0*65536+z0*256+w0:=cu Uc;rw[a3];omega
def sY (cs:af):Nat->Int
 |0=>bK .add Za 98801 cs.length
 |n+1=>bK .and Za (bK .add Za (bK .add Za (bK .mul Za (sY cs n) 131) (Mu Za (ag cs n 0))) 7) 1073741823
def l01h (cs:af):Int:=sY cs (min cs.length 4000)
def J3 {cs:af}{i:Int}(h0:0<=i):sY cs (i+1).toNat=bK .and Za (bK .add Za (bK .add Za (bK .mul Za (sY cs i.toNat) 131) (Mu Za (ag cs i 0))) 7) 1073741823:=by
 have e:((i.toNat:Nat):Int)=i:=Zm h0;rw[show(i+1).toNat=i.toNat+1 by omega,sY,e]
def G7 {cs:af}{i:Int}(h0:0<=i)(h1:i<=cs.length)(h2:i<=4000)(h3:¬ (i<cs.length/\i<4000)):sY cs i.toNat=l01h cs:=by
 unfold l01h;congr 1;omega
def dpS (cs:af)(s:Int×Int×af):Int×Int×af:=(wI cs s.1 10000,wH s.2.1 10000,s.2.2++[[.i (wX cs s.1 s.2.1 10000)]])
def Am (cs:af):Nat->Int×Int×af
 |0=>(0,l01h cs,[])
 |n+1=>dpS cs (Am cs n)
def dpl (cs:af):af:=(Am cs 12).2.2
def Ru {cs:af}{i:Int}(h0:0<=i):Am cs (i+1).toNat=dpS cs (Am cs i.toNat):=by
 rw[show(i+1).toNat=i.toNat+1 by omega,Am]
def DC {cs:af}:∀ n,0<=(Am cs n).1/\(Am cs n).1<=cs.length/\(Am cs n).2.2.length=n/\∀ j:Nat,j<n->∃ x:Int,0<=x/\x<10000/\(Am cs n).2.2.getD j []=[.i x]
 |0=>⟨Yl _,by show(0:Int)<=_;omega,rfl,fun j hj=>by omega⟩
 | n+1=>by
   obtain⟨h1,h2,h3,h4⟩:=DC (cs:=cs) n;have w:=aaZ (n:=10000) h1 h2;have x:=aa0 (cs:=cs) (i:=(Am cs n).1) (h:=(Am cs n).2.1) (n:=10000) Uc;refine⟨w.1,w.2,by simp[Am,dpS,h3],fun j hj=>?_⟩;simp only[Am,dpS];by_cases c:j<n
   ·obtain⟨y,q1,q2,q3⟩:=h4 j c;refine⟨y,q1,q2,?_⟩;rw[Zp,List.getElem?_append_left Uc, <-Zp];exact q3
   ·refine⟨_,x.1,x.2,?_⟩;have e:j=(Am cs n).2.2.length:=by omega
    rw[Zp,e];simp
def yg {cs:af}:(dpl cs).length=12:=(DC 12).2.2.1
def BX {cs:af}{j:Int}(h0:0<=j)(h1:j<12):0<=ag (dpl cs) j 0/\ag (dpl cs) j 0<10000/\(dpl cs).getD j.toNat []=[.i (ag (dpl cs) j 0)]:=by
 obtain⟨x,q1,q2,q3⟩:=(DC (cs:=cs) 12).2.2.2 j.toNat Uc;have e:ag (dpl cs) j 0=x:=by unfold ag dpl;rw[q3];rfl
 rw[e];exact⟨q1,q2,q3⟩
def Nr {cs:af}:Rw [tI] (dpl cs):=by
 refine⟨by rw[yg];decide,fun e he=>?_⟩;obtain⟨j,hj⟩:=List.getElem?_of_mem he;have hl:j<12:=by rw[<-yg (cs:=cs)];exact(List.getElem?_eq_some_iff.1 hj).1
 obtain⟨h1,h2,h3⟩:=BX (cs:=cs) (j:=j) Uc Uc;rw[ZI,Zp,hj]at h3;have h3:e=_:=h3;rw[h3];have hh:Xw Za (ag (dpl cs) (j:Int) 0):=by show-9223372036854775808<=_/\_<=(9223372036854775807:Int);omega
 exact⟨⟨rfl,hh⟩,trivial⟩
end Go.V
namespace Go.V
end Go.V
namespace Go.V
end Go.V
namespace Go.V
def slN (k:Int):Int:=if inR k 0 3=true then 16/clsSz k else 0
def Ni {k:Int}(h:inR k 0 3=true):k=0\/k=1\/k=2\/k=3:=by have:=bB.1 h;omega
def lq {k:Int}(h:inR k 0 3=true):1<=clsSz k/\clsSz k<=8/\2<=slN k/\slN k<=16/\slN k*clsSz k=16:=by
 rcases Ni h with rfl|rfl|rfl|rfl<;>decide
def H9 {k:Int}(h:inR k 0 3=true):bK .quo Za 16 (clsSz k)=slN k:=by
 rcases Ni h with rfl|rfl|rfl|rfl<;>decide
def Ia {k:Int}(h:inR k 0 3=false):slN k=0:=by unfold slN;rw[h];rfl
def bmOk (n b:Int):Bool:=inR n 1 16&&inR b 0 (2^n.toNat-1)
def aaw {n:Int}(h:inR n 1 16=true):bK .sub Za (IW .shl Za 1 n) 1=2^n.toNat-1/\bK .sub Za (IW .shl Za 1 (Mu .u64 n)) 1=2^n.toNat-1/\0<=Mu .u64 n:=by
 have q:=bB.1 h;have:n=1\/n=2\/n=3\/n=4\/n=5\/n=6\/n=7\/n=8\/n=9\/n=10\/n=11\/n=12\/n=13\/n=14\/n=15\/n=16:=by omega
 rcases this with rfl|rfl|rfl|rfl|rfl|rfl|rfl|rfl|rfl|rfl|rfl|rfl|rfl|rfl|rfl|rfl<;>decide
def QV {n b:Int}(h:inR n 1 16=false):bmOk n b=false:=by unfold bmOk;rw[h];rfl
def MX {n b:Int}(h:inR n 1 16=true):bmOk n b=inR b 0 (2^n.toNat-1):=by unfold bmOk;rw[h];rfl
def spOk (p k b:Int):Bool:=inR p 0 31&&bmOk (slN k) b
def FX {k b:Int}(h:inR k 0 3=false):bmOk (slN k) b=false:=by rw[Ia h];rfl
def PM {p k b:Int}(h:inR p 0 31=false):spOk p k b=false:=by unfold spOk;rw[h];rfl
def PN {p k b:Int}(h:inR k 0 3=false):spOk p k b=false:=by unfold spOk;rw[FX h,Yb]
def PO {p k b:Int}(h:inR p 0 31=true):spOk p k b=bmOk (slN k) b:=by unfold spOk;rw[h];rfl
def oT {p k b:Int}(h:spOk p k b=true):0<=p/\p<=31/\inR k 0 3=true/\bmOk (slN k) b=true:=by
 unfold spOk at h;simp only[Zb,bB]at h;refine⟨h.1.1,h.1.2,?_,h.2⟩;cases q:inR k 0 3
 ·rw[FX q]at h;exact absurd h.2 (by decide)
 ·rfl
def abA {k b:Int}(h:bmOk (slN k) b=true):0<=b/\b<=65535:=by
 unfold bmOk at h;simp only[Zb,bB]at h;have hn:(slN k).toNat<=16:=by omega
 have hp:(2:Int)^(slN k).toNat<=2^16:=by
  have:=Nat.pow_le_pow_right (show 0<2 by omega) hn
  exact_mod_cast this
 omega
def pfN (s:Int):Int:=if inR s 9 1000=true then(s+15)/16 else 0
def Pe {s:Int}(h:inR s 9 1000=true):bK .quo Za (bK .sub Za (bK .add Za s 16) 1) 16=pfN s:=by
 have q:=bB.1 h;have e1:bK .add Za s 16=s+16:=cu Uc;have e2:bK .sub Za (s+16) 1=s+16-1:=fC Uc;unfold pfN;rw[VJ h,e1,e2,xE Uc Uc Uc,show s+16-1=s+15 from by omega]
def TZ {s:Int}(h:inR s 9 1000=false):pfN s=0:=by unfold pfN;rw[h];rfl
def m8 {s:Int}(h:inR s 9 1000=true):1<=pfN s/\pfN s<=63/\s<=pfN s*16:=by
 have q:=bB.1 h;unfold pfN;rw[VJ h];omega
def lgOk (p n s:Int):Bool:=inR s 9 1000&&(decide (n=pfN s)&&inR p 0 (32-n))
def Or {p n s:Int}(h:inR s 9 1000=false):lgOk p n s=false:=by unfold lgOk;rw[h];rfl
def Ot {p n s:Int}(h:n≠pfN s):lgOk p n s=false:=by unfold lgOk;rw[VH h];simp
def Ov {p n s:Int}(h:inR s 9 1000=true)(h2:n=pfN s):lgOk p n s=inR p 0 (32-n):=by unfold lgOk;rw[h,VG h2];rfl
def lC {p n s:Int}(h:lgOk p n s=true):inR s 9 1000=true/\n=pfN s/\0<=p/\p<=32-n:=by
 unfold lgOk at h;simp only[Zb,VI,bB]at h;exact⟨bB.2 h.1,h.2.1,h.2.2⟩
def CS (p k b a:Int):Bool:=spOk p k b&&inR a (p*16) (p*16+15)
def saS (p k b a:Int):Int:=if CS p k b a=true then(a-p*16)/clsSz k else-1
def saO (p k b a:Int):Int:=if CS p k b a=true then(a-p*16)%clsSz k else-1
def H3 {p k b a:Int}(h:CS p k b a=false):saS p k b a= -1/\saO p k b a= -1:=by unfold saS saO;rw[h];exact⟨rfl,rfl⟩
def v5 {p k b a:Int}(h:CS p k b a=true):saS p k b a=(a-p*16)/clsSz k/\saO p k b a=(a-p*16)%clsSz k:=by unfold saS saO;rw[VJ h,VJ h];exact⟨rfl,rfl⟩
def yX {p k b a:Int}:CS p k b a=true↔spOk p k b=true/\p*16<=a/\a<=p*16+15:=by unfold CS;rw[Zb,bB]
def I7 (p k b s:Int):Bool:=spOk p k b&&inR s 0 (slN k-1)
def aaI (p k b s:Int):Int:=if I7 p k b s=true then p*16+s*clsSz k else-1
def lhB (p n s a:Int):Bool:=lgOk p n s&&inR a (p*16) (p*16+s-1)
def loI (p n s a:Int):Int:=if lhB p n s a=true then a-p*16 else-1
def Ow {p n s a:Int}(h:lgOk p n s=false):lhB p n s a=false:=by unfold lhB;rw[h];rfl
def Oy {p n s a:Int}(h:lgOk p n s=true):lhB p n s a=inR a (p*16) (p*16+s-1):=by unfold lhB;rw[h];rfl
def SZ {p n s a:Int}(h:lhB p n s a=false):loI p n s a= -1:=by unfold loI;rw[h];rfl
def Oz {p n s a:Int}(h:lhB p n s a=true):loI p n s a=a-p*16:=by unfold loI;rw[VJ h]
def Cv {a b:Int}(h: -9223372036854775808<=a*b/\a*b<=9223372036854775807):bK .mul Za a b=a*b:=YU _ h
def T0 {p:Int}(h:0<=p/\p<=31):bK .mul Za p 16=p*16/\bK .sub Za (bK .add Za (p*16) 16) 1=p*16+15:=by
 have e1:bK .mul Za p 16=p*16:=Cv Uc;have e2:bK .add Za (p*16) 16=p*16+16:=cu Uc;have e3:bK .sub Za (p*16+16) 1=p*16+16-1:=fC Uc;rw[e1,e2,e3];omega
def KJ {p k b a:Int}(h:spOk p k b=true)(h1:inR a (p*16) (p*16+15)=true):saS p k b a=bK .quo Za (bK .sub Za a (p*16)) (clsSz k)/\saO p k b a=bK .rem Za (bK .sub Za a (p*16)) (clsSz k):=by
 have t:=oT h;have q:=bB.1 h1;have c:=lq t.2.2.1;have y:=v5 (yX.2 ⟨h,q⟩);have e:bK .sub Za a (p*16)=a-p*16:=fC Uc;rw[y.1,y.2,e,xE Uc Uc Uc,tp Uc];exact⟨rfl,rfl⟩
def aar {p k b a:Int}(h:spOk p k b=false):CS p k b a=false:=by unfold CS;rw[h];rfl
def aas {p k b a:Int}(h:inR a (p*16) (p*16+15)=false):CS p k b a=false:=by unfold CS;rw[h,Yb]
def MU {p k b s:Int}(h:spOk p k b=true)(h1:inR s 0 (slN k-1)=true):bK .add Za (bK .mul Za p 16) (bK .mul Za s (clsSz k))=aaI p k b s:=by
 have t:=oT h;have c:=lq t.2.2.1;have q:=bB.1 h1;have m1:0<=s*clsSz k:=Int.mul_nonneg q.1 Uc;have m2:s*clsSz k<=(slN k-1)*clsSz k:=Int.mul_le_mul_of_nonneg_right q.2 Uc;have m3:(slN k-1)*clsSz k=16-clsSz k:=by rw[Int.sub_mul,c.2.2.2.2,Int.one_mul]
 have e:bK .mul Za s (clsSz k)=s*clsSz k:=Cv Uc;rw[(T0 ⟨t.1,t.2.1⟩).1,e];unfold aaI I7;rw[h,h1];exact cu Uc
def Lc {p k b s:Int}(h:spOk p k b=false\/inR s 0 (slN k-1)=false):aaI p k b s= -1:=by
 unfold aaI I7;rcases h with h|h
 ·rw[h];rfl
 ·rw[h,Yb];rfl
def LQ {p n s:Int}(h:lgOk p n s=true):bK .mul Za p 16=p*16/\bK .add Za (bK .mul Za p 16) s=p*16+s/\bK .sub Za (bK .add Za (bK .mul Za p 16) s) 1=p*16+s-1:=by
 have t:=lC h;have b:=m8 t.1;have q:=bB.1 t.1;have e1:bK .mul Za p 16=p*16:=Cv Uc;have e2:bK .add Za (p*16) s=p*16+s:=cu Uc;have e3:bK .sub Za (p*16+s) 1=p*16+s-1:=fC Uc;rw[e1,e2,e3];exact⟨rfl,rfl,rfl⟩
def Ox {p n s a:Int}:lhB p n s a=true↔lgOk p n s=true/\p*16<=a/\a<=p*16+s-1:=by unfold lhB;rw[Zb,bB]
def SY {p n s a:Int}(h:lhB p n s a=true):bK .sub Za a (bK .mul Za p 16)=loI p n s a:=by
 obtain⟨h1,h2,h3⟩:=Ox.1 h;have t:=lC h1;have b:=m8 t.1;have q:=bB.1 t.1;rw[(LQ h1).1,Oz h];exact fC Uc
end Go.V
namespace Go.V
def jG (l:List Int):af:=l.map fun x=>[.i x]
def iQ {l:List Int}:(jG l).length=l.length:=by unfold jG;rw[List.length_map]
def yV {a b:List Int}:jG (a++b)=jG a++jG b:=by unfold jG;rw[List.map_append]
def PC {l:List Int}{k:Nat}(h:k<l.length):ag (jG l) k 0=l[k]:=by
 have e:(jG l).getD k []=[.i l[k]]:=by
  unfold jG;rw[Zp,List.getElem?_map,Zt h];rfl
 unfold ag;rw[ZI,e];rfl
def H1 {l:List Int}(h:∀ x∈l,-9223372036854775808<=x/\x<=9223372036854775807)(hl:l.length<=70368744177664):Rw [tI] (jG l):=by
 refine⟨by rw[iQ];unfold maxLen;omega,fun e he=>?_⟩;obtain⟨x,hx,rfl⟩:=List.mem_map.1 he;have q:=h x hx;exact⟨⟨rfl,by show-9223372036854775808<=x/\x<=(9223372036854775807:Int);exact q⟩,trivial⟩
def Mn (sp:af)(i:Int):Bool:=spOk (ag sp i 0) (ag sp i 1) (ag sp i 2)
def Oq (lg:af)(i:Int):Bool:=lgOk (ag lg i 0) (ag lg i 1) (ag lg i 2)
def lP (sp:af):Nat->List Int
 |0=>[]
 |n+1=>lP sp n++[ag sp n 0]
def tj (p:Int):Nat->List Int
 |0=>[]
 |n+1=>tj p n++[p+n]
def mZ (lg:af):Nat->List Int
 |0=>[]
 |n+1=>mZ lg n++tj (ag lg n 0) (ag lg n 1).toNat
def wT (sp lg:af):List Int:=lP sp sp.length++mZ lg lg.length
def layOk (sp lg:af):Bool:=(dj (Mn sp) sp.length&&dj (Oq lg) lg.length)&&decide (wT sp lg).Nodup
def y8 {sp:af}{i:Int}(h:0<=i):lP sp (i+1).toNat=lP sp i.toNat++[ag sp i 0]:=by
 rw[show(i+1).toNat=i.toNat+1 from by omega,lP,Zm h]
def Cr {lg:af}{i:Int}(h:0<=i):mZ lg (i+1).toNat=mZ lg i.toNat++tj (ag lg i 0) (ag lg i 1).toNat:=by
 rw[show(i+1).toNat=i.toNat+1 from by omega,mZ,Zm h]
def CL {p i:Int}(h:0<=i):tj p (i+1).toNat=tj p i.toNat++[p+i]:=by
 rw[show(i+1).toNat=i.toNat+1 from by omega,tj,Zm h]
def Ew {sp:af}:∀ (m n:Nat),n<=m->∃ r,lP sp m=lP sp n++r
 |0,n,h=>⟨[],by rw[show n=0 by omega];rfl⟩
 | m+1,n,h=>by
   by_cases c:n=m+1
   ·subst c;exact⟨[],by simp⟩
   ·obtain⟨r,e⟩:=Ew (sp:=sp) m n Uc;exact⟨r++[ag sp m 0],by rw[lP,e,Zn]⟩
def Eh {p:Int}:∀ (m n:Nat),n<=m->∃ r,tj p m=tj p n++r
 |0,n,h=>⟨[],by rw[show n=0 by omega];rfl⟩
 | m+1,n,h=>by
   by_cases c:n=m+1
   ·subst c;exact⟨[],by simp⟩
   ·obtain⟨r,e⟩:=Eh (p:=p) m n Uc;exact⟨r++[p+m],by rw[tj,e,Zn]⟩
def DY {lg:af}:∀ (m n:Nat),n<=m->∃ r,mZ lg m=mZ lg n++r
 |0,n,h=>⟨[],by rw[show n=0 by omega];rfl⟩
 | m+1,n,h=>by
   by_cases c:n=m+1
   ·subst c;exact⟨[],by simp⟩
   ·obtain⟨r,e⟩:=DY (lg:=lg) m n Uc;exact⟨r++tj (ag lg m 0) (ag lg m 1).toNat,by rw[mZ,e,Zn]⟩
def dup {a b l:List Int}{x:Int}(h:l=a++x::b)(hm:x∈a):¬ l.Nodup:=by
 rw[h,Zu];rintro⟨_,_,q⟩;exact q x hm x (by simp) rfl
def qG {a:List Int}{x:Int}(h:a.Nodup)(hx:x∉a):(a++[x]).Nodup:=by
 rw[Zu];exact⟨h,by simp,fun y hy z hz e=>by simp at hz;subst hz;subst e;exact hx hy⟩
def J4 {sp lg:af}{i:Int}(h0:0<=i)(h1:i<sp.length)(h:spOk (ag sp i 0) (ag sp i 1) (ag sp i 2)=false):layOk sp lg=false:=by
 unfold layOk;rw[cM h0 h1 h];rfl
def J5 {sp lg:af}{i:Int}(h0:0<=i)(h1:i<lg.length)(h:lgOk (ag lg i 0) (ag lg i 1) (ag lg i 2)=false):layOk sp lg=false:=by
 unfold layOk;rw[cM (p:=Oq lg) h0 h1 h,Yb];rfl
def J6 {sp lg:af}{i:Int}(h0:0<=i)(h1:i<sp.length)(h:ag sp i 0∈lP sp i.toNat):layOk sp lg=false:=by
 obtain⟨r,e⟩:=Ew (sp:=sp) sp.length (i+1).toNat Uc;rw[y8 h0,Zn]at e;have:¬ (wT sp lg).Nodup:=dup (a:=lP sp i.toNat) (b:=r++mZ lg lg.length) (x:=ag sp i 0) (by unfold wT;rw[e,Zn];rfl) h;unfold layOk;rw[VH this,Yb]
def J7 {sp lg:af}{i k:Int}(h0:0<=i)(h1:i<lg.length)(k0:0<=k)(k1:k<ag lg i 1)(h:ag lg i 0+k∈lP sp sp.length++mZ lg i.toNat++tj (ag lg i 0) k.toNat):layOk sp lg=false:=by
 obtain⟨r,e⟩:=DY (lg:=lg) lg.length (i+1).toNat Uc;obtain⟨r2,e2⟩:=Eh (p:=ag lg i 0) (ag lg i 1).toNat (k+1).toNat Uc;rw[Cr h0,e2,CL k0]at e;have:¬ (wT sp lg).Nodup:=dup (a:=lP sp sp.length++mZ lg i.toNat++tj (ag lg i 0) k.toNat) (b:=r2++r) (x:=ag lg i 0+k) (by unfold wT;rw[e];simp only[Zn];rfl) h;unfold layOk;rw[VH this,Yb]
def J8 {sp lg:af}{i j:Int}(h:upto (Mn sp) i)(hi:(sp.length:Int)<=i)(h2:upto (Oq lg) j)(hj:(lg.length:Int)<=j)(hn:(wT sp lg).Nodup):layOk sp lg=true:=by
 unfold layOk;rw[cv h hi,cv h2 hj,VG hn];rfl
def G9 {sp lg:af}(h:layOk sp lg=true):(∀ i:Int,0<=i->i<sp.length->spOk (ag sp i 0) (ag sp i 1) (ag sp i 2)=true)/\(∀ i:Int,0<=i->i<lg.length->lgOk (ag lg i 0) (ag lg i 1) (ag lg i 2)=true)/\(wT sp lg).Nodup:=by
 unfold layOk at h;simp only[Zb,VI]at h;exact⟨dI.1 h.1.1,dI.1 h.1.2,h.2⟩
def Qr (es:af):Prop:=∀ e∈es,∃ (k:Int) (b:Bool),e=[.i k,.v (.bool b)]
def vD {k:Int}{b:Bool}{es:af}{n:Int}:dN ([.i k,.v (.bool b)]::es) n=if k=n then some (0,.bool b)else(dN es n).map fun p=>(p.1+1,p.2):=rfl
def nK {k:Int}{b:Bool}{es:af}{n:Int}:mgbI ([.i k,.v (.bool b)]::es) n=if k=n then b else mgbI es n:=by
 unfold mgbI;rw[vD];by_cases c:k=n
 ·rw[VJ c,VJ c]
 ·rw[VK c,VK c];cases dN es n with
  |none=>rfl
  |some p=>obtain⟨j,v⟩:=p;cases v<;>rfl
def D8 {k:Int}{b x:Bool}{es:af}{n:Int}:lO ([.i k,.v (.bool b)]::es) n (.v (.bool x))=if k=n then[.i n,.v (.bool x)]::es else[.i k,.v (.bool b)]::lO es n (.v (.bool x)):=by
 unfold lO;rw[vD];by_cases c:k=n
 ·rw[VJ c,VJ c];rfl
 ·rw[VK c,VK c];cases dN es n with
  |none=>rfl
  |some p=>rfl
def mub {x:Bool}{n:Int}:∀ {es:af},Qr es->Qr (lO es n (.v (.bool x)))/\∀ m,mgbI (lO es n (.v (.bool x))) m=if m=n then x else mgbI es m
 | [],_=>by
   refine⟨fun e he=>?_,fun m=>?_⟩
   ·have:e=[.i n,.v (.bool x)]:=by simpa[lO,dN]using he
    exact⟨n,x,this⟩
   ·show mgbI [[.i n,.v (.bool x)]] m=_;rw[nK];by_cases c:m=n
    ·rw[VJ c.symm,VJ c]
    ·rw[VK (fun e=>c e.symm),VK c]
 | e::es,h=>by
   obtain⟨k,b,rfl⟩:=h e (by simp);have h':Qr es:=fun e he=>h e (by simp[he])
   obtain⟨a1,a2⟩:=mub (x:=x) (n:=n) h';rw[D8];by_cases c:k=n
   ·rw[VJ c];refine⟨fun e he=>?_,fun m=>?_⟩
    ·rcases Zj.1 he with rfl|he;exact⟨n,x,rfl⟩;exact h' e he
    ·rw[nK,nK];by_cases d:m=n
     ·rw[VJ d.symm,VJ d]
     ·rw[VK (fun e=>d e.symm),VK d,VK (fun e=>d (by rw[<-e,c]))]
   ·rw[VK c];refine⟨fun e he=>?_,fun m=>?_⟩
    ·rcases Zj.1 he with rfl|he;exact⟨k,b,rfl⟩;exact a1 e he
    ·rw[nK,nK,a2 m];by_cases d:k=m
     ·rw[VJ d,VJ d,VK (fun e=>c (d.trans e))]
     ·rw[VK d,VK d]
def muT (es:af)(n:Int):af:=lO es n (.v (.bool true))
structure oW (es:af)(l:List Int):Prop where
 wf:Qr es
 at_:∀ m,mgbI es m=true↔m∈l
def CV:oW [] []:=⟨(fun e he=>by cases he),fun m=>by simp[mgbI,dN]⟩
def ut {es:af}{l:List Int}{n:Int}(h:oW es l):oW (lO es n (.v (.bool true))) (l++[n]):=by
 have q:=mub (x:=true) (n:=n) h.wf;refine⟨q.1,fun m=>?_⟩;rw[q.2 m];by_cases c:m=n
 ·rw[VJ c];simp[c]
 ·rw[VK c,h.at_ m];simp[c]
def one (x:Int):af:=[[.i x]]
structure LsP (sp:af)(i:Int)(o:af):Prop where
 e:o=jG (lP sp i.toNat)
 nd:(lP sp i.toNat).Nodup
 ok:upto (Mn sp) i
 b:∀ x∈lP sp i.toNat,0<=x/\x<=64
structure LlP (sp lg:af)(j:Int)(o:af):Prop where
 e:o=jG (lP sp sp.length++mZ lg j.toNat)
 nd:(lP sp sp.length++mZ lg j.toNat).Nodup
 oks:upto (Mn sp) sp.length
 ok:upto (Oq lg) j
 b:∀ x∈lP sp sp.length++mZ lg j.toNat,0<=x/\x<=64
 l:(mZ lg j.toNat).length<=64*j.toNat
structure LkP (sp lg:af)(j k:Int)(o:af):Prop where
 e:o=jG (lP sp sp.length++mZ lg j.toNat++tj (ag lg j 0) k.toNat)
 nd:(lP sp sp.length++mZ lg j.toNat++tj (ag lg j 0) k.toNat).Nodup
 oks:upto (Mn sp) sp.length
 ok:upto (Oq lg) j
 b:∀ x∈lP sp sp.length++mZ lg j.toNat++tj (ag lg j 0) k.toNat,0<=x/\x<=64
 l:(mZ lg j.toNat).length<=64*j.toNat
def acQ {p n s k:Int}(h:lgOk p n s=true)(k0:0<=k)(k1:k<n):0<=p/\p+k<=32/\bK .add Za p k=p+k/\1<=n/\n<=32:=by
 have t:=lC h;have b:=m8 t.1;have e:bK .add Za p k=p+k:=cu Uc;exact⟨Uc,Uc,e,Uc,Uc⟩
end Go.V
namespace Go.V
structure MI (sp:af)(i:Int)(es:af):Prop where
 s:oW es (lP sp i.toNat)
 nd:(lP sp i.toNat).Nodup
 ok:upto (Mn sp) i
structure Qm (sp lg:af)(j:Int)(es:af):Prop where
 s:oW es (lP sp sp.length++mZ lg j.toNat)
 nd:(lP sp sp.length++mZ lg j.toNat).Nodup
 oks:upto (Mn sp) sp.length
 ok:upto (Oq lg) j
structure MG (sp lg:af)(j k:Int)(es:af):Prop where
 s:oW es (lP sp sp.length++mZ lg j.toNat++tj (ag lg j 0) k.toNat)
 nd:(lP sp sp.length++mZ lg j.toNat++tj (ag lg j 0) k.toNat).Nodup
 oks:upto (Mn sp) sp.length
 ok:upto (Oq lg) j
def H7 {es:af}{l:List Int}{n:Int}(h:oW es l)(e:mgbI es n=false):n∉l:=fun m=>by rw[(h.at_ n).2 m]at e;cases e
def acx {sp:af}:MI sp 0 []:=⟨CV,List.nodup_nil,bR⟩
def Ob {sp lg es:af}{i:Int}(h:MI sp i es)(h0:0<=i)(h1:i<sp.length)(hh:mgbI es (ag sp i 0)=true):layOk sp lg=false:=
 J6 h0 h1 ((h.s.at_ _).1 hh)
def SC {sp es:af}{i:Int}(h:MI sp i es)(h0:0<=i)(hs:spOk (ag sp i 0) (ag sp i 1) (ag sp i 2)=true)(hh:mgbI es (ag sp i 0)=false):MI sp (i+1) (muT es (ag sp i 0)):=
 ⟨by rw[y8 h0];exact ut h.s,by rw[y8 h0];exact qG h.nd (H7 h.s hh),bL h.ok hs⟩
def Oc {sp lg es:af}{i:Int}(h:MI sp i es)(h1:i<=sp.length)(h2:(sp.length:Int)<=i):Qm sp lg 0 es:=by
 have e:i.toNat=sp.length:=by omega
 have ei:i=sp.length:=by omega
 have q1:=h.s;have q2:=h.nd;have q3:=h.ok;rw[e]at q1 q2;rw[ei]at q3;exact⟨by simpa[mZ]using q1,by simpa[mZ]using q2,q3,bR⟩
def acw {sp lg es:af}{j:Int}(h:Qm sp lg j es):MG sp lg j 0 es:=
 ⟨by simpa[tj]using h.s,by simpa[tj]using h.nd,h.oks,h.ok⟩
def N0 {sp lg es:af}{j k:Int}(h:MG sp lg j k es)(h0:0<=j)(h1:j<lg.length)(k0:0<=k)(k1:k<ag lg j 1)(hh:mgbI es (ag lg j 0+k)=true):layOk sp lg=false:=
 J7 h0 h1 k0 k1 ((h.s.at_ _).1 hh)
def Sn {sp lg es:af}{j k:Int}(h:MG sp lg j k es)(k0:0<=k)(hh:mgbI es (ag lg j 0+k)=false):MG sp lg j (k+1) (muT es (ag lg j 0+k)):=by
 have q:∀ A:List Int,A++tj (ag lg j 0) (k+1).toNat=A++tj (ag lg j 0) k.toNat++[ag lg j 0+k]:=fun A=>by rw[CL k0,Zn]
 exact⟨by rw[q];exact ut h.s,by rw[q];exact qG h.nd (H7 h.s hh),h.oks,h.ok⟩
def N6 {sp lg es:af}{j k:Int}(h:MG sp lg j k es)(j0:0<=j)(hl:lgOk (ag lg j 0) (ag lg j 1) (ag lg j 2)=true)(k1:k<=ag lg j 1)(k2:ag lg j 1<=k):Qm sp lg (j+1) es:=by
 have ek:k.toNat=(ag lg j 1).toNat:=by omega
 have q1:=h.s;have q2:=h.nd;rw[ek,Zn, <-Cr j0]at q1 q2;exact⟨q1,q2,h.oks,bL h.ok hl⟩
def N7 {sp lg es:af}{j:Int}(h:Qm sp lg j es)(j1:j<=lg.length)(j2:(lg.length:Int)<=j):layOk sp lg=true:=by
 have e:j.toNat=lg.length:=by omega
 have q:=h.nd;rw[e]at q;exact J8 h.oks (Yl _) h.ok j2 q
def Tn {b:Bool}(h:(!b)=false):b=true:=by cases b<;>simp_all
def To {b:Bool}(h:(!b)=true):b=false:=by cases b<;>simp_all
end Go.V
namespace Go.V
def yW (sp:af)(a i:Int):Bool:=decide (0<=saS (ag sp i 0) (ag sp i 1) (ag sp i 2) a)
def yz (lg:af)(a i:Int):Bool:=lhB (ag lg i 0) (ag lg i 1) (ag lg i 2) a
def gp (sp:af)(a:Int):Int:=cQ (yW sp a) sp.length
def oz (lg:af)(a:Int):Int:=cQ (yz lg a) lg.length
def IX (sp:af)(a i:Int):Int:=saS (ag sp i 0) (ag sp i 1) (ag sp i 2) a
def Mm (sp:af)(a i:Int):Int:=saO (ag sp i 0) (ag sp i 1) (ag sp i 2) a
def SX (lg:af)(a i:Int):Int:=loI (ag lg i 0) (ag lg i 1) (ag lg i 2) a
def dnK (sp lg:af)(a:Int):Int:=if 0<=gp sp a then(if hsB (ag sp (gp sp a) 2) (IX sp a (gp sp a))then 1 else 2)else if 0<=oz lg a then 3 else 0
def dnI (sp lg:af)(a:Int):Int:=if 0<=gp sp a then gp sp a else if 0<=oz lg a then oz lg a else 0
def dnS (sp:af)(a:Int):Int:=if 0<=gp sp a then IX sp a (gp sp a)else 0
def dnO (sp lg:af)(a:Int):Int:=if 0<=gp sp a then Mm sp a (gp sp a)else if 0<=oz lg a then SX lg a (oz lg a)else 0
def dzK (sp lg:af)(a:Int):Int:=if layOk sp lg then dnK sp lg a else 0
def dzO (sp lg:af)(a:Int):Int:=if layOk sp lg then dnO sp lg a else 0
def adr {sp:af}{a i:Int}(h:upto (cI (yW sp a)) i)(hs:saS (ag sp i 0) (ag sp i 1) (ag sp i 2) a<0):upto (cI (yW sp a)) (i+1):=
 bL h (by unfold cI yW;rw[VH Uc];rfl)
def acM {lg:af}{a i:Int}(h:upto (cI (yz lg a)) i)(hs:lhB (ag lg i 0) (ag lg i 1) (ag lg i 2) a=false):upto (cI (yz lg a)) (i+1):=
 bL h (by unfold cI yz;rw[hs];rfl)
def LA {sp:af}{a i:Int}(h:upto (cI (yW sp a)) i)(h0:0<=i)(h1:i<sp.length)(hs:0<=saS (ag sp i 0) (ag sp i 1) (ag sp i 2) a):gp sp a=i:=
 dB h h0 h1 (VG hs)
def LB {sp:af}{a i:Int}(h:upto (cI (yW sp a)) i)(h1:(sp.length:Int)<=i):gp sp a= -1:=dL h h1
def RE {lg:af}{a i:Int}(h:upto (cI (yz lg a)) i)(h0:0<=i)(h1:i<lg.length)(hs:lhB (ag lg i 0) (ag lg i 1) (ag lg i 2) a=true):oz lg a=i:=
 dB h h0 h1 hs
def RG {lg:af}{a i:Int}(h:upto (cI (yz lg a)) i)(h1:(lg.length:Int)<=i):oz lg a= -1:=dL h h1
def TT (k i s o:Int):List DV:=[DV.agg [.i k,.i i,.i s,.i o]]
def Lo (sp lg:af)(a:Int):List DV:=TT (dnK sp lg a) (dnI sp lg a) (dnS sp a) (dnO sp lg a)
def ow1 {sp lg:af}{a i:Int}(h:upto (cI (yW sp a)) i)(h0:0<=i)(h1:i<sp.length)(hs:0<=saS (ag sp i 0) (ag sp i 1) (ag sp i 2) a)(hh:hsB (ag sp i 2) (saS (ag sp i 0) (ag sp i 1) (ag sp i 2) a)=true):
 TT 1 i (saS (ag sp i 0) (ag sp i 1) (ag sp i 2) a) (saO (ag sp i 0) (ag sp i 1) (ag sp i 2) a)=Lo sp lg a:=by
 have e:=LA h h0 h1 hs;unfold Lo dnK dnI dnS dnO IX Mm;rw[e,VJ h0,VJ h0,VJ h0,VJ h0,hh];rfl
def ow2 {sp lg:af}{a i:Int}(h:upto (cI (yW sp a)) i)(h0:0<=i)(h1:i<sp.length)(hs:0<=saS (ag sp i 0) (ag sp i 1) (ag sp i 2) a)(hh:hsB (ag sp i 2) (saS (ag sp i 0) (ag sp i 1) (ag sp i 2) a)=false):
 TT 2 i (saS (ag sp i 0) (ag sp i 1) (ag sp i 2) a) (saO (ag sp i 0) (ag sp i 1) (ag sp i 2) a)=Lo sp lg a:=by
 have e:=LA h h0 h1 hs;unfold Lo dnK dnI dnS dnO IX Mm;rw[e,VJ h0,VJ h0,VJ h0,VJ h0,hh];rfl
def ow3 {sp lg:af}{a i j:Int}(h:upto (cI (yW sp a)) i)(h1:(sp.length:Int)<=i)(g:upto (cI (yz lg a)) j)(j0:0<=j)(j1:j<lg.length)(hh:lhB (ag lg j 0) (ag lg j 1) (ag lg j 2) a=true):
 TT 3 j 0 (loI (ag lg j 0) (ag lg j 1) (ag lg j 2) a)=Lo sp lg a:=by
 have e:=LB h h1;have f:=RE g j0 j1 hh;have n:¬ (0:Int)<= -1:=by omega
 unfold Lo dnK dnI dnS dnO SX;rw[e,f,VK n,VK n,VK n,VK n,VJ j0,VJ j0,VJ j0]
def ow4 {sp lg:af}{a i j:Int}(h:upto (cI (yW sp a)) i)(h1:(sp.length:Int)<=i)(g:upto (cI (yz lg a)) j)(j1:(lg.length:Int)<=j):
 TT 0 0 0 0=Lo sp lg a:=by
 have e:=LB h h1;have f:=RG g j1;have n:¬ (0:Int)<= -1:=by omega
 unfold Lo dnK dnI dnS dnO;rw[e,f,VK n,VK n,VK n,VK n,VK n,VK n,VK n]
end Go.V
namespace Go.V
def Hh (sp lg:af)(a:Int):Bool:=decide (dzO sp lg a=0)&&(decide (dzK sp lg a=1)||decide (dzK sp lg a=3))
def Oh (sp lg:af):Nat->af
 |0=>[]
 |n+1=>Oh sp lg n++(if Hh sp lg n then[[.i n]]else[])
def zP (sp lg:af):af:=if layOk sp lg then Oh sp lg 512 else[]
structure LaP (sp lg:af)(i:Int)(o:af):Prop where
 e:o=Oh sp lg i.toNat
 l:o.length<=i.toNat
 y:0<i->layOk sp lg=true
def vZ {a b:af}(h:a=b):[DV.one (.s 1 a)]=[DV.one (.s 1 b)]:=by rw[h]
end Go.V