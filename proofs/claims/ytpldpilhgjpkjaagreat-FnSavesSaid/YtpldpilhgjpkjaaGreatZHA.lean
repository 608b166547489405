/- Plain facts. -/
import Derived.Test.YtpldpilhgjpkjaaGreatZVE
set_option linter.all false
open Go
open BitVec renaming ofInt->ZV
open Bool renaming and_eq_true->Zb,and_false->Yc
open Int renaming toNat_of_nonneg->Zj,tmod_eq_emod_of_nonneg->WL,toNat_natCast->ZJ,le_trans->Wc,le_refl->Yi
open IntKind renaming has->XK,wrap->YY,bits->WN,signed->WO,i64->Za
open IntWalk renaming i64_in->YZ
open List renaming range->Zo,mem_range->Yf,length_append->Zf,mem_cons->Zl,getD_eq_getElem?_getD->Zm,getElem?_eq_getElem->Zt,take->Yh,drop->Yy,find?_range_eq_some->XL,find?_range_eq_none->WM,replicate->Zr,length_replicate->Xw,append_assoc->Zs,nodup_append->Zx
open Nat renaming zero_le->Zv,le_refl->Ze,le_trans->ZH
open Value renaming int->Zn
namespace Go.V
def aim {n:Int}(h:XK Za n): -9223372036854775808<=n/\n<=9223372036854775807:=h
def db {i:Int}(h0:0<=i)(h1:i<9223372036854775807):bQ .add Za i 1=i+1:=b8 Uc
def inR (x a b:Int):Bool:=decide (a<=x)&&decide (x<=b)
def ay {x a b:Int}:inR x a b=true↔a<=x/\x<=b:=by simp[inR]
def Au {x a b:Int}:inR x a b=false↔x<a\/b<x:=by
 cases h:inR x a b
 ·simp only[true_iff];unfold inR at h;simp only[Bool.and_eq_false_iff,decide_eq_false_iff_not]at h;omega
 ·rw[ay]at h;constructor
  ·intro q;cases q
  ·omega
def dI (p:Int->Bool)(n:Nat):Bool:=(Zo n).all fun j=>p (j:Int)
def upto (p:Int->Bool)(i:Int):Prop:=∀ j:Int,0<=j->j<i->p j=true
def cr {p:Int->Bool}:upto p 0:=fun j h0 h1=>absurd h1 Uc
def bU {p:Int->Bool}{i:Int}(h:upto p i)(hp:p i=true):upto p (i+1):=fun j h0 h1=>by
 by_cases q:j=i
 ·subst q;exact hp
 ·exact h j h0 Uc
def ez {p:Int->Bool}{n:Nat}:dI p n=true↔upto p n:=by
 simp only[dI,List.all_eq_true,Yf];exact⟨fun h j h0 h1=>by have:=h j.toNat Uc;rwa [Zj h0]at this,fun h x hx=>h x Uc Uc⟩
def cI {p:Int->Bool}{n:Nat}{i:Int}(h:upto p i)(hi:(n:Int)<=i):dI p n=true:=ez.2 fun j h0 h1=>h j h0 Uc
def cW {p:Int->Bool}{n:Nat}{i:Int}(h0:0<=i)(h:i<n)(hp:p i=false):dI p n=false:=by
 cases q:dI p n
 ·rfl
 ·rw[ez.1 q i h0 h]at hp;cases hp
def o8 {a b:Bool}(h:a=true↔b=true):a=b:=by cases a<;>cases b<;>simp_all
def ax {a b:Bool}(h:a=b):[DV.k a]=[DV.k b]:=by rw[h]
def pv (cs us:af)(i k:Int):Bool:=inR (ag (aU cs i 0) k 0) 0 999&&(qi us i 0||decide (ag (aU cs i 0) k 0=0))
def jR (cs us:af)(i:Int):Bool:=decide ((aU cs i 0).length=16)&&dI (pv cs us i) 16
def framesOk (cs us:af):Bool:=inR cs.length 1 32&&decide (us.length=cs.length)&&dI (jR cs us) cs.length
def sH (es:af)(fr i:Int):Bool:=inR (ag es i 0) 0 2&&decide (ag es i 0=0->ag es i 1=0)&&decide (0<ag es i 0->0<=ag es i 1/\ag es i 1<fr)
def tableOk (es:af)(fr:Int):Bool:=dI (sH es fr) es.length&&inR es.length 1 32
def ym (es:af)(f:Int):Nat->af
 |0=>[]
 |n+1=>if ag es n 0≠0/\ag es n 1=f then ym es f n++[[.i n]]else ym es f n
def pagesOn (es:af)(f:Int):af:=ym es f es.length
def BF {es:af}{f:Int}:∀ {n:Nat},(ym es f n).length<=n
 |0=>Zv _
 | n+1=>by
   have:=BF (es:=es) (f:=f) (n:=n);unfold ym;split
   ·rw[Zf];simp;omega
   ·omega
def On {es:af}{f:Int}{n:Nat}(h0:ag es n 0≠0)(h1:ag es n 1=f):ym es f (n+1)=ym es f n++[[.i n]]:=by rw[ym,VO ⟨h0,h1⟩]
def Le {es:af}{f:Int}{n:Nat}(h:ag es n 0=0\/ag es n 1≠f):ym es f (n+1)=ym es f n:=by rw[ym,VP (by rintro⟨a,b⟩;rcases h with q|q;exact a q;exact q b)]
def Om {es:af}{f i:Int}(hi:0<=i)(h0:ag es i 0≠0)(h1:ag es i 1=f):ym es f (i+1).toNat=ym es f i.toNat++[[.i i]]:=by
 have e:((i.toNat:Nat):Int)=i:=Zj hi;rw[show(i+1).toNat=i.toNat+1 from by omega,On (by rw[e];exact h0) (by rw[e];exact h1),e]
def Ld {es:af}{f i:Int}(hi:0<=i)(h:ag es i 0=0\/ag es i 1≠f):ym es f (i+1).toNat=ym es f i.toNat:=by
 have e:((i.toNat:Nat):Int)=i:=Zj hi;rw[show(i+1).toNat=i.toNat+1 from by omega,Le (by rw[e];exact h)]
def AF {es:af}{f:Int}:(pagesOn es f).length<=es.length:=BF
def fL (es:af)(f:Int):Bool:=decide (0<(pagesOn es f).length)
def Bw {es:af}{f:Int}:fL es f=true↔0<(pagesOn es f).length:=by simp[fL]
def SX {cs us:af}(h:inR cs.length 1 32=false):framesOk cs us=false:=by unfold framesOk;rw[h];rfl
def SY {cs us:af}(h:us.length≠cs.length):framesOk cs us=false:=by unfold framesOk;rw[VM h];simp
def SZ {cs us:af}{i:Int}(h0:0<=i)(h1:i<cs.length)(h:(aU cs i 0).length≠16):framesOk cs us=false:=by
 unfold framesOk;rw[cW h0 h1 (by unfold jR;rw[VM h];rfl)];simp
def J0 {cs us:af}{i k:Int}(h0:0<=i)(h1:i<cs.length)(k0:0<=k)(k1:k<16)(h:inR (ag (aU cs i 0) k 0) 0 999=false\/qi us i 0=false/\ag (aU cs i 0) k 0≠0):framesOk cs us=false:=by
 unfold framesOk;rw[cW h0 h1 (by unfold jR;rw[cW k0 (by simpa using k1) (by unfold pv;rcases h with q|⟨q,q'⟩;rw[q];rfl;rw[q,VM q'];simp)];simp)];simp
def E0 {cs us:af}{i:Int}(h1:inR cs.length 1 32=true)(h2:us.length=cs.length)(h:upto (jR cs us) i)(hi:(cs.length:Int)<=i):framesOk cs us=true:=by
 unfold framesOk;rw[h1,VL h2,cI h hi];rfl
def JZ {cs us:af}{i k:Int}(hl:(aU cs i 0).length=16)(h:upto (pv cs us i) k)(hk:16<=k):jR cs us i=true:=by
 unfold jR;rw[VL hl,cI h (by simpa using hk)];rfl
def JA {cs us:af}{i k:Int}(h:inR (ag (aU cs i 0) k 0) 0 999=true)(h':qi us i 0=true\/ag (aU cs i 0) k 0=0):pv cs us i k=true:=by
 unfold pv;rw[h];rcases h' with q|q
 ·rw[q];rfl
 ·rw[VL q];simp
def BN {k:Nat}{a b:af}(h:a=b):[DV.one (.s k a)]=[DV.one (.s k b)]:=by rw[h]
def agk {es:af}{n i:Int}(h0:0<=i)(h1:i<es.length)(h:¬ (0<=ag es i 0/\ag es i 0<=2/\(ag es i 0=0->ag es i 1=0)/\(0<ag es i 0->0<=ag es i 1/\ag es i 1<n))):tableOk es n=false:=by
 unfold tableOk;rw[cW h0 h1];rfl;cases q:sH es n i;rfl
 ·refine absurd ?_ h;unfold sH at q;simp only[Zb,VN,ay]at q;exact⟨q.1.1.1,q.1.1.2,q.1.2,q.2⟩
def L1 {es:af}{n i:Int}(h:0<=ag es i 0/\ag es i 0<=2/\(ag es i 0=0->ag es i 1=0)/\(0<ag es i 0->0<=ag es i 1/\ag es i 1<n)):sH es n i=true:=by
 unfold sH;simp only[Zb,VN,ay];exact⟨⟨⟨h.1,h.2.1⟩,h.2.2.1⟩,h.2.2.2⟩
def Gb {es:af}{n i:Int}(h:upto (sH es n) i)(hi:(es.length:Int)<=i):tableOk es n=inR es.length 1 32:=by unfold tableOk;rw[cI h hi];rfl
def Ga {es:af}{n:Int}(h:tableOk es n=true):1<=es.length/\es.length<=32:=by
 unfold tableOk at h;simp only[Zb,ay]at h;omega
def Rc {es:af}{n i:Int}(h:tableOk es n=true)(h0:0<=i)(h1:i<es.length):0<=ag es i 0/\ag es i 0<=2/\(ag es i 0=0->ag es i 1=0)/\(0<ag es i 0->0<=ag es i 1/\ag es i 1<n):=by
 unfold tableOk at h;simp only[Zb]at h;have q:=ez.1 h.1 i h0 h1;unfold sH at q;simp only[Zb,VN,ay]at q;exact⟨q.1.1.1,q.1.1.2,q.1.2,q.2⟩
def uk {cs us:af}(h:framesOk cs us=true):us.length=cs.length/\1<=cs.length/\cs.length<=32:=by
 unfold framesOk at h;simp only[Zb,VN,ay]at h;omega
def PU {cs us:af}{i:Int}(h:framesOk cs us=true)(h0:0<=i)(h1:i<cs.length):(aU cs i 0).length=16:=by
 unfold framesOk at h;simp only[Zb,VN,ay]at h;have q:=ez.1 h.2 i h0 h1;unfold jR at q;simp only[Zb,VN]at q;exact q.1
end Go.V
namespace Go.V
def vF {a n:Int}(h0:0<=a)(h1:a<=9223372036854775807)(hn:0<n):bQ .quo Za a n=a/n:=by
 show YY Za (a.tdiv n)=_;rw[Int.tdiv_eq_ediv_of_nonneg h0];have h2:0<=a/n:=Int.ediv_nonneg h0 Uc;have h3:a/n<=a:=Int.ediv_le_self _ h0;exact YZ _ Uc
def yp {a n:Int}(h0:0<=a):bQ .rem Za a n=a%n:=WL h0
def NU {a:af}{f:Int}:du .gtr (pagesOn a f).length 0=fL a f:=o8 (by rw[Bw];simp only[SS];omega)
def NZ {a:af}{f:Int}(h:(pagesOn a f).length=0):fL a f=false:=by unfold fL;rw[h];rfl
def CH {a b a' b':Int}(h:a=a')(h':b=b'):[DV.agg [.i a,.i b]]=[DV.agg [.i a',.i b']]:=by rw[h,h']
def Ah {a b a' b':Int}(h:a=a')(h':b=b'):[DV.j a,DV.j b]=[DV.j a',DV.j b']:=by rw[h,h']
def cd {a b:Int}(h:a=b):[DV.j a]=[DV.j b]:=by rw[h]
def peM (es:af)(p:Int):Int:=if 0<=p/\p<es.length then ag es p 0 else 0
def peF (es:af)(p:Int):Int:=if 0<=p/\p<es.length then ag es p 1 else 0
def BE {es:af}{p:Int}(h:0<=p/\p<es.length):peM es p=ag es p 0/\peF es p=ag es p 1:=by unfold peM peF;rw[VO h,VO h];exact⟨rfl,rfl⟩
def Dx {es:af}{p:Int}(h:¬ (0<=p/\p<es.length)):peM es p=0/\peF es p=0:=by unfold peM peF;rw[VP h,VP h];exact⟨rfl,rfl⟩
def ae7 {es:af}{n p:Int}(h:tableOk es n=true)(hm:peM es p≠0):0<=peF es p/\peF es p<n/\1<=peM es p/\peM es p<=2:=by
 by_cases q:0<=p/\p<es.length
 ·rw[(BE q).1]at hm ⊢;rw[(BE q).2];have:=Rc h q.1 q.2;omega
 ·exact absurd (Dx q).1 hm
def T0 (es:af)(a:Int):Int:=if a<0 then 0 else peM es (a/16)
def TZ (es:af)(a:Int):Int:=if a<0 then 0 else peF es (a/16)
def leK (a:Int):Int:=if a<0 then 0 else a%16
def KB {es:af}{a:Int}(h:a<0):T0 es a=0/\TZ es a=0/\leK a=0:=by unfold T0 TZ leK;rw[VO h,VO h,VO h];exact⟨rfl,rfl,rfl⟩
def x7 {es:af}{a:Int}(h:¬ a<0):T0 es a=peM es (a/16)/\TZ es a=peF es (a/16)/\leK a=a%16:=by unfold T0 TZ leK;rw[VP h,VP h,VP h];exact⟨rfl,rfl,rfl⟩
end Go.V
namespace Go.V
def p8 {fs:List Ty}{es:af}{i:Int}(h:Rw [.sl fs] es)(h0:0<=i)(h1:i<es.length):es.take (i+1).toNat=es.take i.toNat++[[.s fs.length (aU es i 0)]]:=by
 rw[show(i+1).toNat=i.toNat+1 from by omega,lN (d:=[]) (show i.toNat<es.length by omega)];have e:=h.eta h0 h1;rw[e];rfl
def tp {fs:List Ty}{es:af}{i:Int}(h:Rw [.sl fs] es)(h0:0<=i)(h1:i<es.length):au (aU es i 0)+es.length<=au es:=by
 have e:=h.eta h0 h1;have h2:=Na (es:=es) (n:=i.toNat) Uc;have h3:=zG (es:=es) (n:=i.toNat+1);rw[e]at h2;have h4:gV (mb aj es i 0 (zR [Ty.sl fs]))=au (aU es i 0):=by
  show gV [.s fs.length (aU es i 0)]=_;simp only[gV,xH,au];omega
 rw[h4]at h2;show _<=es.length+cZ es;omega
def aS {es:af}:es.length<=au es:=Nat.le_add_right _ _
def p7 {es:af}{i:Int}(h:(es.length:Int)<=i):es.take i.toNat=es:=List.take_of_length_le Uc
def pG (us es:af)(i:Int):Bool:=qi us i 0==fL es i
def machOk (cs us es:af):Bool:=framesOk cs us&&tableOk es cs.length&&dI (pG us es) cs.length
def Qo {cs us es:af}(h:framesOk cs us=false\/tableOk es cs.length=false):machOk cs us es=false:=by
 unfold machOk;rcases h with h|h<;>rw[h]<;>simp
def aah {cs us es:af}(hf:framesOk cs us=true)(h:tableOk es us.length=false):machOk cs us es=false:=by
 rw[(uk hf).1]at h;exact Qo (.inr h)
def aai {cs us es:af}{i:Int}(h0:0<=i)(h1:i<cs.length)(h:qi us i 0≠fL es i):machOk cs us es=false:=by
 unfold machOk;rw[cW h0 h1 (by unfold pG;simpa using h)];simp
def KF {us es:af}{i:Int}(h:qi us i 0=fL es i):pG us es i=true:=by unfold pG;simpa using h
def Fz {cs us es:af}{i:Int}(h:framesOk cs us=true)(h2:tableOk es us.length=true)(hu:upto (pG us es) i)(hi:(us.length:Int)<=i):machOk cs us es=true:=by
 rw[(uk h).1]at h2 hi;unfold machOk;rw[h,h2,cI hu hi];rfl
def KG {cs us es:af}(q:machOk cs us es=true):framesOk cs us=true/\tableOk es cs.length=true/\∀ i:Int,0<=i->i<cs.length->qi us i 0=fL es i:=by
 unfold machOk at q;simp only[Zb]at q;refine⟨q.1.1,q.1.2,fun i h0 h1=>?_⟩;have:=ez.1 q.2 i h0 h1;unfold pG at this;simpa using this
def fI:∀ {rs:List af} {r:af} {n:Nat},Ab rs<=n->r∈rs->au r<=n
 | a::rs,r,n,h,hr=>by
   simp only[Ab]at h;rcases Zl.1 hr with rfl|q;omega;exact fI (rs:=rs) Uc q
end Go.V
namespace Go.V
def Ad:∀ {fs:List Ty} {e:aT},bV fs e->e.length=fs.length
 |[],[],_=>rfl
 |[],_::_,h=>h.elim
 |_::_,[],h=>h.elim
 |_::fs,_::e,h=>by simp only[List.length_cons];rw[Ad h.2]
def Rw.wid {fs:List Ty}{es:af}(h:Rw fs es){n:Nat}(hn:n<es.length):(es.getD n []).length=fs.length:=Ad (h.at hn)
def Aa:∀ {es:af} {n:Nat} {e:aT},cZ (es.set n e)<=cZ es+gV e
 |[],_,_=>by simp[cZ]
 |a::es,0,e=>by simp only[List.set_cons_zero,cZ];omega
 | a::es,n+1,e=>by
   have:=Aa (es:=es) (n:=n) (e:=e);simp only[List.set_cons_succ,cZ];omega
def xG {es:af}{n:Nat}{e:aT}:au (es.set n e)<=au es+gV e:=by
 unfold au;rw[List.length_set];have:=Aa (es:=es) (n:=n) (e:=e);omega
def akj {u:af}{i:Int}{b:Bool}(h:Rw [tB] u)(h0:0<=i)(h1:i<u.length):jL (.s 1 u) [(i.toNat,0)] [.v (.bool b)]=u.set i.toNat [.v (.bool b)]:=eK (by rw[h.wid Uc];rfl)
def J4 {t:Ty}{u:af}{i:Int}(h:Rw [t] u)(h0:0<=i)(h1:i<u.length):∃ rec o',bZ (.s 1 u) [(i.toNat,0)]=some (rec,o')/\o'+1<=rec.length:=fC Uc (by rw[h.wid Uc];exact Ze _)
end Go.V
namespace Go.V
def oV (cs:af)(fr k v:Int):af:=cs.set fr.toNat [.s 1 ((aU cs fr 0).set k.toNat [.i v])]
def BM {cs:af}{fr:Int}(h:Rw [.sl [tI]] cs)(h0:0<=fr)(h1:fr<cs.length):cs.getD fr.toNat []=[.s 1 (aU cs fr 0)]:=h.eta h0 h1
def abG {cs:af}{fr k v:Int}(h:Rw [.sl [tI]] cs)(h0:0<=fr)(h1:fr<cs.length)(k0:0<=k)(k1:k<(aU cs fr 0).length):jL (.s 1 cs) [(fr.toNat,0),(k.toNat,0)] [.i v]=oV cs fr k v:=by
 have hr:Rw [tI] (aU cs fr 0):=Rw.sub (fs:=[.sl [tI]]) h Uc rfl;have hw:=hr.wid (n:=k.toNat) Uc;show cs.set fr.toNat ((cs.getD fr.toNat []).set 0 (kH ((cs.getD fr.toNat []).getD 0 .g) [(k.toNat,0)] [.i v]))=_;rw[BM h h0 h1];show cs.set fr.toNat [.s 1 ((aU cs fr 0).set k.toNat (((aU cs fr 0).getD k.toNat []).take 0++[.i v]++((aU cs fr 0).getD k.toNat []).drop (0+1)))]=_;have hw':((aU cs fr 0).getD k.toNat []).length=1:=hw;rw[List.take_zero,List.drop_of_length_le Uc];rfl
def J5 {cs:af}{fr k:Int}(h:Rw [.sl [tI]] cs)(h0:0<=fr)(h1:fr<cs.length)(k0:0<=k)(k1:k<(aU cs fr 0).length):∃ rec o',bZ (.s 1 cs) [(fr.toNat,0),(k.toNat,0)]=some (rec,o')/\o'+1<=rec.length:=by
 have hr:Rw [tI] (aU cs fr 0):=Rw.sub (fs:=[.sl [tI]]) h Uc rfl;have hw:=hr.wid (n:=k.toNat) Uc;refine⟨(aU cs fr 0).getD k.toNat [],0,?_,?_⟩
 ·have e:=BM h h0 h1;have e1:cs[fr.toNat]?=some [.s 1 (aU cs fr 0)]:=by
   rw[Zm,Zt Uc]at e;rw[Zt Uc];simpa using e
  show(match cs[fr.toNat]? with
   | some rec=>match rec[0]? with
     |some l=>bZ l [(k.toNat,0)]
     |none=>none
   |none=>none)=_
  rw[e1];show(((aU cs fr 0)[k.toNat]?).map (·,0))=_;rw[Zm,Zt Uc];rfl
 ·rw[hw];exact Ze _
def hH {cs:af}{fr:Int}:nD (.s 1 cs) [(fr.toNat,0)]=aU cs fr 0:=Or
def RV {cs:af}{fr:Int}(h:Rw [.sl [tI]] cs)(h0:0<=fr)(h1:fr<cs.length):cs[fr.toNat]?=some [.s 1 (aU cs fr 0)]:=by
 have e:=BM h h0 h1;rw[Zm,Zt Uc]at e;rw[Zt Uc];simpa using e
def sQ {cs:af}{fr:Int}(h:Rw [.sl [tI]] cs)(h0:0<=fr)(h1:fr<cs.length):∃ rec o,bZ (.s 1 cs) [(fr.toNat,0)]=some (rec,o)/\o+[L.s 1 []].length<=rec.length/\Yh [L.s 1 []].length (Yy o rec)=kP aj (.s 1 cs) [(fr.toNat,0)] 0 [L.s 1 []]:=by
 refine⟨[.s 1 (aU cs fr 0)],0,?_,Ze _,?_⟩
 ·show(cs[fr.toNat]?).map (·,0)=_;rw[RV h h0 h1];rfl
 ·show[L.s 1 (aU cs fr 0)]=[L.s 1 (nD (.s 1 cs) [(fr.toNat,0)])];rw[hH]
def pC {cs:af}{fr:Int}(h:Rw [.sl [tI]] cs)(h0:0<=fr)(h1:fr<cs.length):∃ es,gB (.s 1 cs) [(fr.toNat,0)]=some (1,es):=by
 refine⟨aU cs fr 0,?_⟩;rw[Nu Uc,BM h h0 h1];rfl
def yL {cs:af}{fr k v:Int}(h:Rw [.sl [tI]] cs)(h0:0<=fr)(h1:fr<cs.length)(hv: -9223372036854775808<=v/\v<=9223372036854775807):Rw [.sl [tI]] (oV cs fr k v):=by
 have hr:Rw [tI] (aU cs fr 0):=Rw.sub (fs:=[.sl [tI]]) h Uc rfl;exact h.set (show bV [.sl [tI]] [.s 1 _]from⟨⟨rfl,hr.set (show bV [tI] [.i v]from⟨⟨rfl,hv⟩,trivial⟩) _⟩,trivial⟩) _
def smM (cs us es:af)(a:Int):Int:=if machOk cs us es=true then T0 es a else 0
def smF (cs us es:af)(a:Int):Int:=if machOk cs us es=true then TZ es a else 0
def yI {cs us es:af}{a:Int}(h:machOk cs us es=true):smM cs us es a=T0 es a/\smF cs us es a=TZ es a:=by unfold smM smF;rw[VO h,VO h];exact⟨rfl,rfl⟩
def AK {cs us es:af}{a:Int}(h:machOk cs us es=false\/a<0):smM cs us es a=0/\smF cs us es a=0:=by
 unfold smM smF;rcases h with h|h
 ·rw[h];exact⟨rfl,rfl⟩
 ·rw[(KB h).1,(KB (es:=es) h).2.1];constructor<;>split<;>rfl
def LS {cs us es:af}{a:Int}(h:smM cs us es a≠0):machOk cs us es=true/\0<=a:=by
 constructor
 ·cases q:machOk cs us es
  ·exact absurd (AK (.inl q)).1 h
  ·rfl
 ·rcases Int.lt_or_le a 0 with q|q;exact absurd (AK (.inr q)).1 h;exact q
def Q5 {cs us es:af}{a:Int}(h:smM cs us es a≠0):0<=smF cs us es a/\smF cs us es a<cs.length/\1<=smM cs us es a/\smM cs us es a<=2/\(aU cs (smF cs us es a) 0).length=16:=by
 obtain⟨h0,h1⟩:=LS h;rw[(yI h0).1,(x7 Uc).1]at h ⊢;rw[(yI h0).2,(x7 Uc).2.1];have hm:=KG h0;have hp:=ae7 hm.2.1 h;exact⟨hp.1,hp.2.1,hp.2.2.1,hp.2.2.2,PU hm.1 hp.1 hp.2.1⟩
def stK (cs us es:af)(a v:Int):Int:=if smM cs us es a=0 then 1 else if smM cs us es a=1 then 2 else if inR v 0 999=true then 0 else 3
def stC (cs us es:af)(a v:Int):af:=if stK cs us es a v=0 then oV cs (smF cs us es a) (a%16) v else cs
def OV {cs us es:af}{a v:Int}(h:smM cs us es a=0):stK cs us es a v=1/\stC cs us es a v=cs:=by
 have:stK cs us es a v=1:=by unfold stK;rw[VO h]
 exact⟨this,by unfold stC;rw[this];rfl⟩
def af8 {cs us es:af}{a v:Int}(h:smM cs us es a=1):stK cs us es a v=2/\stC cs us es a v=cs:=by
 have:stK cs us es a v=2:=by unfold stK;rw[VP Uc,VO h]
 exact⟨this,by unfold stC;rw[this];rfl⟩
def af9 {cs us es:af}{a v:Int}(h0:smM cs us es a≠0)(h1:smM cs us es a≠1)(h:inR v 0 999=false):stK cs us es a v=3/\stC cs us es a v=cs:=by
 have:stK cs us es a v=3:=by unfold stK;rw[VP h0,VP h1,h];rfl
 exact⟨this,by unfold stC;rw[this];rfl⟩
def af7 {cs us es:af}{a v:Int}(h0:smM cs us es a≠0)(h1:smM cs us es a≠1)(h:inR v 0 999=true):stK cs us es a v=0/\stC cs us es a v=oV cs (smF cs us es a) (a%16) v:=by
 have:stK cs us es a v=0:=by unfold stK;rw[VP h0,VP h1,h];rfl
 exact⟨this,by unfold stC;rw[VO this]⟩
def HM {a b c a' b' c':af}{x y:Int}(h1:a=a')(h2:b=b')(h3:c=c')(h4:x=y):[DV.agg [.s 1 a,.s 1 b,.s 2 c],DV.j x]=[DV.agg [.s 1 a',.s 1 b',.s 2 c'],DV.j y]:=by rw[h1,h2,h3,h4]
def abr {cs us es:af}{a v:Int}(h:Rw [.sl [tI]] cs)(hv: -9223372036854775808<=v/\v<=9223372036854775807):Rw [.sl [tI]] (stC cs us es a v):=by
 unfold stC;split
 ·rename_i q;have hm:smM cs us es a≠0:=fun e=>by rw[(OV e).1]at q;cases q
  have hf:=Q5 hm;exact yL h hf.1 hf.2.1 hv
 ·exact h
def clsSz (k:Int):Int:=if k=0 then 1 else if k=1 then 2 else if k=2 then 4 else if k=3 then 8 else 0
def clsOf (s:Int):Int:=if s<1 then-1 else if s<=1 then 0 else if s<=2 then 1 else if s<=4 then 2 else if s<=8 then 3 else-1
def acl {k:Int}(h:inR k 0 3=false):clsSz k=0:=by rw[Au]at h;unfold clsSz;repeat' split<;>omega
def acm {k:Int}(h:inR k 0 3=true):LM .shl Za 1 k=clsSz k:=by
 rw[ay]at h;rcases(show k=0\/k=1\/k=2\/k=3 by omega)with rfl|rfl|rfl|rfl<;>decide
def PC {k s:Int}(h0:0<=k/\k<=3)(h:clsSz k<s)(hs:1<=s/\s<=8):k+1<=3:=by
 rcases(show k=0\/k=1\/k=2\/k=3 by omega)with rfl|rfl|rfl|rfl<;>simp[clsSz]at h<;>omega
def aci {s:Int}(h:s<1\/8<s):clsOf s= -1:=by unfold clsOf;repeat' split<;>omega
def Sg {k s:Int}(h0:0<=k/\k<=3)(h:s<=clsSz k)(hs:1<=s/\s<=8)(hp:k=0\/clsSz (k-1)<s):clsOf s=k:=by
 rcases(show k=0\/k=1\/k=2\/k=3 by omega)with rfl|rfl|rfl|rfl<;>simp[clsSz]at h hp<;>unfold clsOf<;>repeat' split<;>omega
end Go.V
namespace Go.V
def Px {s:Int}(h:0<=clsOf s):1<=s/\s<=clsSz (clsOf s)/\clsSz (clsOf s)<=8/\clsOf s<=3:=by
 unfold clsOf at h ⊢
 repeat' split at h
 all_goals simp_all [clsSz]
 all_goals omega
def Bl {l:af}{i:Int}(h:Rw [tI] l)(h0:0<=i)(h1:i<l.length): -9223372036854775808<=ag l i 0/\ag l i 0<=9223372036854775807:=by
 have e:=h.at (n:=i.toNat) Uc;rw[h.eta h0 h1]at e;have e':bV [tI] [.i (ag l i 0)]:=e;exact e'.1.2
def pP {l:af}{i:Int}(h0:0<=i):zq (.s 1 l) [(i.toNat,0)]=ag l i 0:=by
 rw[BH];unfold ag;rw[ZJ]
def wz {l:af}{i:Int}(h:Rw [tI] l)(h0:0<=i)(h1:i<l.length):∃ rec o,bZ (.s 1 l) [(i.toNat,0)]=some (rec,o)/\o+[L.v (Zn Za 0)].length<=rec.length/\Yh [L.v (Zn Za 0)].length (Yy o rec)=kP aj (.s 1 l) [(i.toNat,0)] 0 [L.v (Zn Za 0)]:=by
 have e:l.getD i.toNat []=[L.i (ag l i 0)]:=h.eta h0 h1;rw[Zm,Zt Uc]at e;have e1:l[i.toNat]?=some [.i (ag l i 0)]:=by
  rw[Zt Uc];exact congrArg some e
 refine⟨[.i (ag l i 0)],0,?_,Ze _,?_⟩
 ·rw[lO,e1];rfl
 ·show[L.i (ag l i 0)]=[L.i (zq (.s 1 l) [(i.toNat,0)])];rw[pP h0]
end Go.V
namespace Go.V
def AN (us:af)(j:Int):Bool:=qi us j 0
def dV (us:af):Int:=match(Zo us.length).find? (fun j:Nat=> !qi us (j:Int) 0)with
 |some j=>(j:Int)
 |none=> -1
def free_at {us:af}{i:Int}(h:upto (AN us) i)(h0:0<=i)(h1:i<us.length)(h2:qi us i 0=false):dV us=i:=by
 have e:((i.toNat:Nat):Int)=i:=Zj h0;have:(Zo us.length).find? (fun j:Nat=> !qi us (j:Int) 0)=some i.toNat:=by
  rw[XL];refine⟨by rw[e,h2];rfl,Yf.2 Uc,fun j hj=>?_⟩;have:=h j Uc Uc;unfold AN at this;rw[this];rfl
 unfold dV;rw[this];exact e
def Np {us:af}{i:Int}(h:upto (AN us) i)(h1:(us.length:Int)<=i):dV us= -1:=by
 have:(Zo us.length).find? (fun j:Nat=> !qi us (j:Int) 0)=none:=by
  rw[WM];intro j hj;have:=h j Uc Uc;unfold AN at this;rw[this];rfl
 unfold dV;rw[this]
def wy {us:af}:dV us= -1\/0<=dV us/\dV us<us.length:=by
 unfold dV;split
 ·rename_i j h;rw[XL]at h;have:=Yf.1 h.2.1;omega
 ·exact .inl rfl
def ftB (cs us:af):Bool:=framesOk cs us&&decide (0<=dV us)
def ftI (cs us:af):Int:=if ftB cs us=true then dV us else-1
def ftU (cs us:af):af:=if ftB cs us=true then us.set (dV us).toNat [.v (.bool true)]else us
def PZ {cs us:af}(h:framesOk cs us=false\/dV us= -1):ftB cs us=false/\ftI cs us= -1/\ftU cs us=us:=by
 have:ftB cs us=false:=by
  unfold ftB;rcases h with h|h
  ·rw[h];rfl
  ·rw[h];simp
 unfold ftI ftU;rw[this];exact⟨rfl,rfl,rfl⟩
def J2 {cs us:af}{i:Int}(hf:framesOk cs us=true)(h0:0<=i)(h:dV us=i):ftB cs us=true/\ftI cs us=i/\ftU cs us=us.set i.toNat [.v (.bool true)]:=by
 have:ftB cs us=true:=by unfold ftB;rw[hf,h,VL h0];rfl
 unfold ftI ftU;rw[this,h];exact⟨rfl,rfl,rfl⟩
def J1 {a b a' b':af}{i i':Int}{x y:Bool}(h1:a=a')(h2:b=b')(h3:i=i')(h4:x=y):[DV.agg [.s 1 a,.s 1 b],DV.j i,DV.k x]=[DV.agg [.s 1 a',.s 1 b'],DV.j i',DV.k y]:=by rw[h1,h2,h3,h4]
def acY {cs us:af}(h:ftB cs us=true):0<=ftI cs us/\ftI cs us<cs.length/\ftI cs us=dV us/\ftU cs us=us.set (dV us).toNat [.v (.bool true)]:=by
 have hf:framesOk cs us=true/\0<=dV us:=by unfold ftB at h;simpa using h
 have q:=J2 hf.1 hf.2 rfl;have hb:=wy (us:=us);have hl:=uk hf.1;rw[q.2.1,q.2.2];exact⟨hf.2,Uc,rfl,rfl⟩
def wt {fs:List Ty}{cs:af}{fr:Int}(h:Rw [.sl fs] cs)(h0:0<=fr)(h1:fr<cs.length):cs[fr.toNat]?=some [.s fs.length (aU cs fr 0)]:=by
 have e:cs.getD fr.toNat []=[.s fs.length (aU cs fr 0)]:=h.eta h0 h1;rw[Zm,Zt Uc]at e;rw[Zt Uc];simpa using e
def J6 {cs:af}{fr:Int}(h:Rw [.sl [tI,tI]] cs)(h0:0<=fr)(h1:fr<cs.length):∃ rec o,bZ (.s 1 cs) [(fr.toNat,0)]=some (rec,o)/\o+[L.s 2 []].length<=rec.length/\Yh [L.s 2 []].length (Yy o rec)=kP aj (.s 1 cs) [(fr.toNat,0)] 0 [L.s 2 []]:=by
 refine⟨[.s 2 (aU cs fr 0)],0,?_,Ze _,?_⟩
 ·show(cs[fr.toNat]?).map (·,0)=_;rw[wt h h0 h1];rfl
 ·show[L.s 2 (aU cs fr 0)]=[L.s 2 (nD (.s 1 cs) [(fr.toNat,0)])];rw[hH]
def H7 {cs:af}{fr:Int}(h:Rw [.sl [tI,tI]] cs)(h0:0<=fr)(h1:fr<cs.length):∃ es,gB (.s 1 cs) [(fr.toNat,0)]=some (2,es):=by
 refine⟨aU cs fr 0,?_⟩;unfold gB;show(match(cs[fr.toNat]?).map (·,0)with
  | some (rec,o)=>match rec[o]? with
    |some (.s sz es)=>some (sz,es)
    |_=>none
  |none=>none)=_
 rw[wt h h0 h1];rfl
def BG {es:af}{f:Int}:∀ {n:Nat} {e:aT},e∈ym es f n->∃ k:Nat,k<n/\e=[.i k]
 |0,e,h=>by cases h
 | n+1,e,h=>by
   unfold ym at h;split at h
   ·rcases List.mem_append.1 h with q|q
    ·obtain⟨k,hk,e⟩:=BG q;exact⟨k,Uc,e⟩
    ·rw[List.mem_singleton]at q;exact⟨n,Uc,q⟩
   ·obtain⟨k,hk,e⟩:=BG h;exact⟨k,Uc,e⟩
def Lc {es:af}{f:Int}(h:es.length<=1099511627776):Rw [tI] (pagesOn es f):=by
 have hl:=AF (es:=es) (f:=f);refine⟨by simp[maxLen];omega,fun e he=>?_⟩;obtain⟨k,hk,rfl⟩:=BG he;exact⟨⟨rfl,(show-9223372036854775808<=(k:Int)/\(k:Int)<=9223372036854775807 by omega)⟩,trivial⟩
end Go.V
namespace Go.V
def da (p:Int->Bool)(n:Nat):Int:=match(Zo n).find? (fun j:Nat=>p (j:Int))with
 |some j=>(j:Int)
 |none=> -1
def cY (p:Int->Bool)(j:Int):Bool:= !p j
def gC {p:Int->Bool}{i:Int}(h:p i=false):cY p i=true:=by unfold cY;rw[h];rfl
def dU {p:Int->Bool}{n:Nat}{i:Int}(h:upto (cY p) i)(h0:0<=i)(h1:i<n)(h2:p i=true):da p n=i:=by
 have e:((i.toNat:Nat):Int)=i:=Zj h0;have:(Zo n).find? (fun j:Nat=>p (j:Int))=some i.toNat:=by
  rw[XL];refine⟨by rw[e];exact h2,Yf.2 Uc,fun j hj=>?_⟩;exact h j Uc Uc
 unfold da;rw[this];exact e
def eQ {p:Int->Bool}{n:Nat}{i:Int}(h:upto (cY p) i)(h1:(n:Int)<=i):da p n= -1:=by
 have:(Zo n).find? (fun j:Nat=>p (j:Int))=none:=by
  rw[WM];intro j hj;exact h j Uc Uc
 unfold da;rw[this]
def sM {p:Int->Bool}{n:Nat}:da p n= -1\/0<=da p n/\da p n<n:=by
 unfold da;split
 ·rename_i j h;rw[XL]at h;have:=Yf.1 h.2.1;omega
 ·exact .inl rfl
def eqB (a b:Int):Bool:=decide (a=b)
def JP {a b:Int}(h:a=b):eqB a b=true:=VL h
def PM {a b:Int}(h:a≠b):eqB a b=false:=VM h
end Go.V
namespace Go.V
def DU (f:Int->Int):Nat->Int
 |0=>0
 |n+1=>bQ .add Za (DU f n) (f n)
def O4 {f:Int->Int}{i:Int}(h:0<=i):DU f (i+1).toNat=bQ .add Za (DU f i.toNat) (f i):=by
 have e:((i.toNat:Nat):Int)=i:=Zj h;rw[show(i+1).toNat=i.toNat+1 by omega,DU,e]
def szF (os:af)(i:Int):Int:=ag os i 2
def lsI (os:af):Int:=DU (szF os) os.length
def Ig (os:af)(a j:Int):Bool:=eqB (ag os j 1) a
def obI (os:af)(a:Int):Int:=da (Ig os a) os.length
def isSp (ss:af)(p j:Int):Bool:=eqB (ag ss j 0) p
def spI (ss:af)(p:Int):Int:=da (isSp ss p) ss.length
end Go.V
namespace Go.V
def tG (x:Int):BitVec 64:=ZV 64 x
def Cp (x:BitVec 64):YY Za (x.toNat:Int)=x.toInt:=by
 have h:=x.isLt;rw[BitVec.toInt_eq_toNat_cond];simp only[YY,WN,WO,Bool.true_and,VN,show(64-1:Nat)=63 from rfl];split<;>split<;>omega
def aeZ {a b:Int}:bQ .or Za a b=(tG a|||tG b).toInt:=Cp _
def R0 {x:BitVec 64}:tG x.toInt=x:=BitVec.ofInt_toInt
def fpg (es:af)(p:Int):af:=if peM es p=0 then[]else pagesOn es (peF es p)
def SP {es:af}{p:Int}(h:peM es p=0):fpg es p=[]:=by unfold fpg;rw[VO h]
def No {es:af}{p:Int}(h:peM es p≠0):fpg es p=pagesOn es (peF es p):=by unfold fpg;rw[VP h]
def SQ {es:af}{p:Int}(h:es.length<=1099511627776):Rw [tI] (fpg es p)/\(fpg es p).length<=1099511627776:=by
 unfold fpg;split;exact⟨Rw.nil,by simp⟩;exact⟨Lc h,ZH AF h⟩
def isX (l:af)(x j:Int):Bool:=eqB x (ag l j 0)
def idxI (l:af)(x:Int):Int:=da (isX l x) l.length
def hasB (l:af)(x:Int):Bool:=decide (0<=idxI l x)
def IM (ss l:af)(b:Int):Nat->Int
 |0=>b
 |n+1=>if hasB l (ag ss n 0)=true then bQ .or Za (IM ss l b n) (ag ss n 2)else IM ss l b n
def Pb {ss l:af}{b i:Int}(h:0<=i)(q:hasB l (ag ss i 0)=true):IM ss l b (i+1).toNat=bQ .or Za (IM ss l b i.toNat) (ag ss i 2):=by
 have e:((i.toNat:Nat):Int)=i:=Zj h;rw[show(i+1).toNat=i.toNat+1 by omega,IM,e,VO q]
def abC {ss l:af}{b i:Int}(h:0<=i)(q:hasB l (ag ss i 0)=false):IM ss l b (i+1).toNat=IM ss l b i.toNat:=by
 have e:((i.toNat:Nat):Int)=i:=Zj h;rw[show(i+1).toNat=i.toNat+1 by omega,IM,e,q];rfl
def ubB (es ss:af)(i:Int):Int:=if inR i 0 (ss.length-1)=true then IM ss (fpg es (ag ss i 0)) (ag ss i 2) ss.length else 0
def agt {es ss:af}{i:Int}(h:inR i 0 (ss.length-1)=false):ubB es ss i=0:=by unfold ubB;rw[h];rfl
def abD {es ss:af}{i:Int}(h:inR i 0 (ss.length-1)=true):ubB es ss i=IM ss (fpg es (ag ss i 0)) (ag ss i 2) ss.length:=by unfold ubB;rw[VO h]
end Go.V
namespace Go.V
def slB (b i:Int):Bool:=decide (0<=b)&&inR i 0 15
def hsB (b i:Int):Bool:=slB b i&&decide (bQ .and Za (LM .shr Za b i) 1=1)
def DN {b i:Int}:slB b i=true↔0<=b/\0<=i/\i<=15:=by simp[slB,inR]
def Ke {b i:Int}(h:slB b i=false):hsB b i=false:=by unfold hsB;rw[h];rfl
def zg {i:Int}(h0:0<=i)(h1:i<=15):Rk .u64 i=i:=by
 show YY .u64 i=i;simp only[YY,WN,WO,Bool.false_and];rw[VP (by simp)];omega
def IZ (b:Int):Nat->Int
 |0=>0
 |n+1=>if hsB b n=true then bQ .add Za (IZ b n) 1 else IZ b n
def ctI (b:Int):Int:=IZ b 16
def Sk {b i:Int}(h:0<=i)(q:hsB b i=true):IZ b (i+1).toNat=bQ .add Za (IZ b i.toNat) 1:=by
 have e:((i.toNat:Nat):Int)=i:=Zj h;rw[show(i+1).toNat=i.toNat+1 by omega,IZ,e,VO q]
def acp {b i:Int}(h:0<=i)(q:hsB b i=false):IZ b (i+1).toNat=IZ b i.toNat:=by
 have e:((i.toNat:Nat):Int)=i:=Zj h;rw[show(i+1).toNat=i.toNat+1 by omega,IZ,e,q];rfl
def aaw (ss:af)(i:Int):aT:=[.i (ag ss i 0),.i (ag ss i 1),.i (ag ss i 2)]
def Er (es ss:af):Nat->af
 |0=>[]
 |n+1=>if 0<ctI (ag ss n 2)/\(fpg es (ag ss n 0)).length=1 then Er es ss n++[aaw ss n]else Er es ss n
def msS (es ss:af):af:=Er es ss ss.length
def aax {es ss:af}{i:Int}(h:0<=i)(q:0<ctI (ag ss i 2))(q2:(fpg es (ag ss i 0)).length=1):Er es ss (i+1).toNat=Er es ss i.toNat++[aaw ss i]:=by
 have e:((i.toNat:Nat):Int)=i:=Zj h;rw[show(i+1).toNat=i.toNat+1 by omega,Er,e,VO ⟨q,q2⟩]
def aeg {es ss:af}{i:Int}(h:0<=i)(q:¬ (0<ctI (ag ss i 2)/\(fpg es (ag ss i 0)).length=1)):Er es ss (i+1).toNat=Er es ss i.toNat:=by
 have e:((i.toNat:Nat):Int)=i:=Zj h;rw[show(i+1).toNat=i.toNat+1 by omega,Er,e,VP q]
def wK {es ss:af}:∀ {n:Nat},(Er es ss n).length<=n
 |0=>Zv _
 | n+1=>by
   have:=wK (es:=es) (ss:=ss) (n:=n);unfold Er;split
   ·rw[Zf];simp;omega
   ·omega
def KN {es ss:af}(h:Rw [tI,tI,tI] ss):∀ {n:Nat},n<=ss.length->Rw [tI,tI,tI] (Er es ss n)
 |0,_=>Rw.nil
 | n+1,hn=>by
   have ih:=KN (es:=es) h (n:=n) Uc;have hl:=wK (es:=es) (ss:=ss) (n:=n);have hm:=h.1;have hc:bV [tI,tI,tI] (aaw ss n):=by
    have e:=h.at (n:=n) Uc;have e2:=h.eta (i:=n) Uc Uc;rw[ZJ]at e2;rw[e2]at e;exact e
   unfold Er;split;exact ih.append (Rw.one hc) (by simp;omega);exact ih
def Qq {es ss:af}(h:Rw [tI,tI,tI] ss):Rw [tI,tI,tI] (msS es ss)/\au (msS es ss)<=au ss:=by
 have hr:=KN (es:=es) h (Ze ss.length);have e1:=hr.cnt rfl;have e2:=h.cnt rfl;have hl:=wK (es:=es) (ss:=ss) (n:=ss.length);exact⟨hr,by unfold msS;omega⟩
end Go.V
namespace Go.V
def zV:af:=Zr 16 [.i 0]
def fnC (n:Int):af:=if inR n 1 32=true then Zr n.toNat [.s 1 zV]else[]
def fnU (n:Int):af:=if inR n 1 32=true then Zr n.toNat [.v (.bool false)]else[]
def tnE (n:Int):af:=if inR n 1 32=true then Zr n.toNat [.i 0,.i 0]else[]
def pB {n:Int}(h:inR n 1 32=true):fnC n=Zr n.toNat [.s 1 zV]/\fnU n=Zr n.toNat [.v (.bool false)]/\tnE n=Zr n.toNat [.i 0,.i 0]:=by
 unfold fnC fnU tnE;rw[VO h,VO h,VO h];exact⟨rfl,rfl,rfl⟩
def PQ {n:Int}(h:inR n 1 32=false):fnC n=[]/\fnU n=[]/\tnE n=[]:=by
 unfold fnC fnU tnE;rw[h];exact⟨rfl,rfl,rfl⟩
def Lp {r:aT}{i:Int}(h:0<=i):Zr i.toNat r++[r]=Zr (i+1).toNat r:=by
 rw[show(i+1).toNat=i.toNat+1 by omega,List.replicate_succ']
def mnB (p f:Int):Bool:=inR f 1 32&&inR p 1 32
def mnC (p f:Int):af:=if mnB p f=true then fnC f else[]
def mnU (p f:Int):af:=if mnB p f=true then fnU f else[]
def mnE (p f:Int):af:=if mnB p f=true then tnE p else[]
def pJ {p f:Int}(h:inR f 1 32=true)(h2:inR p 1 32=true):mnC p f=fnC f/\mnU p f=fnU f/\mnE p f=tnE p/\mnB p f=true:=by
 have e:mnB p f=true:=by unfold mnB;rw[h,h2];rfl
 unfold mnC mnU mnE;rw[VO e,VO e,VO e];exact⟨rfl,rfl,rfl,e⟩
def Ds {p f:Int}(h:mnB p f=false):mnC p f=[]/\mnU p f=[]/\mnE p f=[]/\mnB p f=false:=by
 unfold mnC mnU mnE;rw[h];exact⟨rfl,rfl,rfl,rfl⟩
def aar {p f:Int}(h:inR f 1 32=false):mnB p f=false:=by unfold mnB;rw[h];rfl
def aas {p f:Int}(h:inR p 1 32=false):mnB p f=false:=by unfold mnB;rw[h];simp
def aat {p f:Int}(h:mnB p f=true):inR f 1 32=true/\inR p 1 32=true:=by unfold mnB at h;simpa using h
def Iu (rs:af)(i:Int):Bool:=decide (0<=ag rs i 0)
def nF (rs:af):Bool:=dI (Iu rs) rs.length&&decide (rs.length<=40)
def kerOk (cs us es:af)(c:Int)(rs:af):Bool:=machOk cs us es&&inR c 0 100000&&nF rs
def aa8 {rs:af}{i:Int}(h:0<=ag rs i 0):Iu rs i=true:=VL h
def aa9 {cs us es rs:af}{c i:Int}(h0:0<=i)(h1:i<rs.length)(h:ag rs i 0<0):kerOk cs us es c rs=false:=by
 unfold kerOk nF;rw[cW h0 h1 (by unfold Iu;exact VM Uc)];simp
def OB {rs:af}{i:Int}(h:upto (Iu rs) i)(hi:(rs.length:Int)<=i)(hl:(rs.length:Int)<=40):nF rs=true:=by
 unfold nF;rw[cI h hi,VL Uc];rfl
def OA {rs:af}(hl:¬ (rs.length:Int)<=40):nF rs=false:=by
 unfold nF;rw[VM Uc];simp
def G4 {cs us es rs:af}{c:Int}(h1:machOk cs us es=true)(h2:inR c 0 100000=true)(h3:nF rs=true):kerOk cs us es c rs=true:=by unfold kerOk;rw[h1,h2,h3];rfl
def NG {cs us es rs:af}{c:Int}(h1:inR c 0 100000=false):kerOk cs us es c rs=false:=by unfold kerOk;rw[h1];simp
def NH {cs us es rs:af}{c:Int}(h1:nF rs=false):kerOk cs us es c rs=false:=by unfold kerOk;rw[h1];simp
def adT {cs us es rs:af}{c:Int}(h:kerOk cs us es c rs=true):machOk cs us es=true/\inR c 0 100000=true/\nF rs=true:=by
 unfold kerOk at h;simp only[Zb]at h;exact⟨h.1.1,h.1.2,h.2⟩
def te {r:aT}{n:Nat}{i:Int}(h0:0<=i)(h1:i<n):(Zr n r).getD i.toNat []=r:=by
 rw[Zm,List.getElem?_replicate,VO Uc];rfl
def FF {n:Nat}{i:Int}{j:Nat}(h0:0<=i)(h1:i<n)(hj:j<2):ag (Zr n [.i 0,.i 0]) i j=0:=by
 unfold ag;rw[te h0 h1];rcases(show j=0\/j=1 by omega)with rfl|rfl<;>rfl
def Is {n:Nat}{f:Int}:pagesOn (Zr n [.i 0,.i 0]) f=[]:=by
 have key:∀ m,m<=n->ym (Zr n [.i 0,.i 0]) f m=[]:=by
  intro m
  induction m with
  |zero=>intro _;rfl
  | succ m ih=>
    intro h;rw[Le (.inl (FF Uc Uc Uc))];exact ih Uc
 unfold pagesOn;exact key _ (by simp)
def KV {f p:Int}(hf:inR f 1 32=true)(hp:inR p 1 32=true):machOk (fnC f) (fnU f) (tnE p)=true:=by
 have h1:=ay.1 hf;have h2:=ay.1 hp;rw[(pB hf).1,(pB hf).2.1,(pB hp).2.2];have fo:framesOk (Zr f.toNat [.s 1 zV]) (Zr f.toNat [.v (.bool false)])=true:=by
  refine E0 (i:=f) ?_ (by simp) ?_ (by simp;omega)
  ·rw[Xw,ay];omega
  ·intro j j0 j1;have e:aU (Zr f.toNat [.s 1 zV]) j 0=zV:=by unfold aU;rw[te j0 Uc];rfl
   refine JZ (k:=16) (by rw[e];rfl) ?_ Uc;intro k k0 k1;have e2:ag zV k 0=0:=by unfold ag zV;rw[te k0 Uc];rfl
   refine JA (by rw[e,e2];rfl) (.inr (by rw[e,e2]))
 have to:tableOk (Zr p.toNat [.i 0,.i 0]) (Zr f.toNat [L.s 1 zV]).length=true:=by
  rw[Gb (i:=p) ?_ (by simp;omega)]
  ·rw[Xw,ay];omega
  ·intro j j0 j1;refine L1 ?_;rw[FF j0 Uc Uc,FF j0 Uc Uc];omega
 refine Fz (i:=f) fo ?_ ?_ (by simp;omega)
 ·rw[(uk fo).1];exact to
 ·intro j j0 j1;refine KF ?_;have e:qi (Zr f.toNat [.v (.bool false)]) j 0=false:=by unfold qi;rw[te j0 Uc];rfl
  rw[e];unfold fL;rw[Is];rfl
def knB (p f:Int)(rs:af):Bool:=mnB p f&&nF rs
def knC (p f:Int)(rs:af):af:=if knB p f rs=true then fnC f else[]
def knU (p f:Int)(rs:af):af:=if knB p f rs=true then fnU f else[]
def knE (p f:Int)(rs:af):af:=if knB p f rs=true then tnE p else[]
def knR (p f:Int)(rs:af):af:=if knB p f rs=true then rs else[]
def Kv {p f:Int}{rs:af}(h:knB p f rs=true):knC p f rs=fnC f/\knU p f rs=fnU f/\knE p f rs=tnE p/\knR p f rs=rs:=by
 unfold knC knU knE knR;rw[VO h,VO h,VO h,VO h];exact⟨rfl,rfl,rfl,rfl⟩
def Qf {p f:Int}{rs:af}(h:knB p f rs=false):knC p f rs=[]/\knU p f rs=[]/\knE p f rs=[]/\knR p f rs=[]:=by
 unfold knC knU knE knR;rw[h];exact⟨rfl,rfl,rfl,rfl⟩
def Tc:XK Za 0:=by unfold XK;decide
def FA {p f:Int}:Rw [.sl [tI]] (mnC p f)/\Rw [tB] (mnU p f)/\Rw [tI,tI] (mnE p f):=by
 cases h:mnB p f
 ·rw[(Ds h).1,(Ds h).2.1,(Ds h).2.2.1];exact⟨Rw.nil,Rw.nil,Rw.nil⟩
 ·obtain⟨hf,hp⟩:=aat h;rw[(pJ hf hp).1,(pJ hf hp).2.1,(pJ hf hp).2.2.1,(pB hf).1,(pB hf).2.1,(pB hp).2.2];have h1:=ay.1 hf;have h2:=ay.1 hp;have z:bV [tI] [L.i 0]:=⟨⟨rfl,Tc⟩,trivial⟩;refine⟨Rw.replicate (fs:=[.sl [tI]]) ?_ (by unfold maxLen;omega),Rw.replicate (fs:=[tB]) ?_ (by unfold maxLen;omega),Rw.replicate (fs:=[tI,tI]) ?_ (by unfold maxLen;omega)⟩;exact⟨⟨rfl,Rw.replicate (fs:=[tI]) z (by unfold maxLen;omega)⟩,trivial⟩;exact⟨trivial,trivial⟩;exact⟨⟨rfl,Tc⟩,⟨rfl,Tc⟩,trivial⟩
def N8 {p f:Int}(h:mnB p f=true):machOk (mnC p f) (mnU p f) (mnE p f)=true:=by
 obtain⟨hf,hp⟩:=aat h;rw[(pJ hf hp).1,(pJ hf hp).2.1,(pJ hf hp).2.2.1];exact KV hf hp
def adV {p f:Int}{rs:af}(h:mnB p f=true)(k:kerOk (mnC p f) (mnU p f) (mnE p f) 0 rs=true):knB p f rs=true:=by
 unfold knB;rw[h,(adT k).2.2];rfl
def TO {p f:Int}{rs:af}(h:mnB p f=true)(k:kerOk (mnC p f) (mnU p f) (mnE p f) 0 rs=false):knB p f rs=false:=by
 unfold knB;cases q:nF rs
 ·simp
 ·rw[G4 (N8 h) rfl q]at k;cases k
def NJ {p f:Int}{rs:af}(h:mnB p f=false):knB p f rs=false:=by unfold knB;rw[h];rfl
def aiM {p f:Int}{rs:af}(h:knB p f rs=true):mnB p f=true:=by unfold knB at h;simp only[Zb]at h;exact h.1
def mwB (t:Int):af:=if inR t 1 4=true then Zr t.toNat [.s 2 []]else[]
def mwI (t:Int):af:=if inR t 1 4=true then Zr t.toNat [.s 1 []]else[]
def aaF {t:Int}(h:inR t 1 4=true):mwB t=Zr t.toNat [.s 2 []]/\mwI t=Zr t.toNat [.s 1 []]:=by unfold mwB mwI;rw[VO h,VO h];exact⟨rfl,rfl⟩
def aeE {t:Int}(h:inR t 1 4=false):mwB t=[]/\mwI t=[]:=by unfold mwB mwI;rw[h];exact⟨rfl,rfl⟩
def qnR (r:Int):Int:=if inR r 0 500=true then r else 0
def aa5 {r:Int}(h:inR r 0 500=true):qnR r=r:=by unfold qnR;rw[VO h]
def afu {r:Int}(h:inR r 0 500=false):qnR r=0:=by unfold qnR;rw[h];rfl
def cnL:af:=Zr 4 [.s 1 []]
def hnB (p f t l:Int)(rs:af):Bool:=knB p f rs&&(inR t 1 4&&inR l 0 1000)
def hnC (p f t l:Int)(rs:af):af:=if hnB p f t l rs=true then fnC f else[]
def hnU (p f t l:Int)(rs:af):af:=if hnB p f t l rs=true then fnU f else[]
def hnE (p f t l:Int)(rs:af):af:=if hnB p f t l rs=true then tnE p else[]
def hnR (p f t l:Int)(rs:af):af:=if hnB p f t l rs=true then rs else[]
def hnF (p f t l:Int)(rs:af):af:=if hnB p f t l rs=true then[[.i 0,.i p]]else[]
def hnK (p f t l:Int)(rs:af):af:=if hnB p f t l rs=true then Zr t.toNat [.s 1 cnL]else[]
def hnM (p f t l:Int)(rs:af):af:=if hnB p f t l rs=true then mwB t else[]
def hnI (p f t l:Int)(rs:af):af:=if hnB p f t l rs=true then mwI t else[]
def hnQ (p f t l:Int)(rs:af):Int:=if hnB p f t l rs=true then 16 else 0
def hnL (p f t l:Int)(rs:af):Int:=if hnB p f t l rs=true then l else 0
def hnN (p f t l:Int)(rs:af):Int:=if hnB p f t l rs=true then 1 else 0
def Tg {p f t l:Int}{rs:af}(h:hnB p f t l rs=true):hnC p f t l rs=fnC f/\hnU p f t l rs=fnU f/\hnE p f t l rs=tnE p/\hnR p f t l rs=rs/\hnF p f t l rs=[[.i 0,.i p]]/\
 hnK p f t l rs=Zr t.toNat [.s 1 cnL]/\hnM p f t l rs=mwB t/\hnI p f t l rs=mwI t/\hnQ p f t l rs=16/\hnL p f t l rs=l/\hnN p f t l rs=1:=by
 unfold hnC hnU hnE hnR hnF hnK hnM hnI hnQ hnL hnN;simp only[h,if_true];exact⟨trivial,trivial,trivial,trivial,trivial,trivial,trivial,trivial,trivial,trivial,trivial⟩
def adj {p f t l:Int}{rs:af}(h:hnB p f t l rs=false):hnC p f t l rs=[]/\hnU p f t l rs=[]/\hnE p f t l rs=[]/\hnR p f t l rs=[]/\hnF p f t l rs=[]/\
 hnK p f t l rs=[]/\hnM p f t l rs=[]/\hnI p f t l rs=[]/\hnQ p f t l rs=0/\hnL p f t l rs=0/\hnN p f t l rs=0:=by
 unfold hnC hnU hnE hnR hnF hnK hnM hnI hnQ hnL hnN;simp[h]
def Tf {p f t l:Int}{rs:af}:hnB p f t l rs=true↔knB p f rs=true/\inR t 1 4=true/\inR l 0 1000=true:=by unfold hnB;simp
def ahW {p f t l:Int}{rs:af}(h:¬ (knB p f rs=true/\inR t 1 4=true/\inR l 0 1000=true)):hnB p f t l rs=false:=by
 cases q:hnB p f t l rs
 ·rfl
 ·exact absurd (Tf.1 q) h
def P5 {c u e r fr k m i c' u' e' r' fr' k' m' i':af}{q l n q' l' n':Int}{b b':Bool}(h1:c=c')(h2:u=u')(h3:e=e')(h4:r=r')(h5:fr=fr')(h6:k=k')(h7:m=m')(h8:i=i')(h9:q=q')(h10:l=l')(h11:n=n')(h12:b=b'):
 [DV.agg (Mu c u e 0 r fr [] [] [] k m i q [] 0 0 l n false 0 0 [] 0 0),.k b]=
 [DV.agg (Mu c' u' e' 0 r' fr' [] [] [] k' m' i' q' [] 0 0 l' n' false 0 0 [] 0 0),.k b']:=by
 subst h1 h2 h3 h4 h5 h6 h7 h8 h9 h10 h11 h12;rfl
def Lt {c u e r c' u' e' r':af}{b b':Bool}(h1:c=c')(h2:u=u')(h3:e=e')(h4:r=r')(h5:b=b'):
 [DV.agg [.s 1 c,.s 1 u,.s 2 e,.i 0,.s 1 r],.k b]=[DV.agg [.s 1 c',.s 1 u',.s 2 e',.i 0,.s 1 r'],.k b']:=by subst h1 h2 h3 h4 h5;rfl
def Lu {c u e c' u' e':af}{b b':Bool}(h1:c=c')(h2:u=u')(h3:e=e')(h5:b=b'):
 [DV.agg [.s 1 c,.s 1 u,.s 2 e],.k b]=[DV.agg [.s 1 c',.s 1 u',.s 2 e'],.k b']:=by subst h1 h2 h3 h5;rfl
def Ht {k1 k2:Nat}{c u c' u':af}{b b':Bool}(h1:c=c')(h2:u=u')(h5:b=b'):
 [DV.agg [.s k1 c,.s k2 u],.k b]=[DV.agg [.s k1 c',.s k2 u'],.k b']:=by subst h1 h2 h5;rfl
def QK {k1:Nat}{c c':af}{b b':Bool}(h1:c=c')(h5:b=b'):
 [DV.agg [.s k1 c],.k b]=[DV.agg [.s k1 c'],.k b']:=by subst h1 h5;rfl
def QS {q q':Int}{b b':Bool}(h1:q=q')(h5:b=b'):
 [DV.agg [.i q,.s 3 []],.k b]=[DV.agg [.i q',.s 3 []],.k b']:=by subst h1 h5;rfl
end Go.V
namespace Go.V
def tU:Ty:=.int .u8
def HY {a:Int}{m:Nat}(hm:m<=4611686018427387904):0<=bQ .and Za a m/\bQ .and Za a m<=m:=by
 have h1:(ZV 64 a&&&ZV 64 (m:Int)).toNat<=m:=by
  rw[BitVec.toNat_and];refine ZH Nat.and_le_right ?_;rw[BitVec.toNat_ofInt,Int.emod_eq_of_lt Uc Uc];omega
 have h2:bQ .and Za a m=((ZV 64 a&&&ZV 64 (m:Int)).toNat:Int):=by
  show YY Za _=_;refine YZ _ ⟨?_,?_⟩;exact Wc (by decide) (Int.natCast_nonneg _);exact Wc (Int.ofNat_le.2 h1) Uc
 rw[h2];omega
def bH (h:Int):Int:=bQ .add Za (bQ .mul Za h 6364136223846793005) 1442695040888963407
def bY (h:Int):Int:=bQ .and Za (bQ .xor Za (LM .shr Za (bH h) 33) (LM .shr Za (bH h) 45)) 255
def bI (cs:af)(i:Int):Int:=if i<cs.length then i+1 else i
def bX (cs:af)(i h:Int):Int:=if i<cs.length then bQ .and Za (bQ .add Za (bY h) (Rk Za (ag cs i 0))) 255 else bY h
def Pu {cs:af}{i h:Int}(q:i<cs.length):bI cs i=i+1/\bX cs i h=bQ .and Za (bQ .add Za (bY h) (Rk Za (ag cs i 0))) 255:=by unfold bI bX;rw[VO q,VO q];exact⟨rfl,rfl⟩
def ab0 {cs:af}{i h:Int}(q:¬ i<cs.length):bI cs i=i/\bX cs i h=bY h:=by unfold bI bX;rw[VP q,VP q];exact⟨rfl,rfl⟩
def w9 {cs:af}{i:Int}(h0:0<=i)(h1:i<=cs.length):0<=bI cs i/\bI cs i<=cs.length:=by unfold bI;split<;>omega
def CL {cs:af}{i h:Int}:0<=bX cs i h/\bX cs i h<=255:=by
 unfold bX bY;split<;>exact HY (m:=255) (by decide)
def wI (cs:af)(i n:Int):Int:=if n<=0 then i else if n<=256 then bI cs i else bI cs (bI cs (bI cs (bI cs i)))
def wH (h n:Int):Int:=if n<=0 then h else if n<=256 then bH h else bH (bH (bH (bH h)))
def wS (x y z w:Int):Int:=bQ .add Za (bQ .add Za (bQ .add Za (bQ .mul Za x 16777216) (bQ .mul Za y 65536)) (bQ .mul Za z 256)) w
def wX (cs:af)(i h n:Int):Int:=if n<=0 then 0 else if n<=256 then bQ .rem Za (bX cs i h) n else
 bQ .rem Za (wS (bX cs i h) (bX cs (bI cs i) (bH h)) (bX cs (bI cs (bI cs i)) (bH (bH h))) (bX cs (bI cs (bI cs (bI cs i))) (bH (bH (bH h))))) n
def w_0 {cs:af}{i h n:Int}(q:n<=0):wI cs i n=i/\wH h n=h/\wX cs i h n=0:=by unfold wI wH wX;rw[VO q,VO q,VO q];exact⟨rfl,rfl,rfl⟩
def w_1 {cs:af}{i h n:Int}(q:0<n)(q2:n<=256):wI cs i n=bI cs i/\wH h n=bH h/\wX cs i h n=bQ .rem Za (bX cs i h) n:=by
 have q3:¬ n<=0:=by omega
 unfold wI wH wX;simp only[VP q3,VO q2];exact⟨trivial,trivial,trivial⟩
def w_4 {cs:af}{i h n:Int}(q2:256<n):wI cs i n=bI cs (bI cs (bI cs (bI cs i)))/\wH h n=bH (bH (bH (bH h)))/\
 wX cs i h n=bQ .rem Za (wS (bX cs i h) (bX cs (bI cs i) (bH h)) (bX cs (bI cs (bI cs i)) (bH (bH h))) (bX cs (bI cs (bI cs (bI cs i))) (bH (bH (bH h))))) n:=by
 have q3:¬ n<=0:=by omega
 have q4:¬ n<=256:=by omega
 unfold wI wH wX;simp only[VP q3,VP q4];exact⟨trivial,trivial,trivial⟩
def agD {cs:af}{i n:Int}(h0:0<=i)(h1:i<=cs.length):0<=wI cs i n/\wI cs i n<=cs.length:=by
 have a:=w9 h0 h1;have b:=w9 a.1 a.2;have c:=w9 b.1 b.2;have d:=w9 c.1 c.2;unfold wI;split;exact⟨h0,h1⟩
 ·split;exact a;exact d
def Hi {a b:Int}(h: -9223372036854775808<=a*b/\a*b<=9223372036854775807):bQ .mul Za a b=a*b:=YZ _ h
def qq {a n:Int}(ha:0<=a)(hn:0<n):0<=bQ .rem Za a n/\bQ .rem Za a n<n:=by
 show 0<=a.tmod n/\a.tmod n<n;rw[WL ha];exact⟨Int.emod_nonneg _ Uc,Int.emod_lt_of_pos _ hn⟩
def agE {cs:af}{i h n:Int}(hn:0<n):0<=wX cs i h n/\wX cs i h n<n:=by
 unfold wX;rw[VP Uc];split;exact qq CL.1 hn
 ·have x:=CL (cs:=cs) (i:=i) (h:=h);have y:=CL (cs:=cs) (i:=bI cs i) (h:=bH h);have z:=CL (cs:=cs) (i:=bI cs (bI cs i)) (h:=bH (bH h));have w:=CL (cs:=cs) (i:=bI cs (bI cs (bI cs i))) (h:=bH (bH (bH h)));refine qq ?_ hn;generalize bX cs i h=x0 at*;generalize bX cs (bI cs i) (bH h)=y0 at*;generalize bX cs (bI cs (bI cs i)) (bH (bH h))=z0 at*;generalize bX cs (bI cs (bI cs (bI cs i))) (bH (bH (bH h)))=w0 at*;unfold wS;have m1:bQ .mul Za x0 16777216=x0*16777216:=Hi Uc;have m2:bQ .mul Za y0 65536=y0*65536:=Hi Uc;have m3:bQ .mul Za z0 256=z0*256:=Hi Uc;rw[m1,m2,m3];have a1:bQ .add Za (x0*16777216) (y0*65536)=x0*16777216+y0*65536:=b8 Uc;rw[a1];have a2:bQ .add Za (x0*16777216+y0*65536) (z0*256)=x0*16777216+y0*65536+z0*256:=b8 Uc;rw[a2];have a3:bQ .add Za (x0*16777216+y0*65536+z0*256) w0=x0*16777216+y0*65536+z0*256+w0:=b8 Uc;rw[a3];omega
def vm (cs:af):Nat->Int
 |0=>bQ .add Za 98801 cs.length
 |n+1=>bQ .and Za (bQ .add Za (bQ .add Za (bQ .mul Za (vm cs n) 131) (Rk Za (ag cs n 0))) 7) 1073741823
def l01h (cs:af):Int:=vm cs (min cs.length 4000)
def NM {cs:af}{i:Int}(h0:0<=i):vm cs (i+1).toNat=bQ .and Za (bQ .add Za (bQ .add Za (bQ .mul Za (vm cs i.toNat) 131) (Rk Za (ag cs i 0))) 7) 1073741823:=by
 have e:((i.toNat:Nat):Int)=i:=Zj h0;rw[show(i+1).toNat=i.toNat+1 by omega,vm,e]
def Kw {cs:af}{i:Int}(h0:0<=i)(h1:i<=cs.length)(h2:i<=4000)(h3:¬ (i<cs.length/\i<4000)):vm cs i.toNat=l01h cs:=by
 unfold l01h;congr 1;omega
def dpS (cs:af)(s:Int×Int×af):Int×Int×af:=(wI cs s.1 10000,wH s.2.1 10000,s.2.2++[[.i (wX cs s.1 s.2.1 10000)]])
def CZ (cs:af):Nat->Int×Int×af
 |0=>(0,l01h cs,[])
 |n+1=>dpS cs (CZ cs n)
def dpl (cs:af):af:=(CZ cs 12).2.2
def acy {cs:af}{i:Int}(h0:0<=i):CZ cs (i+1).toNat=dpS cs (CZ cs i.toNat):=by
 rw[show(i+1).toNat=i.toNat+1 by omega,CZ]
def GK {cs:af}:∀ n,0<=(CZ cs n).1/\(CZ cs n).1<=cs.length/\(CZ cs n).2.2.length=n/\∀ j:Nat,j<n->∃ x:Int,0<=x/\x<10000/\(CZ cs n).2.2.getD j []=[.i x]
 |0=>⟨Yi _,by show(0:Int)<=_;omega,rfl,fun j hj=>by omega⟩
 | n+1=>by
   obtain⟨h1,h2,h3,h4⟩:=GK (cs:=cs) n;have w:=agD (n:=10000) h1 h2;have x:=agE (cs:=cs) (i:=(CZ cs n).1) (h:=(CZ cs n).2.1) (n:=10000) Uc;refine⟨w.1,w.2,by simp[CZ,dpS,h3],fun j hj=>?_⟩;simp only[CZ,dpS];by_cases c:j<n
   ·obtain⟨y,q1,q2,q3⟩:=h4 j c;refine⟨y,q1,q2,?_⟩;rw[Zm,List.getElem?_append_left Uc, <-Zm];exact q3
   ·refine⟨_,x.1,x.2,?_⟩;have e:j=(CZ cs n).2.2.length:=by omega
    rw[Zm,e];simp
def Bd {cs:af}:(dpl cs).length=12:=(GK 12).2.2.1
def ET {cs:af}{j:Int}(h0:0<=j)(h1:j<12):0<=ag (dpl cs) j 0/\ag (dpl cs) j 0<10000/\(dpl cs).getD j.toNat []=[.i (ag (dpl cs) j 0)]:=by
 obtain⟨x,q1,q2,q3⟩:=(GK (cs:=cs) 12).2.2.2 j.toNat Uc;have e:ag (dpl cs) j 0=x:=by unfold ag dpl;rw[q3];rfl
 rw[e];exact⟨q1,q2,q3⟩
def SE {cs:af}:Rw [tI] (dpl cs):=by
 refine⟨by rw[Bd];decide,fun e he=>?_⟩;obtain⟨j,hj⟩:=List.getElem?_of_mem he;have hl:j<12:=by rw[<-Bd (cs:=cs)];exact(List.getElem?_eq_some_iff.1 hj).1
 obtain⟨h1,h2,h3⟩:=ET (cs:=cs) (j:=j) Uc Uc;rw[ZJ,Zm,hj]at h3;have h3:e=_:=h3;rw[h3];have hh:XK Za (ag (dpl cs) (j:Int) 0):=by show-9223372036854775808<=_/\_<=(9223372036854775807:Int);omega
 exact⟨⟨rfl,hh⟩,trivial⟩
end Go.V
namespace Go.V
end Go.V
namespace Go.V
def CR {a b:af}:au (a++b)=au a+au b:=by unfold au;rw[eV,Zf];omega
end Go.V
namespace Go.V
def slN (k:Int):Int:=if inR k 0 3=true then 16/clsSz k else 0
def Si {k:Int}(h:inR k 0 3=true):k=0\/k=1\/k=2\/k=3:=by have:=ay.1 h;omega
def nk {k:Int}(h:inR k 0 3=true):1<=clsSz k/\clsSz k<=8/\2<=slN k/\slN k<=16/\slN k*clsSz k=16:=by
 rcases Si h with rfl|rfl|rfl|rfl<;>decide
def LQ {k:Int}(h:inR k 0 3=true):bQ .quo Za 16 (clsSz k)=slN k:=by
 rcases Si h with rfl|rfl|rfl|rfl<;>decide
def LR {k:Int}(h:inR k 0 3=false):slN k=0:=by unfold slN;rw[h];rfl
def bmOk (n b:Int):Bool:=inR n 1 16&&inR b 0 (2^n.toNat-1)
def afR {n:Int}(h:inR n 1 16=true):bQ .sub Za (LM .shl Za 1 n) 1=2^n.toNat-1/\bQ .sub Za (LM .shl Za 1 (Rk .u64 n)) 1=2^n.toNat-1/\0<=Rk .u64 n:=by
 have q:=ay.1 h;have:n=1\/n=2\/n=3\/n=4\/n=5\/n=6\/n=7\/n=8\/n=9\/n=10\/n=11\/n=12\/n=13\/n=14\/n=15\/n=16:=by omega
 rcases this with rfl|rfl|rfl|rfl|rfl|rfl|rfl|rfl|rfl|rfl|rfl|rfl|rfl|rfl|rfl|rfl<;>decide
def ab3 {n b:Int}(h:inR n 1 16=false):bmOk n b=false:=by unfold bmOk;rw[h];rfl
def RY {n b:Int}(h:inR n 1 16=true):bmOk n b=inR b 0 (2^n.toNat-1):=by unfold bmOk;rw[h];rfl
def spOk (p k b:Int):Bool:=inR p 0 31&&bmOk (slN k) b
def Jq {k b:Int}(h:inR k 0 3=false):bmOk (slN k) b=false:=by rw[LR h];rfl
def abn {p k b:Int}(h:inR p 0 31=false):spOk p k b=false:=by unfold spOk;rw[h];rfl
def abo {p k b:Int}(h:inR k 0 3=false):spOk p k b=false:=by unfold spOk;rw[Jq h,Yc]
def abq {p k b:Int}(h:inR p 0 31=true):spOk p k b=bmOk (slN k) b:=by unfold spOk;rw[h];rfl
def mU {p k b:Int}(h:spOk p k b=true):0<=p/\p<=31/\inR k 0 3=true/\bmOk (slN k) b=true:=by
 unfold spOk at h;simp only[Zb,ay]at h;refine⟨h.1.1,h.1.2,?_,h.2⟩;cases q:inR k 0 3
 ·rw[Jq q]at h;exact absurd h.2 (by decide)
 ·rfl
def ahd {k b:Int}(h:bmOk (slN k) b=true):0<=b/\b<=65535:=by
 unfold bmOk at h;simp only[Zb,ay]at h;have hn:(slN k).toNat<=16:=by omega
 have hp:(2:Int)^(slN k).toNat<=2^16:=by
  have:=Nat.pow_le_pow_right (show 0<2 by omega) hn
  exact_mod_cast this
 omega
def pfN (s:Int):Int:=if inR s 9 1000=true then(s+15)/16 else 0
def aaS {s:Int}(h:inR s 9 1000=true):bQ .quo Za (bQ .sub Za (bQ .add Za s 16) 1) 16=pfN s:=by
 have q:=ay.1 h;have e1:bQ .add Za s 16=s+16:=b8 Uc;have e2:bQ .sub Za (s+16) 1=s+16-1:=eR Uc;unfold pfN;rw[VO h,e1,e2,vF Uc Uc Uc,show s+16-1=s+15 from by omega]
def ae8 {s:Int}(h:inR s 9 1000=false):pfN s=0:=by unfold pfN;rw[h];rfl
def qL {s:Int}(h:inR s 9 1000=true):1<=pfN s/\pfN s<=63/\s<=pfN s*16:=by
 have q:=ay.1 h;unfold pfN;rw[VO h];omega
def lgOk (p n s:Int):Bool:=inR s 9 1000&&(decide (n=pfN s)&&inR p 0 (32-n))
def aaa {p n s:Int}(h:inR s 9 1000=false):lgOk p n s=false:=by unfold lgOk;rw[h];rfl
def aab {p n s:Int}(h:n≠pfN s):lgOk p n s=false:=by unfold lgOk;rw[VM h];simp
def aac {p n s:Int}(h:inR s 9 1000=true)(h2:n=pfN s):lgOk p n s=inR p 0 (32-n):=by unfold lgOk;rw[h,VL h2];rfl
def oh {p n s:Int}(h:lgOk p n s=true):inR s 9 1000=true/\n=pfN s/\0<=p/\p<=32-n:=by
 unfold lgOk at h;simp only[Zb,VN,ay]at h;exact⟨ay.2 h.1,h.2.1,h.2.2⟩
def Es (p k b a:Int):Bool:=spOk p k b&&inR a (p*16) (p*16+15)
def saS (p k b a:Int):Int:=if Es p k b a=true then(a-p*16)/clsSz k else-1
def saO (p k b a:Int):Int:=if Es p k b a=true then(a-p*16)%clsSz k else-1
def LC {p k b a:Int}(h:Es p k b a=false):saS p k b a= -1/\saO p k b a= -1:=by unfold saS saO;rw[h];exact⟨rfl,rfl⟩
def yD {p k b a:Int}(h:Es p k b a=true):saS p k b a=(a-p*16)/clsSz k/\saO p k b a=(a-p*16)%clsSz k:=by unfold saS saO;rw[VO h,VO h];exact⟨rfl,rfl⟩
def uC {p k b a:Int}:Es p k b a=true↔spOk p k b=true/\p*16<=a/\a<=p*16+15:=by unfold Es;rw[Zb,ay]
def MO (p k b s:Int):Bool:=spOk p k b&&inR s 0 (slN k-1)
def aaI (p k b s:Int):Int:=if MO p k b s=true then p*16+s*clsSz k else-1
def lhB (p n s a:Int):Bool:=lgOk p n s&&inR a (p*16) (p*16+s-1)
def loI (p n s a:Int):Int:=if lhB p n s a=true then a-p*16 else-1
def aad {p n s a:Int}(h:lgOk p n s=false):lhB p n s a=false:=by unfold lhB;rw[h];rfl
def aaf {p n s a:Int}(h:lgOk p n s=true):lhB p n s a=inR a (p*16) (p*16+s-1):=by unfold lhB;rw[h];rfl
def ad5 {p n s a:Int}(h:lhB p n s a=false):loI p n s a= -1:=by unfold loI;rw[h];rfl
def aag {p n s a:Int}(h:lhB p n s a=true):loI p n s a=a-p*16:=by unfold loI;rw[VO h]
def FE {a b:Int}(h: -9223372036854775808<=a*b/\a*b<=9223372036854775807):bQ .mul Za a b=a*b:=YZ _ h
def ae9 {p:Int}(h:0<=p/\p<=31):bQ .mul Za p 16=p*16/\bQ .sub Za (bQ .add Za (p*16) 16) 1=p*16+15:=by
 have e1:bQ .mul Za p 16=p*16:=FE Uc;have e2:bQ .add Za (p*16) 16=p*16+16:=b8 Uc;have e3:bQ .sub Za (p*16+16) 1=p*16+16-1:=eR Uc;rw[e1,e2,e3];omega
def OG {p k b a:Int}(h:spOk p k b=true)(h1:inR a (p*16) (p*16+15)=true):saS p k b a=bQ .quo Za (bQ .sub Za a (p*16)) (clsSz k)/\saO p k b a=bQ .rem Za (bQ .sub Za a (p*16)) (clsSz k):=by
 have t:=mU h;have q:=ay.1 h1;have c:=nk t.2.2.1;have y:=yD (uC.2 ⟨h,q⟩);have e:bQ .sub Za a (p*16)=a-p*16:=eR Uc;rw[y.1,y.2,e,vF Uc Uc Uc,yp Uc];exact⟨rfl,rfl⟩
def afI {p k b a:Int}(h:spOk p k b=false):Es p k b a=false:=by unfold Es;rw[h];rfl
def afJ {p k b a:Int}(h:inR a (p*16) (p*16+15)=false):Es p k b a=false:=by unfold Es;rw[h,Yc]
def RR {p k b s:Int}(h:spOk p k b=true)(h1:inR s 0 (slN k-1)=true):bQ .add Za (bQ .mul Za p 16) (bQ .mul Za s (clsSz k))=aaI p k b s:=by
 have t:=mU h;have c:=nk t.2.2.1;have q:=ay.1 h1;have m1:0<=s*clsSz k:=Int.mul_nonneg q.1 Uc;have m2:s*clsSz k<=(slN k-1)*clsSz k:=Int.mul_le_mul_of_nonneg_right q.2 Uc;have m3:(slN k-1)*clsSz k=16-clsSz k:=by rw[Int.sub_mul,c.2.2.2.2,Int.one_mul]
 have e:bQ .mul Za s (clsSz k)=s*clsSz k:=FE Uc;rw[(ae9 ⟨t.1,t.2.1⟩).1,e];unfold aaI MO;rw[h,h1];exact b8 Uc
def Pq {p k b s:Int}(h:spOk p k b=false\/inR s 0 (slN k-1)=false):aaI p k b s= -1:=by
 unfold aaI MO;rcases h with h|h
 ·rw[h];rfl
 ·rw[h,Yc];rfl
def Qj {p n s:Int}(h:lgOk p n s=true):bQ .mul Za p 16=p*16/\bQ .add Za (bQ .mul Za p 16) s=p*16+s/\bQ .sub Za (bQ .add Za (bQ .mul Za p 16) s) 1=p*16+s-1:=by
 have t:=oh h;have b:=qL t.1;have q:=ay.1 t.1;have e1:bQ .mul Za p 16=p*16:=FE Uc;have e2:bQ .add Za (p*16) s=p*16+s:=b8 Uc;have e3:bQ .sub Za (p*16+s) 1=p*16+s-1:=eR Uc;rw[e1,e2,e3];exact⟨rfl,rfl,rfl⟩
def aae {p n s a:Int}:lhB p n s a=true↔lgOk p n s=true/\p*16<=a/\a<=p*16+s-1:=by unfold lhB;rw[Zb,ay]
def ad4 {p n s a:Int}(h:lhB p n s a=true):bQ .sub Za a (bQ .mul Za p 16)=loI p n s a:=by
 obtain⟨h1,h2,h3⟩:=aae.1 h;have t:=oh h1;have b:=qL t.1;have q:=ay.1 t.1;rw[(Qj h1).1,aag h];exact eR Uc
end Go.V
namespace Go.V
def lY (l:List Int):af:=l.map fun x=>[.i x]
def kT {l:List Int}:(lY l).length=l.length:=by unfold lY;rw[List.length_map]
def BO {a b:List Int}:lY (a++b)=lY a++lY b:=by unfold lY;rw[List.map_append]
def LB {l:List Int}(h:∀ x∈l,-9223372036854775808<=x/\x<=9223372036854775807)(hl:l.length<=70368744177664):Rw [tI] (lY l):=by
 refine⟨by rw[kT];unfold maxLen;omega,fun e he=>?_⟩;obtain⟨x,hx,rfl⟩:=List.mem_map.1 he;have q:=h x hx;exact⟨⟨rfl,by show-9223372036854775808<=x/\x<=(9223372036854775807:Int);exact q⟩,trivial⟩
def Q6 (sp:af)(i:Int):Bool:=spOk (ag sp i 0) (ag sp i 1) (ag sp i 2)
def T8 (lg:af)(i:Int):Bool:=lgOk (ag lg i 0) (ag lg i 1) (ag lg i 2)
def nN (sp:af):Nat->List Int
 |0=>[]
 |n+1=>nN sp n++[ag sp n 0]
def vE (p:Int):Nat->List Int
 |0=>[]
 |n+1=>vE p n++[p+n]
def oZ (lg:af):Nat->List Int
 |0=>[]
 |n+1=>oZ lg n++vE (ag lg n 0) (ag lg n 1).toNat
def Dy (sp lg:af):List Int:=nN sp sp.length++oZ lg lg.length
def layOk (sp lg:af):Bool:=(dI (Q6 sp) sp.length&&dI (T8 lg) lg.length)&&decide (Dy sp lg).Nodup
def BU {sp:af}{i:Int}(h:0<=i):nN sp (i+1).toNat=nN sp i.toNat++[ag sp i 0]:=by
 rw[show(i+1).toNat=i.toNat+1 from by omega,nN,Zj h]
def Fw {lg:af}{i:Int}(h:0<=i):oZ lg (i+1).toNat=oZ lg i.toNat++vE (ag lg i 0) (ag lg i 1).toNat:=by
 rw[show(i+1).toNat=i.toNat+1 from by omega,oZ,Zj h]
def FU {p i:Int}(h:0<=i):vE p (i+1).toNat=vE p i.toNat++[p+i]:=by
 rw[show(i+1).toNat=i.toNat+1 from by omega,vE,Zj h]
def HL {sp:af}:∀ (m n:Nat),n<=m->∃ r,nN sp m=nN sp n++r
 |0,n,h=>⟨[],by rw[show n=0 by omega];rfl⟩
 | m+1,n,h=>by
   by_cases c:n=m+1
   ·subst c;exact⟨[],by simp⟩
   ·obtain⟨r,e⟩:=HL (sp:=sp) m n Uc;exact⟨r++[ag sp m 0],by rw[nN,e,Zs]⟩
def Hq {p:Int}:∀ (m n:Nat),n<=m->∃ r,vE p m=vE p n++r
 |0,n,h=>⟨[],by rw[show n=0 by omega];rfl⟩
 | m+1,n,h=>by
   by_cases c:n=m+1
   ·subst c;exact⟨[],by simp⟩
   ·obtain⟨r,e⟩:=Hq (p:=p) m n Uc;exact⟨r++[p+m],by rw[vE,e,Zs]⟩
def Hd {lg:af}:∀ (m n:Nat),n<=m->∃ r,oZ lg m=oZ lg n++r
 |0,n,h=>⟨[],by rw[show n=0 by omega];rfl⟩
 | m+1,n,h=>by
   by_cases c:n=m+1
   ·subst c;exact⟨[],by simp⟩
   ·obtain⟨r,e⟩:=Hd (lg:=lg) m n Uc;exact⟨r++vE (ag lg m 0) (ag lg m 1).toNat,by rw[oZ,e,Zs]⟩
def dup {a b l:List Int}{x:Int}(h:l=a++x::b)(hm:x∈a):¬ l.Nodup:=by
 rw[h,Zx];rintro⟨_,_,q⟩;exact q x hm x (by simp) rfl
def sZ {a:List Int}{x:Int}(h:a.Nodup)(hx:x∉a):(a++[x]).Nodup:=by
 rw[Zx];exact⟨h,by simp,fun y hy z hz e=>by simp at hz;subst hz;subst e;exact hx hy⟩
def NN {sp lg:af}{i:Int}(h0:0<=i)(h1:i<sp.length)(h:spOk (ag sp i 0) (ag sp i 1) (ag sp i 2)=false):layOk sp lg=false:=by
 unfold layOk;rw[cW h0 h1 h];rfl
def NO {sp lg:af}{i:Int}(h0:0<=i)(h1:i<lg.length)(h:lgOk (ag lg i 0) (ag lg i 1) (ag lg i 2)=false):layOk sp lg=false:=by
 unfold layOk;rw[cW (p:=T8 lg) h0 h1 h,Yc];rfl
def NP {sp lg:af}{i:Int}(h0:0<=i)(h1:i<sp.length)(h:ag sp i 0∈nN sp i.toNat):layOk sp lg=false:=by
 obtain⟨r,e⟩:=HL (sp:=sp) sp.length (i+1).toNat Uc;rw[BU h0,Zs]at e;have:¬ (Dy sp lg).Nodup:=dup (a:=nN sp i.toNat) (b:=r++oZ lg lg.length) (x:=ag sp i 0) (by unfold Dy;rw[e,Zs];rfl) h;unfold layOk;rw[VM this,Yc]
def NQ {sp lg:af}{i k:Int}(h0:0<=i)(h1:i<lg.length)(k0:0<=k)(k1:k<ag lg i 1)(h:ag lg i 0+k∈nN sp sp.length++oZ lg i.toNat++vE (ag lg i 0) k.toNat):layOk sp lg=false:=by
 obtain⟨r,e⟩:=Hd (lg:=lg) lg.length (i+1).toNat Uc;obtain⟨r2,e2⟩:=Hq (p:=ag lg i 0) (ag lg i 1).toNat (k+1).toNat Uc;rw[Fw h0,e2,FU k0]at e;have:¬ (Dy sp lg).Nodup:=dup (a:=nN sp sp.length++oZ lg i.toNat++vE (ag lg i 0) k.toNat) (b:=r2++r) (x:=ag lg i 0+k) (by unfold Dy;rw[e];simp only[Zs];rfl) h;unfold layOk;rw[VM this,Yc]
def NR {sp lg:af}{i j:Int}(h:upto (Q6 sp) i)(hi:(sp.length:Int)<=i)(h2:upto (T8 lg) j)(hj:(lg.length:Int)<=j)(hn:(Dy sp lg).Nodup):layOk sp lg=true:=by
 unfold layOk;rw[cI h hi,cI h2 hj,VL hn];rfl
def Ky {sp lg:af}(h:layOk sp lg=true):(∀ i:Int,0<=i->i<sp.length->spOk (ag sp i 0) (ag sp i 1) (ag sp i 2)=true)/\(∀ i:Int,0<=i->i<lg.length->lgOk (ag lg i 0) (ag lg i 1) (ag lg i 2)=true)/\(Dy sp lg).Nodup:=by
 unfold layOk at h;simp only[Zb,VN]at h;exact⟨ez.1 h.1.1,ez.1 h.1.2,h.2⟩
def WfB (es:af):Prop:=∀ e∈es,∃ (k:Int) (b:Bool),e=[.i k,.v (.bool b)]
def yc {k:Int}{b:Bool}{es:af}{n:Int}:eg ([.i k,.v (.bool b)]::es) n=if k=n then some (0,.bool b)else(eg es n).map fun p=>(p.1+1,p.2):=rfl
def pH {k:Int}{b:Bool}{es:af}{n:Int}:mgbI ([.i k,.v (.bool b)]::es) n=if k=n then b else mgbI es n:=by
 unfold mgbI;rw[yc];by_cases c:k=n
 ·rw[VO c,VO c]
 ·rw[VP c,VP c];cases eg es n with
  |none=>rfl
  |some p=>obtain⟨j,v⟩:=p;cases v<;>rfl
def Hh {k:Int}{b x:Bool}{es:af}{n:Int}:nM ([.i k,.v (.bool b)]::es) n (.v (.bool x))=if k=n then[.i n,.v (.bool x)]::es else[.i k,.v (.bool b)]::nM es n (.v (.bool x)):=by
 unfold nM;rw[yc];by_cases c:k=n
 ·rw[VO c,VO c];rfl
 ·rw[VP c,VP c];cases eg es n with
  |none=>rfl
  |some p=>rfl
def mub {x:Bool}{n:Int}:∀ {es:af},WfB es->WfB (nM es n (.v (.bool x)))/\∀ m,mgbI (nM es n (.v (.bool x))) m=if m=n then x else mgbI es m
 | [],_=>by
   refine⟨fun e he=>?_,fun m=>?_⟩
   ·have:e=[.i n,.v (.bool x)]:=by simpa[nM,eg]using he
    exact⟨n,x,this⟩
   ·show mgbI [[.i n,.v (.bool x)]] m=_;rw[pH];by_cases c:m=n
    ·rw[VO c.symm,VO c]
    ·rw[VP (fun e=>c e.symm),VP c]
 | e::es,h=>by
   obtain⟨k,b,rfl⟩:=h e (by simp);have h':WfB es:=fun e he=>h e (by simp[he])
   obtain⟨a1,a2⟩:=mub (x:=x) (n:=n) h';rw[Hh];by_cases c:k=n
   ·rw[VO c];refine⟨fun e he=>?_,fun m=>?_⟩
    ·rcases Zl.1 he with rfl|he;exact⟨n,x,rfl⟩;exact h' e he
    ·rw[pH,pH];by_cases d:m=n
     ·rw[VO d.symm,VO d]
     ·rw[VP (fun e=>d e.symm),VP d,VP (fun e=>d (by rw[<-e,c]))]
   ·rw[VP c];refine⟨fun e he=>?_,fun m=>?_⟩
    ·rcases Zl.1 he with rfl|he;exact⟨k,b,rfl⟩;exact a1 e he
    ·rw[pH,pH,a2 m];by_cases d:k=m
     ·rw[VO d,VO d,VP (fun e=>c (d.trans e))]
     ·rw[VP d,VP d]
def muT (es:af)(n:Int):af:=nM es n (.v (.bool true))
structure qN (es:af)(l:List Int):Prop where
 wf:WfB es
 at_:∀ m,mgbI es m=true↔m∈l
def F3:qN [] []:=⟨(fun e he=>by cases he),fun m=>by simp[mgbI,eg]⟩
def wO {es:af}{l:List Int}{n:Int}(h:qN es l):qN (nM es n (.v (.bool true))) (l++[n]):=by
 have q:=mub (x:=true) (n:=n) h.wf;refine⟨q.1,fun m=>?_⟩;rw[q.2 m];by_cases c:m=n
 ·rw[VO c];simp[c]
 ·rw[VP c,h.at_ m];simp[c]
def one (x:Int):af:=[[.i x]]
structure LsP (sp:af)(i:Int)(o:af):Prop where
 e:o=lY (nN sp i.toNat)
 nd:(nN sp i.toNat).Nodup
 ok:upto (Q6 sp) i
 b:∀ x∈nN sp i.toNat,0<=x/\x<=64
structure LlP (sp lg:af)(j:Int)(o:af):Prop where
 e:o=lY (nN sp sp.length++oZ lg j.toNat)
 nd:(nN sp sp.length++oZ lg j.toNat).Nodup
 oks:upto (Q6 sp) sp.length
 ok:upto (T8 lg) j
 b:∀ x∈nN sp sp.length++oZ lg j.toNat,0<=x/\x<=64
 l:(oZ lg j.toNat).length<=64*j.toNat
structure LkP (sp lg:af)(j k:Int)(o:af):Prop where
 e:o=lY (nN sp sp.length++oZ lg j.toNat++vE (ag lg j 0) k.toNat)
 nd:(nN sp sp.length++oZ lg j.toNat++vE (ag lg j 0) k.toNat).Nodup
 oks:upto (Q6 sp) sp.length
 ok:upto (T8 lg) j
 b:∀ x∈nN sp sp.length++oZ lg j.toNat++vE (ag lg j 0) k.toNat,0<=x/\x<=64
 l:(oZ lg j.toNat).length<=64*j.toNat
def ajd {p n s k:Int}(h:lgOk p n s=true)(k0:0<=k)(k1:k<n):0<=p/\p+k<=32/\bQ .add Za p k=p+k/\1<=n/\n<=32:=by
 have t:=oh h;have b:=qL t.1;have e:bQ .add Za p k=p+k:=b8 Uc;exact⟨Uc,Uc,e,Uc,Uc⟩
end Go.V
namespace Go.V
structure RB (sp:af)(i:Int)(es:af):Prop where
 s:qN es (nN sp i.toNat)
 nd:(nN sp i.toNat).Nodup
 ok:upto (Q6 sp) i
structure IlP (sp lg:af)(j:Int)(es:af):Prop where
 s:qN es (nN sp sp.length++oZ lg j.toNat)
 nd:(nN sp sp.length++oZ lg j.toNat).Nodup
 oks:upto (Q6 sp) sp.length
 ok:upto (T8 lg) j
structure Ry (sp lg:af)(j k:Int)(es:af):Prop where
 s:qN es (nN sp sp.length++oZ lg j.toNat++vE (ag lg j 0) k.toNat)
 nd:(nN sp sp.length++oZ lg j.toNat++vE (ag lg j 0) k.toNat).Nodup
 oks:upto (Q6 sp) sp.length
 ok:upto (T8 lg) j
def LI {es:af}{l:List Int}{n:Int}(h:qN es l)(e:mgbI es n=false):n∉l:=fun m=>by rw[(h.at_ n).2 m]at e;cases e
def aio {sp:af}:RB sp 0 []:=⟨F3,List.nodup_nil,cr⟩
def TG {sp lg es:af}{i:Int}(h:RB sp i es)(h0:0<=i)(h1:i<sp.length)(hh:mgbI es (ag sp i 0)=true):layOk sp lg=false:=
 NP h0 h1 ((h.s.at_ _).1 hh)
def adC {sp es:af}{i:Int}(h:RB sp i es)(h0:0<=i)(hs:spOk (ag sp i 0) (ag sp i 1) (ag sp i 2)=true)(hh:mgbI es (ag sp i 0)=false):RB sp (i+1) (muT es (ag sp i 0)):=
 ⟨by rw[BU h0];exact wO h.s,by rw[BU h0];exact sZ h.nd (LI h.s hh),bU h.ok hs⟩
def TH {sp lg es:af}{i:Int}(h:RB sp i es)(h1:i<=sp.length)(h2:(sp.length:Int)<=i):IlP sp lg 0 es:=by
 have e:i.toNat=sp.length:=by omega
 have ei:i=sp.length:=by omega
 have q1:=h.s;have q2:=h.nd;have q3:=h.ok;rw[e]at q1 q2;rw[ei]at q3;exact⟨by simpa[oZ]using q1,by simpa[oZ]using q2,q3,cr⟩
def ain {sp lg es:af}{j:Int}(h:IlP sp lg j es):Ry sp lg j 0 es:=
 ⟨by simpa[vE]using h.s,by simpa[vE]using h.nd,h.oks,h.ok⟩
def Tx {sp lg es:af}{j k:Int}(h:Ry sp lg j k es)(h0:0<=j)(h1:j<lg.length)(k0:0<=k)(k1:k<ag lg j 1)(hh:mgbI es (ag lg j 0+k)=true):layOk sp lg=false:=
 NQ h0 h1 k0 k1 ((h.s.at_ _).1 hh)
def adx {sp lg es:af}{j k:Int}(h:Ry sp lg j k es)(k0:0<=k)(hh:mgbI es (ag lg j 0+k)=false):Ry sp lg j (k+1) (muT es (ag lg j 0+k)):=by
 have q:∀ A:List Int,A++vE (ag lg j 0) (k+1).toNat=A++vE (ag lg j 0) k.toNat++[ag lg j 0+k]:=fun A=>by rw[FU k0,Zs]
 exact⟨by rw[q];exact wO h.s,by rw[q];exact sZ h.nd (LI h.s hh),h.oks,h.ok⟩
def Tz {sp lg es:af}{j k:Int}(h:Ry sp lg j k es)(j0:0<=j)(hl:lgOk (ag lg j 0) (ag lg j 1) (ag lg j 2)=true)(k1:k<=ag lg j 1)(k2:ag lg j 1<=k):IlP sp lg (j+1) es:=by
 have ek:k.toNat=(ag lg j 1).toNat:=by omega
 have q1:=h.s;have q2:=h.nd;rw[ek,Zs, <-Fw j0]at q1 q2;exact⟨q1,q2,h.oks,bU h.ok hl⟩
def TA {sp lg es:af}{j:Int}(h:IlP sp lg j es)(j1:j<=lg.length)(j2:(lg.length:Int)<=j):layOk sp lg=true:=by
 have e:j.toNat=lg.length:=by omega
 have q:=h.nd;rw[e]at q;exact NR h.oks (Yi _) h.ok j2 q
def aeF {b:Bool}(h:(!b)=false):b=true:=by cases b<;>simp_all
def aeG {b:Bool}(h:(!b)=true):b=false:=by cases b<;>simp_all
end Go.V
namespace Go.V
def AJ (sp:af)(a i:Int):Bool:=decide (0<=saS (ag sp i 0) (ag sp i 1) (ag sp i 2) a)
def Ay (lg:af)(a i:Int):Bool:=lhB (ag lg i 0) (ag lg i 1) (ag lg i 2) a
def gE (sp:af)(a:Int):Int:=da (AJ sp a) sp.length
def md (lg:af)(a:Int):Int:=da (Ay lg a) lg.length
def zt (sp:af)(a i:Int):Int:=saS (ag sp i 0) (ag sp i 1) (ag sp i 2) a
def OR (sp:af)(a i:Int):Int:=saO (ag sp i 0) (ag sp i 1) (ag sp i 2) a
def loA (lg:af)(a i:Int):Int:=loI (ag lg i 0) (ag lg i 1) (ag lg i 2) a
def dnK (sp lg:af)(a:Int):Int:=if 0<=gE sp a then(if hsB (ag sp (gE sp a) 2) (zt sp a (gE sp a))then 1 else 2)else if 0<=md lg a then 3 else 0
def dnI (sp lg:af)(a:Int):Int:=if 0<=gE sp a then gE sp a else if 0<=md lg a then md lg a else 0
def dnS (sp:af)(a:Int):Int:=if 0<=gE sp a then zt sp a (gE sp a)else 0
def dnO (sp lg:af)(a:Int):Int:=if 0<=gE sp a then OR sp a (gE sp a)else if 0<=md lg a then loA lg a (md lg a)else 0
def dzK (sp lg:af)(a:Int):Int:=if layOk sp lg then dnK sp lg a else 0
def dzI (sp lg:af)(a:Int):Int:=if layOk sp lg then dnI sp lg a else 0
def dzS (sp lg:af)(a:Int):Int:=if layOk sp lg then dnS sp a else 0
def dzO (sp lg:af)(a:Int):Int:=if layOk sp lg then dnO sp lg a else 0
def ajR {sp:af}{a i:Int}(h:upto (cY (AJ sp a)) i)(hs:saS (ag sp i 0) (ag sp i 1) (ag sp i 2) a<0):upto (cY (AJ sp a)) (i+1):=
 bU h (by unfold cY AJ;rw[VM Uc];rfl)
def aja {lg:af}{a i:Int}(h:upto (cY (Ay lg a)) i)(hs:lhB (ag lg i 0) (ag lg i 1) (ag lg i 2) a=false):upto (cY (Ay lg a)) (i+1):=
 bU h (by unfold cY Ay;rw[hs];rfl)
def PW {sp:af}{a i:Int}(h:upto (cY (AJ sp a)) i)(h0:0<=i)(h1:i<sp.length)(hs:0<=saS (ag sp i 0) (ag sp i 1) (ag sp i 2) a):gE sp a=i:=
 dU h h0 h1 (VL hs)
def PX {sp:af}{a i:Int}(h:upto (cY (AJ sp a)) i)(h1:(sp.length:Int)<=i):gE sp a= -1:=eQ h h1
def acO {lg:af}{a i:Int}(h:upto (cY (Ay lg a)) i)(h0:0<=i)(h1:i<lg.length)(hs:lhB (ag lg i 0) (ag lg i 1) (ag lg i 2) a=true):md lg a=i:=
 dU h h0 h1 hs
def acQ {lg:af}{a i:Int}(h:upto (cY (Ay lg a)) i)(h1:(lg.length:Int)<=i):md lg a= -1:=eQ h h1
def owL (k i s o:Int):List DV:=[DV.agg [.i k,.i i,.i s,.i o]]
def PI (sp lg:af)(a:Int):List DV:=owL (dnK sp lg a) (dnI sp lg a) (dnS sp a) (dnO sp lg a)
def ow1 {sp lg:af}{a i:Int}(h:upto (cY (AJ sp a)) i)(h0:0<=i)(h1:i<sp.length)(hs:0<=saS (ag sp i 0) (ag sp i 1) (ag sp i 2) a)(hh:hsB (ag sp i 2) (saS (ag sp i 0) (ag sp i 1) (ag sp i 2) a)=true):
 owL 1 i (saS (ag sp i 0) (ag sp i 1) (ag sp i 2) a) (saO (ag sp i 0) (ag sp i 1) (ag sp i 2) a)=PI sp lg a:=by
 have e:=PW h h0 h1 hs;unfold PI dnK dnI dnS dnO zt OR;rw[e,VO h0,VO h0,VO h0,VO h0,hh];rfl
def ow2 {sp lg:af}{a i:Int}(h:upto (cY (AJ sp a)) i)(h0:0<=i)(h1:i<sp.length)(hs:0<=saS (ag sp i 0) (ag sp i 1) (ag sp i 2) a)(hh:hsB (ag sp i 2) (saS (ag sp i 0) (ag sp i 1) (ag sp i 2) a)=false):
 owL 2 i (saS (ag sp i 0) (ag sp i 1) (ag sp i 2) a) (saO (ag sp i 0) (ag sp i 1) (ag sp i 2) a)=PI sp lg a:=by
 have e:=PW h h0 h1 hs;unfold PI dnK dnI dnS dnO zt OR;rw[e,VO h0,VO h0,VO h0,VO h0,hh];rfl
def ow3 {sp lg:af}{a i j:Int}(h:upto (cY (AJ sp a)) i)(h1:(sp.length:Int)<=i)(g:upto (cY (Ay lg a)) j)(j0:0<=j)(j1:j<lg.length)(hh:lhB (ag lg j 0) (ag lg j 1) (ag lg j 2) a=true):
 owL 3 j 0 (loI (ag lg j 0) (ag lg j 1) (ag lg j 2) a)=PI sp lg a:=by
 have e:=PX h h1;have f:=acO g j0 j1 hh;have n:¬ (0:Int)<= -1:=by omega
 unfold PI dnK dnI dnS dnO loA;rw[e,f,VP n,VP n,VP n,VP n,VO j0,VO j0,VO j0]
def ow4 {sp lg:af}{a i j:Int}(h:upto (cY (AJ sp a)) i)(h1:(sp.length:Int)<=i)(g:upto (cY (Ay lg a)) j)(j1:(lg.length:Int)<=j):
 owL 0 0 0 0=PI sp lg a:=by
 have e:=PX h h1;have f:=acQ g j1;have n:¬ (0:Int)<= -1:=by omega
 unfold PI dnK dnI dnS dnO;rw[e,f,VP n,VP n,VP n,VP n,VP n,VP n,VP n]
end Go.V
namespace Go.V
def KE (sp lg:af)(a:Int):Bool:=decide (dzO sp lg a=0)&&(decide (dzK sp lg a=1)||decide (dzK sp lg a=3))
def TX (sp lg:af):Nat->af
 |0=>[]
 |n+1=>TX sp lg n++(if KE sp lg n then[[.i n]]else[])
def Ep (sp lg:af):af:=if layOk sp lg then TX sp lg 512 else[]
structure LaP (sp lg:af)(i:Int)(o:af):Prop where
 e:o=TX sp lg i.toNat
 l:o.length<=i.toNat
 y:0<i->layOk sp lg=true
def uB {a b:af}(h:a=b):[DV.one (.s 1 a)]=[DV.one (.s 1 b)]:=by rw[h]
end Go.V