/- Plain facts. -/
import Derived.Test.YtcbcfelbafccpaaGreatXHB
set_option linter.all false
open Go
open BitVec renaming ofInt_natCast->WH,toNat_ofNat->WI
open Bool renaming and_eq_true->Zb,and_false->Yb,true_and->YW
open Int renaming toNat_natCast->ZI,toNat_of_nonneg->Zm,one_mul->X0,toNat->YS,eq_ofNat_of_zero_le->Yh,not_le->WJ
open IntKind renaming i64->ZH,wrap->YT,i64->Za
open List renaming take->Yo,drop->YA,length_cons->Zr,length_nil->Zs,mem_append_right->X7,mem_append->Zg,length_set->ZD,length_drop->Zo,length_take->Zi,mem_of_mem_drop->Yu,mem_of_mem_take->Xm,getD_eq_getElem?_getD->Zp,getElem?_append_right->ZM,length_append->Zh,range->Ze
open Nat renaming le_trans->ZA,le_refl->Zf
open Value renaming int->Zq
namespace Go.V
def DX {o:af}{n:Int}{j:Nat}(h:Rw [tI,tI,tI] o)(n0:0<=n)(n1:n<o.length)(hj:j<3):∃ rec o',bP (L.s 3 o) [(n.toNat,j)]=some (rec,o')/\o'+[L.v (Zq ZH 0)].length<=rec.length/\Yo [L.v (Zq ZH 0)].length (YA o' rec)=ka am (L.s 3 o) [(n.toNat,j)] 0 [L.v (Zq ZH 0)]:=by
 rcases(show j=0\/j=1\/j=2 by omega)with rfl|rfl|rfl
 ·exact eA (z0:=[.i 0,.i 0,.i 0]) (z:=[.i 0]) h.wf Uc rfl (by decide)
 ·exact eA (z0:=[.i 0,.i 0,.i 0]) (z:=[.i 0]) h.wf Uc rfl (by decide)
 ·exact eA (z0:=[.i 0,.i 0,.i 0]) (z:=[.i 0]) h.wf Uc rfl (by decide)
section
variable {a0 a1 a2: af} {a3: Int} {a4 a5 a6 a7 a8 a9 aA aB: af} {aC: Int} {aD: af} {aE aF aG aH: Int} {aI: Bool} {aJ aK: Int} {aL: af} {aM aN: Int} {i: Int}
def Lq {t l:Int}(m:kJ a0 a1 a2)(h0:Rw [.sl [tI]] a0)(h1:Rw [tB] a1)(h2:Rw [tI,tI] a2):kJ (duC a0 a1 a2 t l) (duU a0 a1 a2 t l) (duE a0 a1 a2 t l)/\Rw [.sl [tI]] (duC a0 a1 a2 t l)/\Rw [tB] (duU a0 a1 a2 t l)/\Rw [tI,tI] (duE a0 a1 a2 t l)/\(duE a0 a1 a2 t l).length=a2.length/\bC (duC a0 a1 a2 t l)<=1024/\bC (duU a0 a1 a2 t l)<=64/\bC (duE a0 a1 a2 t l)<=64:=by
 have h:=DF (t:=t) m h0 h1 h2 l.toNat;have e:∀ X:af->af->af->Int->Int->af,True:=fun _=>trivial
 have c:duC a0 a1 a2 t l=duC a0 a1 a2 t (l.toNat:Int):=by unfold duC;rw[ZI]
 have u:duU a0 a1 a2 t l=duU a0 a1 a2 t (l.toNat:Int):=by unfold duU;rw[ZI]
 have s:duE a0 a1 a2 t l=duE a0 a1 a2 t (l.toNat:Int):=by unfold duE;rw[ZI]
 rw[c,u,s];exact⟨h.m,h.rc,h.ru,h.re,h.l,yi h⟩
section
variable {k m: Bool} {c x y p: Int} {sp: af}
end
def RF (h:hpI a0 a1 a2 a3 a4 a5 a6 a7 a8 a9 aA aB aC aD aE aF aG aH aI aJ aK aL aM aN=true):a5.length<=32:=by
 have T:=yS (qt h).r;have n:=T.n1;have:∀ (l:List Pr) (t:Int),Jn l->(∀ x∈l,t<=x.1/\1<=x.2/\x.1+x.2<=(a2.length:Int))->t+l.length<=(a2.length:Int)\/l=[]:=by
  intro l
  induction l with
  |nil=>intro t _ _;exact .inr rfl
  | cons x l ih=>
    intro t c b;have bx:=b x (by simp);refine .inl ?_;rcases ih (x.1+x.2) (Ge c) (fun y hy=>by have:=BS c y hy;have:=b y (by simp[hy]);omega)with q|q
    ·rw[Zr];omega
    ·rw[q];simp only[Zr,Zs];omega
 have q:=this (qX a5) 0 T.c (fun x hx=>by have:=T.b x hx;omega);rw[oI]at q;rcases q with q|q;omega
 ·have:=congrArg List.length q;rw[oI]at this;simp at this;rw[this];decide
end
end Go.V
namespace Go.V
section
variable {a0 a1 a2: af} {a3: Int} {a4 a5 a6 a7 a8 a9 aA aB: af} {aC: Int} {aD: af} {aE aF aG aH: Int} {aI: Bool} {aJ aK: Int} {aL: af} {aM aN: Int} {p: Int}
end
end Go.V
namespace Go.V
def GM {sp lg:af}{a k:Int}(h:hlB sp lg a k=true):dnK sp lg a=1:=by
 unfold hlB at h;rw[Zb,VI]at h;exact h.1
def SU {sp lg:af}(F:ML sp lg){k:Int}(k0:0<=k)(k1:k<lg.length):dnK sp lg (ag lg k 0*16)≠1:=fun e=>by
 obtain⟨_,q,l,t⟩:=Lp e;obtain⟨_,t2,t3⟩:=yX.1 t;have b:=(lC (F.l k.toNat Uc));have n:=m8 b.1;rw[Zm k0]at b n;have s:=F.sl (gp sp (ag lg k 0*16)).toNat k.toNat Uc Uc;rw[Zm q,Zm k0]at s;exact s Uc Uc
def Ou {sp lg os cs b x qs:af}{c k:Int}(hl:layOk sp lg=true)(h:hoI sp lg os cs b x qs c=true)(k0:0<=k)(k1:k<lg.length):0<=obI os (ag lg k 0*16):=by
 have F:=OA hl;have nd:=SU F k0 k1;have bt:=lC (F.l k.toNat Uc);have n:=m8 bt.1;rw[Zm k0]at bt n;have pg:0<=ag lg k 0/\ag lg k 0<=31:=T6 hl (by
  unfold wT;refine X7 _ (mi.2 ⟨k.toNat,Uc,?_⟩);rw[Zm k0];exact⟨Int.le_refl _,Uc⟩)
 have ma:ag lg k 0*16∈NQ sp lg:=X7 _ (qz.2 ⟨k.toNat,Uc,by rw[Zm k0]⟩);have lv:=LS F hl (D7.1 ma);have mem:ag lg k 0*16∈Kg sp lg 512:=qC.2 ⟨Uc,Uc,lv⟩;obtain⟨i,hi,e⟩:=List.getElem_of_mem mem;have la:zP sp lg=jG (Kg sp lg 512):=by unfold zP;rw[VJ hl,vz]
 unfold hoI at h;simp only[Zb]at h;obtain⟨h1,h2,h3,h4⟩:=h;have q:=dI.1 h4 i Uc (by rw[la,iQ];omega);unfold Qs at q;rw[la,PC hi,e,VI]at q;have m:ag lg k 0*16∈Qv os cs qs (ifL b x):=List.count_pos_iff.1 Uc;unfold Qv at m;simp only[Zg]at m;rcases m with((m|m)|m)|m
 ·obtain⟨k1',l1,m⟩:=D5.1 m;obtain⟨k2,l2,m⟩:=D6.1 m;obtain⟨k3,l3,m⟩:=qB.1 m;have r1:=dI.1 h1 k1' Uc Uc;unfold iA at r1;have r2:=dI.1 r1 k2 Uc Uc;unfold kA at r2;have r3:=dI.1 r2 k3 Uc Uc;unfold jA at r3;rw[<-m]at r3;exact absurd (GM r3) nd
 ·obtain⟨k1',l1,m⟩:=qB.1 m;have r1:=dI.1 h2 k1' Uc Uc;unfold Fg qA at r1;rw[Zb, <-m]at r1;exact absurd (GM r1.1) nd
 ·obtain⟨k1',l1,m⟩:=qB.1 m;have r1:=dI.1 h3 k1' Uc Uc;unfold jA at r1;rw[<-m]at r1;exact absurd (GM r1) nd
 ·obtain⟨k1',l1,m⟩:=qB.1 m;exact vi (i:=k1') l1 (xk m.symm)
end Go.V
namespace Go.V
def ltB (p n s z:Int):Bool:=lgOk p n s&&inR z 9 s
def ltN (p n s z:Int):Int:=if ltB p n s z=true then pfN z else n
def ltS (p n s z:Int):Int:=if ltB p n s z=true then z else s
def ltA (p n s z:Int):Int:=if ltB p n s z=true/\pfN z<n then p+pfN z else 0
def ltL (p n s z:Int):Int:=if ltB p n s z=true/\pfN z<n then n-pfN z else 0
structure LtT (p n s z:Int):Prop where
 g:lgOk p n s=true
 zi:inR z 9 1000=true
 z0:9<=z/\z<=1000/\z<=s
 p0:0<=p
 n1:p+n<=32
 m0:1<=pfN z/\pfN z<=n
 m1:z<=pfN z*16/\pfN z*16<z+16
def ltT {p n s z:Int}(h:ltB p n s z=true):LtT p n s z:=by
 unfold ltB at h;simp only[Zb]at h;have g:=lC h.1;have i:=bB.1 h.2;have si:=bB.1 g.1;have zi:inR z 9 1000=true:=bB.2 Uc;have b:=m8 zi;have e:pfN z=(z+15)/16:=by unfold pfN;rw[VJ zi]
 have e':pfN s=(s+15)/16:=by unfold pfN;rw[VJ g.1]
 exact⟨h.1,zi,⟨Uc,Uc,Uc⟩,g.2.2.1,Uc,⟨b.1,Uc⟩,⟨b.2.2,Uc⟩⟩
def S8 {p n s z:Int}(h:ltB p n s z=false):ltN p n s z=n/\ltS p n s z=s/\ltA p n s z=0/\ltL p n s z=0:=by
 unfold ltN ltS ltA ltL;rw[h];simp
def acR {p n s z:Int}(h:lgOk p n s=false):ltB p n s z=false:=by unfold ltB;rw[h];rfl
def acS {p n s z:Int}(h:inR z 9 s=false):ltB p n s z=false:=by unfold ltB;rw[h];simp
def acT {p n s z:Int}(h:lgOk p n s=true)(k:inR z 9 s=true):ltB p n s z=true:=by unfold ltB;rw[h,k];rfl
def S7 {p n s z:Int}(h:ltB p n s z=true)(k:pfN z=n):ltN p n s z=n/\ltS p n s z=z/\ltA p n s z=0/\ltL p n s z=0:=by
 unfold ltN ltS ltA ltL;rw[VJ h,VJ h,VK (fun c=>by omega),VK (fun c=>by omega)];exact⟨k,rfl,rfl,rfl⟩
def S9 {p n s z:Int}(h:ltB p n s z=true)(k:pfN z≠n):ltN p n s z=pfN z/\ltS p n s z=z/\ltA p n s z=p+pfN z/\ltL p n s z=n-pfN z:=by
 have T:=ltT h;have m:=T.m0;have c:ltB p n s z=true/\pfN z<n:=⟨h,Uc⟩;unfold ltN ltS ltA ltL;rw[VJ h,VJ h,VJ c,VJ c];exact⟨rfl,rfl,rfl,rfl⟩
def DZ {p n s a l p' n' s' a' l':Int}{b b':Bool}(h1:p=p')(h2:n=n')(h3:s=s')(h4:a=a')(h5:l=l')(h6:b=b'):
 [DV.agg [.i p,.i n,.i s],DV.agg [.i a,.i l],DV.k b]=[DV.agg [.i p',.i n',.i s'],DV.agg [.i a',.i l'],DV.k b']:=by rw[h1,h2,h3,h4,h5,h6]
def LX {cs us es:af}{p:Int}(m:kJ cs us es)(h:peM es p≠0):0<=peF es p/\peF es p<cs.length:=by
 have q:=D2 m (p:=p) (VG h);have e:=HF h;rw[e.2.2];exact q
def pmB (p ad:Int):Bool:=eqB (bK .mul Za p 16) ad
def E2 (lg:af)(ad j:Int):Bool:=pmB (ag lg j 0) ad
def lhI (lg:af)(ad:Int):Int:=cQ (E2 lg ad) lg.length
def QH (cs:af)(f k:Int):Nat->af
 |0=>cs
 |i+1=>nZ (QH cs f k i) f (k+i) 0
def tcC (cs es:af)(a n:Int):af:=QH cs (peF es (a/16)) (a%16) n.toNat
structure MS (cs us es:af)(f k i:Int)(c:af):Prop where
 e:c=QH cs f k i.toNat
 m:kJ c us es
 w:Rw [.sl [tI]] c
section
variable {cs us es c: af} {f k i p: Int}
def Mq (m:kJ cs us es)(w:Rw [.sl [tI]] cs):MS cs us es f k 0 cs:=⟨rfl,m,w⟩
def Ij (h:MS cs us es f k i c)(i0:0<=i)(hp:peM es p≠0)(ef:peF es p=f)(k0:0<=k)(k1:k+i<16):MS cs us es f k (i+1) (nZ c f (k+i) 0):=by
 refine⟨?_,aay h.m hp ef Uc k1 Uc Uc,(have fr:=LX h.m hp;Ic h.w Uc Uc Uc)⟩;rw[show(i+1).toNat=i.toNat+1 by omega,h.e];show _=nZ (QH cs f k i.toNat) f (k+(i.toNat:Int)) 0;rw[show(k+(i.toNat:Int))=k+i by omega]
def KV (h:MS cs us es f k i c){n:Int}(i1:i<=n)(i2:n<=i):c=QH cs f k n.toNat:=by rw[h.e,show i=n by omega]
def Ez (m:kJ cs us es)(w:Rw [.sl [tI]] cs)(hp:peM es p≠0)(ef:peF es p=f)(k0:0<=k):∀ n:Nat,k+n<=16->MS cs us es f k n (QH cs f k n)
 |0,_=>Mq m w
 | n+1,h=>by
   have q:=Ij (Ez m w hp ef k0 n Uc) Uc hp ef k0 Uc;have e:((n+1:Nat):Int)=(n:Int)+1:=by omega
   rw[e];exact q
end
end Go.V
namespace Go.V
def ja (a7:af)(ad:Int):Int:=ag a7 (lhI a7 ad) 0
def uv (a7:af)(ad:Int):Int:=ag a7 (lhI a7 ad) 1
def zU (a7:af)(ad:Int):Int:=ag a7 (lhI a7 ad) 2
def Ik (a7:af)(ad z:Int):Bool:=decide (0<=lhI a7 ad)&&ltB (ja a7 ad) (uv a7 ad) (zU a7 ad) z
def tmL (a7:af)(ad z:Int):af:=a7.set (lhI a7 ad).toNat [.i (ja a7 ad),.i (ltN (ja a7 ad) (uv a7 ad) (zU a7 ad) z),.i (ltS (ja a7 ad) (uv a7 ad) (zU a7 ad) z)]
def tmO (a8:af)(ad z:Int):af:=a8.set (obI a8 ad).toNat [.i (ag a8 (obI a8 ad) 0),.i (ag a8 (obI a8 ad) 1),.i z,.i (ag a8 (obI a8 ad) 3)]
def C3 (a0 a2 a7:af)(ad z:Int):af:=tcC a0 a2 (ja a7 ad*16+z) ((16- (ja a7 ad*16+z)%16)%16)
def Bz (a7:af)(ad z:Int):Int:=ltA (ja a7 ad) (uv a7 ad) (zU a7 ad) z
def zT (a7:af)(ad z:Int):Int:=ltL (ja a7 ad) (uv a7 ad) (zU a7 ad) z
def tmC (a0 a1 a2 a7:af)(ad z:Int):af:=duC (C3 a0 a2 a7 ad z) a1 a2 (Bz a7 ad z) (zT a7 ad z)
def tmU (a0 a1 a2 a7:af)(ad z:Int):af:=duU (C3 a0 a2 a7 ad z) a1 a2 (Bz a7 ad z) (zT a7 ad z)
def tmE (a0 a1 a2 a7:af)(ad z:Int):af:=duE (C3 a0 a2 a7 ad z) a1 a2 (Bz a7 ad z) (zT a7 ad z)
def tmF (a0 a1 a2 a5 a7:af)(ad z:Int):af:=rpL (zlI (tmE a0 a1 a2 a7 ad z)) a5 (Bz a7 ad z) (zT a7 ad z)
def yh {c u e:af}{t:Int}:duC c u e t 0=c/\duU c u e t 0=u/\duE c u e t 0=e:=⟨rfl,rfl,rfl⟩
def aao {n a:Int}{rs:af}:rpL n rs a 0=rs:=HZ (by
 unfold rpB rngIn;have:inR 0 1 n=false:=sW.2 Uc;rw[this];simp)
def adx {cs es:af}{a:Int}:tcC cs es a 0=cs:=rfl
section
variable {a0 a1 a2: af} {a3: Int} {a4 a5 a6 a7 a8 a9 aA aB: af} {aC: Int} {aD: af} {aE aF aG aH: Int} {aI: Bool} {aJ aK: Int} {aL: af} {aM aN ad z k: Int}
structure Qq (a1 a2 a5 a7 a8 a0:af)(ad z:Int):Prop where
 k0:0<=lhI a7 ad
 k1:lhI a7 ad<a7.length
 p:ja a7 ad*16=ad
 t:LtT (ja a7 ad) (uv a7 ad) (zU a7 ad) z
 b:ltB (ja a7 ad) (uv a7 ad) (zU a7 ad) z=true
 o0:0<=obI a8 ad
 o1:obI a8 ad<a8.length
 m:kJ a0 a1 a2
 g:∀ q:Int,ja a7 ad<=q->q<ja a7 ad+uv a7 ad->peM a2 q≠0
 f:a5.length<=32
 d:kJ (C3 a0 a2 a7 ad z) a1 a2
 dw:Rw [.sl [tI]] (C3 a0 a2 a7 ad z)
def SV {lg:af}(h:0<=lhI lg ad):lhI lg ad<lg.length/\bK .mul Za (ag lg (lhI lg ad) 0) 16=ad:=by
 have t:=fV h;change lhI lg ad<lg.length/\E2 lg ad (lhI lg ad)=true at t;exact⟨t.1,VL t.2⟩
def PY (hc:tz a0 a1 a2 a4 a5 a6 a7 a8 a9 aA aB aD aL)(h:hpI a0 a1 a2 a3 a4 a5 a6 a7 a8 a9 aA aB aC aD aE aF aG aH aI aJ aK aL aM aN=true)(b:Ik a7 ad z=true):Qq a1 a2 a5 a7 a8 a0 ad z:=by
 unfold Ik at b;rw[Zb,VI]at b;obtain⟨k0,lb⟩:=b;have kk:=SV k0;have H:=qt h;have T:=ltT lb;have F:=OA H.l;have km:=(lA H.k).1;have p0:=T.p0;have n1:=T.n1;have m0:=T.m0;have m1:=T.m1;have pe:ja a7 ad*16=ad:=by
  have e:bK .mul Za (ja a7 ad) 16=ja a7 ad*16:=vF Uc;have:=kk.2;change bK .mul Za (ja a7 ad) 16=ad at this;omega
 have ob:=Ou H.l H.h k0 kk.1;change 0<=obI a8 (ja a7 ad*16)at ob;rw[pe]at ob;have o1:=(fV ob).1;have PT:=pgT H.p;have g:∀ q:Int,ja a7 ad<=q->q<ja a7 ad+uv a7 ad->peM a2 q≠0:=fun q q0 q1=>by
  have tn:((ag a7 (lhI a7 ad) 1).toNat:Int)=uv a7 ad:=by
   show((uv a7 ad).toNat:Int)=uv a7 ad;omega
  have mem:q∈wT a6 a7:=X7 _ (mi.2 ⟨(lhI a7 ad).toNat,Uc,by
   rw[Zm k0,tn];exact⟨q0,q1⟩⟩)
  exact(PT.m q Uc (PT.o q mem)).2 mem
 have d:kJ (C3 a0 a2 a7 ad z) a1 a2/\Rw [.sl [tI]] (C3 a0 a2 a7 ad z):=by
  unfold C3 tcC;by_cases c:(ja a7 ad*16+z)%16=0
  ·rw[c];exact⟨km,hc.r0⟩
  ·have q:=Ez (cs:=a0) (us:=a1) (es:=a2) (f:=peF a2 ((ja a7 ad*16+z)/16)) (k:=(ja a7 ad*16+z)%16) (p:=(ja a7 ad*16+z)/16) km hc.r0 (g _ Uc Uc) rfl Uc ((16- (ja a7 ad*16+z)%16)%16).toNat Uc;exact⟨q.m,q.w⟩
 exact⟨k0,kk.1,pe,T,lb,ob,o1,km,g,RF h,d.1,d.2⟩
def aaq {es:af}{x y w:Int}{n:Nat}(h:Rw [tI,tI,tI] es)(hx: -9223372036854775808<=x/\x<=9223372036854775807)(hy: -9223372036854775808<=y/\y<=9223372036854775807)(hw: -9223372036854775808<=w/\w<=9223372036854775807):Rw [tI,tI,tI] (es.set n [.i x,.i y,.i w]):=Rw.set h (show bU [tI,tI,tI] [.i x,.i y,.i w]from⟨⟨rfl,hx⟩,⟨rfl,hy⟩,⟨rfl,hw⟩,trivial⟩) _
def aaP (hc:tz a0 a1 a2 a4 a5 a6 a7 a8 a9 aA aB aD aL)(T:Qq a1 a2 a5 a7 a8 a0 ad z):tz (tmC a0 a1 a2 a7 ad z) (tmU a0 a1 a2 a7 ad z) (tmE a0 a1 a2 a7 ad z) a4 (tmF a0 a1 a2 a5 a7 ad z) a6 (tmL a7 ad z) (tmO a8 ad z) a9 aA aB aD aL:=by
 have d:=Lq (t:=Bz a7 ad z) (l:=zT a7 ad z) T.d T.dw hc.r1 hc.r2;have f5:=T.f;have f:=HY (n:=zlI (tmE a0 a1 a2 a7 ad z)) (a0:=Bz a7 ad z) (l0:=zT a7 ad z) hc.r5 Uc;have g:=KI (n:=zlI (tmE a0 a1 a2 a7 ad z)) (a0:=Bz a7 ad z) (l0:=zT a7 ad z) hc.r5 Uc;have p0:=T.t.p0;have n1:=T.t.n1;have m0:=T.t.m0;have z0:=T.t.z0;have k0:=T.k0;have k1:=T.k1;have o0:=T.o0;have o1:=T.o1;have en: -9223372036854775808<=ltN (ja a7 ad) (uv a7 ad) (zU a7 ad) z/\ltN (ja a7 ad) (uv a7 ad) (zU a7 ad) z<=9223372036854775807:=by unfold ltN;rw[VJ T.b];omega
 have es: -9223372036854775808<=ltS (ja a7 ad) (uv a7 ad) (zU a7 ad) z/\ltS (ja a7 ad) (uv a7 ad) (zU a7 ad) z<=9223372036854775807:=by unfold ltS;rw[VJ T.b];omega
 have l:Rw [tI,tI,tI] (tmL a7 ad z):=aaq hc.r7 Uc en es;have o:Rw [tI,tI,tI,tI] (tmO a8 ad z):=Rw.set hc.r8 (show bU [tI,tI,tI,tI] [.i (ag a8 (obI a8 ad) 0),.i (ag a8 (obI a8 ad) 1),.i z,.i (ag a8 (obI a8 ad) 3)]from⟨⟨rfl,sV hc.r8 rfl Uc⟩,⟨rfl,sV hc.r8 rfl Uc⟩,⟨rfl,(show _/\_ from⟨Uc,Uc⟩: -9223372036854775808<=z/\z<=9223372036854775807)⟩,⟨rfl,sV hc.r8 rfl Uc⟩,trivial⟩) _;have c7:=hc.c7;have c8:=hc.c8;refine⟨d.2.1,d.2.2.1,d.2.2.2.1,hc.r4,f.1,hc.r6,l,o,hc.r9,hc.r10,hc.r11,hc.r13,hc.r21,?_,?_,?_,hc.c4,?_,hc.c6,?_,?_,hc.c9,hc.c10,hc.c11,hc.c13,hc.c21⟩;exact ZA d.2.2.2.2.2.1 (by decide);exact ZA d.2.2.2.2.2.2.1 (by decide);exact ZA d.2.2.2.2.2.2.2 (by decide)
 ·show bC (rpL _ _ _ _)<=_;omega
 ·rw[l.cnt rfl];unfold tmL;rw[ZD, <-hc.r7.cnt rfl];exact c7
 ·rw[o.cnt rfl];unfold tmO;rw[ZD, <-hc.r8.cnt rfl];exact c8
def tvB (k:Bool)(c:Int)(a7:af)(ad z:Int):Bool:=k&&(decide (c≠100000)&&Ik a7 ad z)
def adF {k:Bool}{c:Int}(h:k=false):tvB k c a7 ad z=false:=by subst h;rfl
def adG {k:Bool}{c:Int}(h:c=100000):tvB k c a7 ad z=false:=by unfold tvB;rw[VH (fun n=>n h)];simp
def aaQ {k:Bool}{c:Int}(h:Ik a7 ad z=false):tvB k c a7 ad z=false:=by unfold tvB;rw[h];simp
def KY {k:Bool}{c:Int}(h1:k=true)(h2:c≠100000)(h3:Ik a7 ad z=true):tvB k c a7 ad z=true:=by unfold tvB;rw[h1,VG h2,h3];rfl
def adB (h:lhI a7 ad<0):Ik a7 ad z=false:=by unfold Ik;rw[VH Uc];rfl
def adC (h:ltB (ja a7 ad) (uv a7 ad) (zU a7 ad) z=false):Ik a7 ad z=false:=by unfold Ik;rw[h];simp
def adD (h:0<=lhI a7 ad)(h2:ltB (ja a7 ad) (uv a7 ad) (zU a7 ad) z=true):Ik a7 ad z=true:=by unfold Ik;rw[VG h,h2];rfl
end
end Go.V
namespace Go.V
def AH {o:af}{n:Int}(h:Rw [tI,tI,tI] o)(n0:0<=n)(n1:n<o.length):∃ rec o',bP (L.s 3 o) [(n.toNat,0)]=some (rec,o')/\o'+[L.v (Zq ZH 0),L.v (Zq ZH 0),L.v (Zq ZH 0)].length<=rec.length/\Yo [L.v (Zq ZH 0),L.v (Zq ZH 0),L.v (Zq ZH 0)].length (YA o' rec)=ka am (L.s 3 o) [(n.toNat,0)] 0 [L.v (Zq ZH 0),L.v (Zq ZH 0),L.v (Zq ZH 0)]:=
 eA (z0:=[.i 0,.i 0,.i 0]) (z:=[.i 0,.i 0,.i 0]) h.wf Uc rfl (by decide)
def aaG {o:af}{n:Int}(h:Rw [tI,tI,tI] o)(n0:0<=n)(n1:n<o.length):∃ rec o',bP (.s 3 o) [(n.toNat,0)]=some (rec,o')/\o'+3<=rec.length:=fv Uc (by rw[h.eta n0 n1];exact Zf _)
def xL {o:af}{n x y w:Int}(h:Rw [tI,tI,tI] o)(n0:0<=n)(n1:n<o.length):oJ (.s 3 o) [(n.toNat,0)] [.i x,.i y,.i w]=o.set n.toNat [.i x,.i y,.i w]:=mC (by rw[h.eta n0 n1];rfl)
def aaF {o:af}{n:Int}(h:Rw [tI,tI,tI,tI] o)(n0:0<=n)(n1:n<o.length):∃ rec o',bP (.s 4 o) [(n.toNat,2)]=some (rec,o')/\o'+1<=rec.length:=fv Uc (by rw[h.eta n0 n1];show 2+1<=4;omega)
def xK {o:af}{n x:Int}(h:Rw [tI,tI,tI,tI] o)(n0:0<=n)(n1:n<o.length):oJ (.s 4 o) [(n.toNat,2)] [.i x]=o.set n.toNat [.i (ag o n 0),.i (ag o n 1),.i x,.i (ag o n 3)]:=by
 show o.set n.toNat ((o.getD n.toNat []).take 2++[.i x]++(o.getD n.toNat []).drop (2+1))=_;rw[h.eta n0 n1];rfl
section
variable {a0 a1 a2 a5 a7 a8 c: af} {ad z x: Int}
def aaO (T:Qq a1 a2 a5 a7 a8 a0 ad z):0<=Bz a7 ad z/\0<=zT a7 ad z/\Bz a7 ad z+zT a7 ad z<=32:=by
 have p0:=T.t.p0;have n1:=T.t.n1;have m0:=T.t.m0;unfold Bz zT;by_cases e:pfN z=uv a7 ad
 ·have q:=S7 T.b e;rw[q.2.2.1,q.2.2.2];omega
 ·have q:=S9 T.b e;rw[q.2.2.1,q.2.2.2];omega
def Io (T:Qq a1 a2 a5 a7 a8 a0 ad z):ltN (ja a7 ad) (uv a7 ad) (zU a7 ad) z=pfN z:=by unfold ltN;rw[VJ T.b]
def sr (T:Qq a1 a2 a5 a7 a8 a0 ad z):tmL a7 ad z=a7.set (lhI a7 ad).toNat [.i (ja a7 ad),.i (pfN z),.i (ltS (ja a7 ad) (uv a7 ad) (zU a7 ad) z)]:=by unfold tmL;rw[Io T]
def aaN (h:zT a7 ad z=0):tmF a0 a1 a2 a5 a7 ad z=a5:=by unfold tmF;rw[h];exact aao
def Im (h:(ja a7 ad*16+z)%16≠0):C3 a0 a2 a7 ad z=tcC a0 a2 (ja a7 ad*16+z) (16- (ja a7 ad*16+z)%16):=by unfold C3;rw[show(16- (ja a7 ad*16+z)%16)%16=16- (ja a7 ad*16+z)%16 by omega]
def Il (h:(ja a7 ad*16+z)%16=0):C3 a0 a2 a7 ad z=a0:=by unfold C3;rw[h];exact adx
def aaM (h:(ja a7 ad*16+z)%16=0):tmC a0 a1 a2 a7 ad z=duC a0 a1 a2 (Bz a7 ad z) (zT a7 ad z)/\tmU a0 a1 a2 a7 ad z=duU a0 a1 a2 (Bz a7 ad z) (zT a7 ad z)/\tmE a0 a1 a2 a7 ad z=duE a0 a1 a2 (Bz a7 ad z) (zT a7 ad z)/\tmF a0 a1 a2 a5 a7 ad z=rpL (zlI (duE a0 a1 a2 (Bz a7 ad z) (zT a7 ad z))) a5 (Bz a7 ad z) (zT a7 ad z):=by
 unfold tmF tmC tmU tmE;rw[Il h];exact⟨rfl,rfl,rfl,rfl⟩
def Mr (h:zT a7 ad z=0):tmC a0 a1 a2 a7 ad z=C3 a0 a2 a7 ad z/\tmU a0 a1 a2 a7 ad z=a1/\tmE a0 a1 a2 a7 ad z=a2/\tmF a0 a1 a2 a5 a7 ad z=a5:=by
 refine⟨?_,?_,?_,aaN h⟩
 ·unfold tmC;rw[h];exact yh.1
 ·unfold tmU;rw[h];exact yh.2.1
 ·unfold tmE;rw[h];exact yh.2.2
def Ms {a3:Int}{a4 a6 a9 aA aB aD aL:af}(hc:tz a0 a1 a2 a4 a5 a6 a7 a8 a9 aA aB aD aL)(T:Qq a1 a2 a5 a7 a8 a0 ad z)(k:kerOk a0 a1 a2 a3 a4=true):tz (C3 a0 a2 a7 ad z) a1 a2 a4 a5 a6 (tmL a7 ad z) (tmO a8 ad z) a9 aA aB aD aL/\kerOk (C3 a0 a2 a7 ad z) a1 a2 a3 a4=true:=by
 have t:=aaP hc T;have c:=yC T.d T.dw hc.r1 hc.r2;have q:=(lA k).2;exact⟨⟨T.dw,hc.r1,hc.r2,hc.r4,hc.r5,hc.r6,t.r7,t.r8,hc.r9,hc.r10,hc.r11,hc.r13,hc.r21,ZA c.1 (by decide),hc.c1,hc.c2,hc.c4,hc.c5,hc.c6,t.c7,t.c8,hc.c9,hc.c10,hc.c11,hc.c13,hc.c21⟩,yx T.d q.1 q.2.1 q.2.2⟩
end
end Go.V
namespace Go.V
section
variable {a0 a1 a2: af} {a3: Int} {a4 a5 a6 a7 a8 a9 aA aB: af} {aC: Int} {aD: af} {aE aF aG aH: Int} {aI: Bool} {aJ aK: Int} {aL: af} {aM aN ad z: Int}
end
end Go.V
namespace Go.V
def c1N (c:Int):Int:=c+1
def nhR (rs:af)(c:Int):Bool:= !hasB rs c
def kqN (k:Bool)(c:Int):Int:=if k=true then c+1 else c
section
variable {cs us es rs: af} {c p q m: Int}
end
def AG {b x e b' x' e' r r':af}{c c':Int}{z z':Bool}(h1:b=b')(h2:x=x')(h3:e=e')(h4:c=c')(h5:r=r')(h6:z=z'):[DV.agg [.s 1 b,.s 1 x,.s 2 e,.i c,.s 1 r],DV.k z]=[DV.agg [.s 1 b',.s 1 x',.s 2 e',.i c',.s 1 r'],DV.k z']:=by rw[h1,h2,h3,h4,h5,h6]
end Go.V
namespace Go.V
def kcB (es:af)(p q:Int)(xs:af):Bool:=mapB es p&&(mapB es q&&inR (ag xs 0 0) 0 15)
def kcC (cs es:af)(p q:Int)(xs:af):af:=if kcB es p q xs=true then nZ cs (peF es q) (ag xs 0 0) (ag (aO cs (peF es p) 0) (ag xs 0 0) 0)else cs
structure KcP (cs es:af)(p q:Int)(xs:af)(i:Int)(d:af):Prop where
 z:i=0->d=cs
 o:0<i->inR (ag xs 0 0) 0 15=true/\d=nZ cs (peF es q) (ag xs 0 0) (ag (aO cs (peF es p) 0) (ag xs 0 0) 0)
section
variable {cs us es xs d: af} {p q i: Int}
end
end Go.V
namespace Go.V
def x1R (xs:af)(n:Int):af:=[[.i (ag xs n 0)]]
def IP (b:Bool)(x y:Int):Int:=if b=true then x else y
def jmB (k:Bool)(es:af)(kp mv:Int)(xs:af)(ph nx:Int):Bool:=k&&(jbOk kp mv xs ph nx&&(mapB es kp&&(mapB es mv&& !decide (peF es kp=peF es mv))))
def jsC (cs us es:af)(c:Int)(rs:af)(kp mv:Int)(xs:af)(ph nx:Int):af:=
 if ph=1 then(if nx=xs.length then cs else kcC cs es mv kp (x1R xs nx))else if ph=2 then koC cs es c rs mv kp else if ph=3/\0<nx then stC cs us es (kp*16+ag xs (nx-1) 0) 0 else cs
def jsU (us es:af)(c:Int)(rs:af)(kp mv ph:Int):af:=if ph=2 then koU us es c rs mv kp else us
def jsE (es:af)(c:Int)(rs:af)(kp mv ph nx:Int):af:=
 if ph=0 then kpE es c rs mv 1 else if ph=2 then koE es c rs mv kp else if ph=3/\¬ 0<nx then kpE es c rs mv 2 else es
def jsN (c ph nx:Int):Int:=if ph=0\/ph=2\/(ph=3/\¬ 0<nx)then c+1 else c
def jsP (es:af)(c:Int)(rs:af)(kp mv:Int)(xs:af)(ph nx:Int):Int:=
 if ph=0 then(if kpB es c rs mv 1=true then 1 else 5)else if ph=1 then(if nx=xs.length then 2 else 1)else if ph=2 then(if koB es c rs mv kp=true then 4 else 3)else
 if ph=3 then(if¬ 0<nx/\kpB es c rs mv 2=true then 5 else 3)else ph
def jsX (xs:af)(ph nx:Int):Int:=if ph=1/\nx≠xs.length then nx+1 else if ph=3/\0<nx then nx-1 else nx
section
variable {cs us es rs xs: af} {c kp mv ph nx: Int} {k: Bool}
structure JbT (kp mv:Int)(xs:af)(ph nx:Int):Prop where
 k0:0<=kp
 k1:kp<=31
 m0:0<=mv
 m1:mv<=31
 p0:0<=ph
 p1:ph<=5
 n0:0<=nx
 n1:nx<=xs.length
 x:∀ i:Int,0<=i->i<xs.length->0<=ag xs i 0/\ag xs i 0<=15
def ade (ph:Int):Bool:=decide (ph=4)||decide (ph=5)
end
end Go.V
namespace Go.V
def FG (k:Bool)(c:Int)(me:Bool):Bool:=k&&(decide (c<=99000)&&me)
def Qz (a0 a1 a2:af)(a3:Int)(a4:af)(aJ aK:Int)(aL:af)(aM aN:Int):Bool:=jmB (ccB a0 a1 a2 a3 a4) a2 aJ aK aL aM aN
def mzN (a0 a1 a2:af)(a3:Int)(a4:af)(aJ aK:Int)(aL:af)(aM aN:Int):Int:=IP (Qz a0 a1 a2 a3 a4 aJ aK aL aM aN) (jsP a2 a3 a4 aJ aK aL aM aN) aM
def myN (a0 a1 a2:af)(a3:Int)(a4:af)(aJ aK:Int)(aL:af)(aM aN:Int):Int:=IP (Qz a0 a1 a2 a3 a4 aJ aK aL aM aN) (jsX aL aM aN) aN
def mcC (g:Bool)(a0 a1 a2:af)(a3:Int)(a4:af)(aJ aK:Int)(aL:af)(aM aN:Int):af:=ifR (g&&Qz a0 a1 a2 a3 a4 aJ aK aL aM aN) (jsC a0 a1 a2 a3 a4 aJ aK aL aM aN) a0
def mcU (g:Bool)(a0 a1 a2:af)(a3:Int)(a4:af)(aJ aK:Int)(aL:af)(aM aN:Int):af:=ifR (g&&Qz a0 a1 a2 a3 a4 aJ aK aL aM aN) (jsU a1 a2 a3 a4 aJ aK aM) a1
def mcE (g:Bool)(a0 a1 a2:af)(a3:Int)(a4:af)(aJ aK:Int)(aL:af)(aM aN:Int):af:=ifR (g&&Qz a0 a1 a2 a3 a4 aJ aK aL aM aN) (jsE a2 a3 a4 aJ aK aM aN) a2
def mcN (g:Bool)(a0 a1 a2:af)(a3:Int)(a4:af)(aJ aK:Int)(aL:af)(aM aN:Int):Int:=IP (g&&Qz a0 a1 a2 a3 a4 aJ aK aL aM aN) (jsN a3 aM aN) a3
def QA (g:Bool)(a0 a1 a2:af)(a3:Int)(a4:af)(aJ aK:Int)(aL:af)(aM aN:Int):Bool:=g&&ade (mzN a0 a1 a2 a3 a4 aJ aK aL aM aN)
def meB (o me:Bool):Bool:= !o&&me
section
variable {a0 a1 a2: af} {a3: Int} {a4 a5 a6 a7 a8 a9 aA aB: af} {aC: Int} {aD: af} {aJ aK: Int} {aL: af} {aM aN: Int} {g: Bool}
end
end Go.V
namespace Go.V
def woN (b i:Int):Int:=if slB b i=true then bK .andNot Za b (IW .shl Za 1 i)else b
def aax {t:Nat}(ht:t<=15):IW .shl Za 1 (t:Int)=((2^t:Nat):Int):=by
 show YT Za (1*2^(min (t:Int).toNat 64))=_;rw[show min (t:Int).toNat 64=t by omega,X0];have h:t=0\/t=1\/t=2\/t=3\/t=4\/t=5\/t=6\/t=7\/t=8\/t=9\/t=10\/t=11\/t=12\/t=13\/t=14\/t=15:=by omega
 rcases h with rfl|rfl|rfl|rfl|rfl|rfl|rfl|rfl|rfl|rfl|rfl|rfl|rfl|rfl|rfl|rfl<;>rfl
structure SpG (S:af):Prop where
 s:∀ i:Nat,i<S.length->spOk (ag S i 0) (ag S i 1) (ag S i 2)=true
 d:∀ i j:Nat,i<S.length->j<S.length->ag S i 0=ag S j 0->i=j
structure LvA (S:af)(a:Int)(i:Nat):Prop where
 l:i<S.length
 p:ag S i 0=a/16
 b:hsB (ag S i 2) ((a-ag S i 0*16)/clsSz (ag S i 1))=true
 o:(a-ag S i 0*16)%clsSz (ag S i 1)=0
section
variable {S: af} {a b: Int} {i j: Nat}
end
end Go.V
namespace Go.V
def fxS (S:af)(i s:Int):af:=S.set i.toNat [.i (ag S i 0),.i (ag S i 1),.i (woN (ag S i 2) s)]
def Lr (S:af)(a:Int):af:=fxS S (gp S a) (IX S a (gp S a))
def Ry (me:Bool)(kp mv:Int)(S:af)(a:Int):Bool:=decide (ag (Lr S a) (gp S a) 2=0)&& !bsB me kp mv (ag (Lr S a) (gp S a) 0)
structure zX where
 C:af
 U:af
 E:af
 F:af
 S:af
def f1 (me:Bool)(kp mv:Int)(s:zX)(a:Int):zX:=
 ⟨ifR (Ry me kp mv s.S a) (dsC s.C s.U s.E (Lr s.S a) (gp s.S a)) s.C,ifR (Ry me kp mv s.S a) (dsU s.C s.U s.E (Lr s.S a) (gp s.S a)) s.U,ifR (Ry me kp mv s.S a) (dsE s.C s.U s.E (Lr s.S a) (gp s.S a)) s.E,
  ifR (Ry me kp mv s.S a) (dsF s.C s.U s.E s.F (Lr s.S a) (gp s.S a)) s.F,ifR (Ry me kp mv s.S a) (dsS (Lr s.S a) (gp s.S a)) (Lr s.S a)⟩
structure FrI (s:zX):Prop where
 m:kJ s.C s.U s.E
 rc:Rw [.sl [tI]] s.C
 ru:Rw [tB] s.U
 re:Rw [tI,tI] s.E
 rf:Rw [tI,tI] s.F
 rs:Rw [tI,tI,tI] s.S
 lf:s.F.length<=65
 ls:s.S.length<=1073741824
 g:SpG s.S
section
variable {S: af} {a b x: Int} {i j: Nat}
end
end Go.V
namespace Go.V
section
variable {s: zX} {a b: Int} {i j: Nat} {me: Bool} {kp mv: Int}
end
def fN (me:Bool)(kp mv:Int)(l:af)(s:zX):Nat->zX
 |0=>s
 |n+1=>f1 me kp mv (fN me kp mv l s n) (ag l n 0)
structure FqI (l:af)(i:Nat)(s:zX):Prop where
 fr:FrI s
 q:∀ j:Nat,i<=j->j<l.length->∃ k,LvA s.S (ag l j 0) k
def DsA (l:af):Prop:=∀ i j:Nat,i<j->j<l.length->ag l i 0≠ag l j 0
section
variable {a0 a1 a2: af} {a3: Int} {a4 a5 a6 a7 a8 a9 aA aB: af} {aC: Int} {aD: af} {aE aF aG aH: Int} {aI: Bool} {aJ aK: Int} {aL: af} {aM aN: Int}
end
end Go.V
namespace Go.V
def tkC (me:Bool)(kp mv:Int)(c u e f s l:af):af:=(fN me kp mv l ⟨c,u,e,f,s⟩ l.length).C
def tkU (me:Bool)(kp mv:Int)(c u e f s l:af):af:=(fN me kp mv l ⟨c,u,e,f,s⟩ l.length).U
def tkE (me:Bool)(kp mv:Int)(c u e f s l:af):af:=(fN me kp mv l ⟨c,u,e,f,s⟩ l.length).E
def tkF (me:Bool)(kp mv:Int)(c u e f s l:af):af:=(fN me kp mv l ⟨c,u,e,f,s⟩ l.length).F
def tkS (me:Bool)(kp mv:Int)(c u e f s l:af):af:=(fN me kp mv l ⟨c,u,e,f,s⟩ l.length).S
def PQ (k:Bool)(c n ck:Int):Bool:=k&&(decide (c≠100000)&&(inR n 0 1000&&decide (ck+n<=1000000)))
def uu (k:Bool)(c t:Int)(m:af):Bool:=k&&(decide (c≠100000)&&inR t 0 (m.length-1))
structure TkP (me:Bool)(kp mv:Int)(l:af)(s:zX)(i:Int)(c u e f t:af):Prop where
 c:c=(fN me kp mv l s i.toNat).C
 u:u=(fN me kp mv l s i.toNat).U
 e:e=(fN me kp mv l s i.toNat).E
 f:f=(fN me kp mv l s i.toNat).F
 t:t=(fN me kp mv l s i.toNat).S
section
variable {me: Bool} {kp mv: Int} {l c u e f t c0 u0 e0 f0 t0: af} {s: zX} {i a: Int}
end
def Et {l:af}{i:Int}(i0:0<=i)(i1:i<=l.length):oU l i.toNat (FD (l.length:Int) i)=l.drop i.toNat:=by
 unfold oU FD;exact List.take_of_length_le (by rw[Zo];omega)
def uq {l:af}{i:Int}:oU l (YS 0) (FD i 0)=l.take i.toNat:=by
 unfold oU FD;rw[show YS 0=0 from rfl,List.drop_zero,Nat.sub_zero]
def Mh {fs:List Ty}{l:af}{a b:Nat}(h:Rw fs l):Rw fs (oU l a b)/\(oU l a b).length<=l.length:=by
 have q:(oU l a b).length<=l.length:=by unfold oU;rw[Zi,Zo];omega
 exact⟨⟨ZA q h.1,fun e he=>h.2 e (Yu (Xm he))⟩,q⟩
section
variable {rm now age: Int} {qs: af}
end
end Go.V
namespace Go.V
section
variable {S L: af} {a: Int} {i: Nat}
end
section
variable {me: Bool} {kp mv: Int} {c u e f t: af} {a: Int} {i: Nat}
end
section
variable {a0 a1 a2 a4 a5 a6 a7 a8 a9 aA aB aD aL: af} {a: Int} {i: Nat}
end
end Go.V
namespace Go.V
def Dv (ck n:Int):Int:=ck+n
section
variable {k: Bool} {c n ck t: Int} {m: af}
end
section
variable {a0 a1 a2: af} {a3: Int} {a4 a5 a6 a7 a8 a9 aA aB: af} {aC: Int} {aD: af} {aE aF aG aH: Int} {aI: Bool} {aJ aK: Int} {aL: af} {aM aN: Int} {n i: Int} {c u e f t: af}
structure TiT (aC:Int)(aD:af)(aF n:Int)(s:zX):Prop where
 b:qeB aC aD (Dv aF n) 100=true
 d:DsA (KA aC aD (Dv aF n) 100)
 q:FqI (KA aC aD (Dv aF n) 100) 0 s
 w:Rw [tI,tI,tI] (qeL aC aD (Dv aF n) 100)
 l:(qeL aC aD (Dv aF n) 100).length<=aD.length
 m:(KA aC aD (Dv aF n) 100).length<=aD.length
 r:Rw [tI,tI,tI] (KA aC aD (Dv aF n) 100)
end
end Go.V
namespace Go.V
def OX (s:Int):Int:=(1103515245*s+12345)%1073741824
def nxS (s:Int):Int:=if inR s 0 1073741823=true then OX s else 0
def Gq (s n:Int):Bool:=inR s 0 1073741823&&inR n 1 1000
def cuI (s n:Int):Int:=if Gq s n=true then OX s/1024%n else 0
def cuS (s n:Int):Int:=if Gq s n=true then OX s else s
def Hr {s:Int}:0<=OX s/\OX s<=1073741823:=by unfold OX;omega
def ac6 {s:Int}(h:inR s 0 1073741823=true):nxS s=bK .rem Za (bK .add Za (bK .mul Za 1103515245 s) 12345) 1073741824:=by
 have q:=bB.1 h;unfold nxS;rw[VJ h,vF Uc,cu Uc,tp Uc];rfl
def ac5 {s:Int}(h:inR s 0 1073741823=false):nxS s=0:=by unfold nxS;rw[h];rfl
def Rq {s n:Int}(h1:inR s 0 1073741823=true)(h2:inR n 1 1000=true):cuI s n=bK .rem Za (bK .quo Za (nxS s) 1024) n/\cuS s n=nxS s:=by
 have q:=bB.1 h2;have e:nxS s=OX s:=by unfold nxS;rw[VJ h1]
 have r:=Hr (s:=s);have b:Gq s n=true:=by unfold Gq;rw[h1,h2];rfl
 unfold cuI cuS;rw[VJ b,VJ b,e,xE Uc Uc Uc,tp Uc];exact⟨rfl,rfl⟩
def Jz {s n:Int}(h:Gq s n=false):cuI s n=0/\cuS s n=s:=by unfold cuI cuS;rw[h];exact⟨rfl,rfl⟩
def Rn {s n:Int}(h:inR s 0 1073741823=false):Gq s n=false:=by unfold Gq;rw[h];rfl
def Ro {s n:Int}(h:inR n 1 1000=false):Gq s n=false:=by unfold Gq;rw[h,Yb]
def Rp {s n:Int}(h1:inR s 0 1073741823=true)(n1:1<=n)(n2:n<=1000):0<=cuI s n/\cuI s n<n/\inR (cuS s n) 0 1073741823=true:=by
 have b:Gq s n=true:=by unfold Gq;rw[h1,bB.2 ⟨n1,n2⟩];rfl
 have r:=Hr (s:=s);unfold cuI cuS;rw[VJ b,VJ b];exact⟨Int.emod_nonneg _ Uc,Int.emod_lt_of_pos _ Uc,bB.2 r⟩
def shB (s n:Int):Bool:=inR s 0 1073741823&&inR n 0 64
def ioN:Nat->af
 |0=>[]
 |n+1=>ioN n++[[.i (n:Int)]]
def swE (es:af)(i j:Int):af:=(es.set i.toNat [.i (ag es j 0)]).set j.toNat [.i (ag es i 0)]
def shL:Nat->af->Int->af
 |0,es,_=>es
 |k+1,es,s=>shL k (swE es ((k:Int)+1) (cuI s ((k:Int)+2))) (cuS s ((k:Int)+2))
def shS:Nat->Int->Int
 |0,s=>s
 |k+1,s=>shS k (cuS s ((k:Int)+2))
def ads (s n:Int):af:=if shB s n=true then shL (n-1).toNat (ioN n.toNat) s else[]
def adt (s n:Int):Int:=if shB s n=true then shS (n-1).toNat s else s
structure IoP (i:Int)(o:af):Prop where
 e:o=ioN i.toNat
structure ShP (n s0 i:Int)(o:af)(s:Int):Prop where
 r:Rw [tI] o
 l:(o.length:Int)=n
 k:inR s 0 1073741823=true
 e:shL i.toNat o s=shL (n-1).toNat (ioN n.toNat) s0
 f:shS i.toNat s=shS (n-1).toNat s0
end Go.V
namespace Go.V
def ppB (p k b q l c:Int):Bool:=decide ((CU p k b).length<(CU q l c).length)
def ppK (p k b q l c:Int):Int:=if mshB p k b q l c=true then(if ppB p k b q l c=true then q else p)else 0
def ppM (p k b q l c:Int):Int:=if mshB p k b q l c=true then(if ppB p k b q l c=true then p else q)else 0
def ppC (p k b q l c:Int):af:=if mshB p k b q l c=true then(if ppB p k b q l c=true then CU p k b else CU q l c)else[]
def tnH (es:af)(x i:Int):Bool:=decide (ag es i 0=x)||decide (ag es i 1=x)
def tnI (es:af)(x:Int):Int:=cQ (tnH es x) es.length
def tnB (es:af)(x:Int):Bool:=decide (0<=tnI es x)
end Go.V
namespace Go.V
def Rs {l:L}{p:List (Nat×Nat)}{k:Nat}{es:af}(h:gT l p=some (k,es)):gT l p=some (k,mT l p):=by unfold mT;rw[h]
def abP {x:af}{a:Int}{r:af}(h:Rw [.sl [tI]] x)(h0:0<=a)(h1:a<x.length)(hc:bC x<=1073741824)(hr:r.length=1):gT (.s 1 x) [(a.toNat,0)]=some (1,mT (.s 1 x) [(a.toNat,0)])/\bN (mT (.s 1 x) [(a.toNat,0)])/\((mT (.s 1 x) [(a.toNat,0)]).length+r.length)*8<=70368744177664/\(mT (.s 1 x) [(a.toNat,0)]).length+r.length<=70368744177664:=by
 obtain⟨es,e⟩:=qq h h0 h1;have g:=pB (es:=x) (i:=a) (j:=0);have l:(aO x a 0).length<=bC (aO x a 0):=by unfold bC;omega
 refine⟨Rs e,?_,?_⟩
 ·rw[mo];exact(Rw.sub (fs:=[.sl [tI]]) (j:=0) (i:=a) h Uc rfl).scal rfl
 ·rw[mo];constructor<;>omega
end Go.V
namespace Go.V
def La (n:Int)(es:af):Prop:=∀ j:Nat,j<es.length->0<=ag es (j:Int) 0/\ag es (j:Int) 0<n
def RZ {es:af}{i j:Nat}{x:Int}(hj:j<es.length):ag (es.set i [.i x]) (j:Int) 0=if i=j then x else ag es (j:Int) 0:=by
 unfold ag;simp only[ZI,Zp];by_cases c:i=j
 ·subst c;rw[VJ rfl,List.getElem?_set_self hj];rfl
 ·rw[VK c,List.getElem?_set_ne c]
def La.st {n x:Int}{es:af}{i:Nat}(h:La n es)(x0:0<=x)(x1:x<n):La n (es.set i [.i x]):=fun j hj=>by
 rw[ZD]at hj;rw[RZ hj];split;exact⟨x0,x1⟩;exact h j hj
def La.at {n i:Int}{es:af}(h:La n es)(i0:0<=i)(i1:i<es.length):0<=ag es i 0/\ag es i 0<n:=by
 have:=h i.toNat Uc;rw[Zm i0]at this;exact this
def La.sw {n i j:Int}{es:af}(h:La n es)(i0:0<=i)(i1:i<es.length)(j0:0<=j)(j1:j<es.length):La n (swE es i j):=by
 have a:=h.at i0 i1;have b:=h.at j0 j1;exact(h.st b.1 b.2).st a.1 a.2
def RX {a:af}{r:ax}{n j:Nat}(h:n<a.length):ag (a++[r]) (n:Int) j=ag a (n:Int) j:=by
 unfold ag;simp only[ZI,Zp];rw[List.getElem?_append_left h]
def RY {a:af}{r:ax}{j:Nat}:ag (a++[r]) (a.length:Int) j=Ke (r.getD j .g):=by
 unfold ag;simp only[ZI,Zp];rw[ZM (Zf _),Nat.sub_self];rfl
def spM (sp:af)(a b:Int):Bool:=mshB (ag sp a 0) (ag sp a 1) (ag sp a 2) (ag sp b 0) (ag sp b 1) (ag sp b 2)
def spR (od:af)(h p i:Int):Int:=ag od (h+(i+p)%(od.length-h)) 0
def spT (sp od:af)(h p i:Int)(o:af):Bool:= !tnB o (ag od i 0)&&(!tnB o (spR od h p i)&&spM sp (ag od i 0) (spR od h p i))
def sp1 (sp od:af)(h p i:Int)(o:af):af:=if spT sp od h p i o=true then o++[[.i (ag od i 0),.i (spR od h p i)]]else o
def PL (sp od:af)(h p:Int):Nat->af->af
 |0,o=>o
 |i+1,o=>sp1 sp od h p (i:Int) (PL sp od h p i o)
def spO (sp od:af)(h:Int):Nat->af
 |0=>[]
 |p+1=>PL sp od h (p:Int) h.toNat (spO sp od h p)
def sqB (sp:af)(s k:Int):Bool:=decide ((sp.length:Int)<=16)&&(inR k 0 16&&inR s 0 1073741823)
def sqL (sp:af)(s k:Int):af:=if sqB sp s k=true then spO sp (ads s sp.length) ((sp.length:Int)/2) k.toNat else[]
def sqS (sp:af)(s k:Int):Int:=if sqB sp s k=true then adt s sp.length else s
end Go.V
namespace Go.V
structure UsP (n:Int)(o u:af):Prop where
 r:Rw [tB] u
 l:(u.length:Int)=n
 e:∀ x:Int,0<=x->x<n->pA u x 0=tnB o x
structure SoP (sp od:af)(h p:Int)(o:af):Prop where
 e:o=spO sp od h p.toNat
 r:Rw [tI,tI] o
 l:(o.length:Int)<=h*p
structure SiP (sp od:af)(h p i:Int)(o q:af):Prop where
 e:q=PL sp od h p i.toNat o
 r:Rw [tI,tI] q
 l:(q.length:Int)<=o.length+i
section
variable {sp od o q: af} {h p i: Int}
end
end Go.V
namespace Go.V
end Go.V
namespace Go.V
structure P2 (n:Int)(o:af):Prop where
 r:Rw [tI,tI] o
 i:∀ j:Nat,j<o.length->(0<=ag o (j:Int) 0/\ag o (j:Int) 0<n)/\(0<=ag o (j:Int) 1/\ag o (j:Int) 1<n)
def mtT (e s:af):af:=(msS e s).take 16
def mtP (e s:af)(d:Int):af:=sqL (mtT e s) d 3
def zQ (e s:af)(d:Int)(c j:Nat):Int:=ag (mtT e s) (ag (mtP e s d) 0 c) j
def mtK (e s:af)(d:Int):Int:=ppK (zQ e s d 0 0) (zQ e s d 0 1) (zQ e s d 0 2) (zQ e s d 1 0) (zQ e s d 1 1) (zQ e s d 1 2)
def mtM (e s:af)(d:Int):Int:=ppM (zQ e s d 0 0) (zQ e s d 0 1) (zQ e s d 0 2) (zQ e s d 1 0) (zQ e s d 1 1) (zQ e s d 1 2)
def mtC (e s:af)(d:Int):af:=ppC (zQ e s d 0 0) (zQ e s d 0 1) (zQ e s d 0 2) (zQ e s d 1 0) (zQ e s d 1 1) (zQ e s d 1 2)
def OP (k me:Bool):Bool:= !me&&k
def Ti (g:Bool)(e s:af)(d:Int):Bool:=g&&decide (0<(mtP e s d).length)
def mtD (g:Bool)(e s:af)(d:Int):Int:=if g=true then sqS (mtT e s) d 3 else d
def ac3 (g:Bool)(e s:af)(d x:Int):Int:=if Ti g e s d=true then ifZ (plOk (mtK e s d) (mtM e s d) (mtC e s d)) (mtK e s d)else x
def ac4 (g:Bool)(e s:af)(d x:Int):Int:=if Ti g e s d=true then ifZ (plOk (mtK e s d) (mtM e s d) (mtC e s d)) (mtM e s d)else x
def ac2 (g:Bool)(e s:af)(d:Int)(x:af):af:=if Ti g e s d=true then ifR (plOk (mtK e s d) (mtM e s d) (mtC e s d)) (mtC e s d) []else x
def Tj (g:Bool)(e s:af)(d x:Int):Int:=if Ti g e s d=true then 0 else x
def mtO (g:Bool)(e s:af)(d:Int)(me:Bool):Bool:=if Ti g e s d=true then true else me
section
variable {g me k: Bool} {e s x: af} {d y: Int}
end
end Go.V
namespace Go.V
def rcK (S:af)(a:Int):Int:=ag S (gp S a) 1
def rcB (S D:af)(t a:Int):Bool:=abL (aO D t 0) (rcK S a) a
def rcD (S D:af)(t a:Int):af:=if rcB S D t a=true then D.set t.toNat [.s 1 (cuL (aO D t 0) (rcK S a) a)]else D
structure RS where
 s:zX
 D:af
def r1 (me:Bool)(kp mv t:Int)(z:RS)(a:Int):RS:=⟨if rcB z.s.S z.D t a=true then z.s else f1 me kp mv z.s a,rcD z.s.S z.D t a⟩
def rN (me:Bool)(kp mv t:Int)(l:af)(z:RS):Nat->RS
 |0=>z
 |n+1=>r1 me kp mv t (rN me kp mv t l z n) (ag l n 0)
structure CdI (D:af)(n B:Nat):Prop where
 w:Rw [.sl [.sl [tI]]] D
 l:D.length=n
 c:bC D<=B
structure RqI (l:af)(n B i:Nat)(z:RS):Prop where
 fr:FrI z.s
 q:∀ j:Nat,i<=j->j<l.length->∃ k,LvA z.s.S (ag l j 0) k
 d:CdI z.D n (B+40*i)
section
variable {S D l: af} {t a: Int} {n B i: Nat} {me: Bool} {kp mv: Int} {z: RS}
end
def raC (me:Bool)(kp mv:Int)(c u e f s x:af)(t:Int)(l:af):af:=(rN me kp mv t l ⟨⟨c,u,e,f,s⟩,x⟩ l.length).s.C
def raU (me:Bool)(kp mv:Int)(c u e f s x:af)(t:Int)(l:af):af:=(rN me kp mv t l ⟨⟨c,u,e,f,s⟩,x⟩ l.length).s.U
def raE (me:Bool)(kp mv:Int)(c u e f s x:af)(t:Int)(l:af):af:=(rN me kp mv t l ⟨⟨c,u,e,f,s⟩,x⟩ l.length).s.E
def raF (me:Bool)(kp mv:Int)(c u e f s x:af)(t:Int)(l:af):af:=(rN me kp mv t l ⟨⟨c,u,e,f,s⟩,x⟩ l.length).s.F
def raS (me:Bool)(kp mv:Int)(c u e f s x:af)(t:Int)(l:af):af:=(rN me kp mv t l ⟨⟨c,u,e,f,s⟩,x⟩ l.length).s.S
def raD (me:Bool)(kp mv:Int)(c u e f s x:af)(t:Int)(l:af):af:=(rN me kp mv t l ⟨⟨c,u,e,f,s⟩,x⟩ l.length).D
section
variable {me: Bool} {kp mv t a: Int} {c u e f s x: af}
end
structure RaP (me:Bool)(kp mv t:Int)(l:af)(z:RS)(i:Int)(c u e f s x:af):Prop where
 c:c=(rN me kp mv t l z i.toNat).s.C
 u:u=(rN me kp mv t l z i.toNat).s.U
 e:e=(rN me kp mv t l z i.toNat).s.E
 f:f=(rN me kp mv t l z i.toNat).s.F
 s:s=(rN me kp mv t l z i.toNat).s.S
 x:x=(rN me kp mv t l z i.toNat).D
section
variable {me: Bool} {kp mv t: Int} {l c u e f s x c0 u0 e0 f0 s0 x0: af} {z: RS} {i: Int}
end
section
variable {a0 a1 a2: af} {a3: Int} {a4 a5 a6 a7 a8 a9 aA aB: af} {aC: Int} {aD: af} {aE aF aG aH: Int} {aI: Bool} {aJ aK: Int} {aL: af} {aM aN t: Int}
end
end Go.V
namespace Go.V
def sdP (to a:Int):ax:=[.i to,.i a]
def sdU (b:af)(f to a:Int):af:=b.set f.toNat [.s 2 (aO b f 0++[sdP to a])]
def sdB (b x:af)(f to a:Int):Bool:=htB b x f&&mailOk (sdU b f to a) x
def coX (b x:af)(t:Int):af:=if htB b x t=true then x.set t.toNat [.s 1 []]else x
def Ju (b x:af)(t:Int):af:=if htB b x t=true then aO x t 0 else[]
section
variable {b x: af} {f t to a: Int}
end
section
variable {a0 a1 a2: af} {a3: Int} {a4 a5 a6 a7 a8 a9 aA aB: af} {aC: Int} {aD: af} {aE aF aG aH: Int} {aI: Bool} {aJ aK: Int} {aL: af} {aM aN t i: Int} {c u e f s x: af}
structure CoI (a9 aA aB:af)(t:Int)(z:zX):Prop where
 h:htB aA aB t=true
 t0:0<=t
 t1:t<a9.length
 d:DsA (Ju aA aB t)
 q:RqI (Ju aA aB t) a9.length 1000000000 0 ⟨z,a9⟩
 l:(Ju aA aB t).length<=30
end
end Go.V
namespace Go.V
def acZ (g:Bool)(a0 a1 a2:af)(a3:Int)(a4:af)(aJ aK:Int)(aL:af)(aM aN:Int):Int:=IP g (mzN a0 a1 a2 a3 a4 aJ aK aL aM aN) aM
def ac0 (g:Bool)(a0 a1 a2:af)(a3:Int)(a4:af)(aJ aK:Int)(aL:af)(aM aN:Int):Int:=IP g (myN a0 a1 a2 a3 a4 aJ aK aL aM aN) aN
section
variable {a0 a1 a2: af} {a3: Int} {a4: af} {aJ aK: Int} {aL: af} {aM aN: Int} {g k me j: Bool} {c x y: Int} {u v: af}
end
end Go.V
namespace Go.V
section
variable {sp lg: af} {a: Int}
end
def foS (os:af)(ad:Int):Int:=ag os (obI os ad) 2
def RH (os:af)(ad:Int):Int:=ag os (obI os ad) 3
def Nx (os:af)(ad:Int):Int:=clsOf (foS os ad)
def foO (os:af)(ad:Int):af:=delL os (obI os ad) (obI os ad+1)
def foG (g:Bool)(os:af)(ad:Int):Bool:=g&&decide (0<=obI os ad)
def Qt (g:Bool)(os:af)(ad:Int):Bool:=foG g os ad&&decide (Nx os ad<0)
def fbS (g:Bool)(es os:af)(ad:Int):Bool:=foG g os ad&&(decide (0<=Nx os ad)&&decide (peM es (ad/16)≠1))
def fbP (g:Bool)(es os b x:af)(t ad:Int):Bool:=fbS g es os ad&&(decide (t≠RH os ad)&&sdB b x t (RH os ad) ad)
def Lv (g:Bool)(es os:af)(t ad:Int):Bool:=fbS g es os ad&&decide (t=RH os ad)
def JE (cs es os:af)(ad:Int):af:=tcC cs es ad (clsSz (Nx os ad))
def IM (os:af)(rm:Int)(qs:af)(ck ad:Int):af:=qaR rm qs ad (Nx os ad) ck
def fqL (os:af)(rm:Int)(qs:af)(ck ad:Int):af:=qaL rm qs ad (Nx os ad) ck
def Oo (lg:af)(ad:Int):Int:=ag lg (lhI lg ad) 0
def Qy (lg:af)(ad:Int):Int:=ag lg (lhI lg ad) 1
structure FoT (es sp lg os cs:af)(ad:Int):Prop where
 k0:0<=obI os ad
 k1:obI os ad<os.length
 e:ag os (obI os ad) 1=ad
 ok:okO sp lg ad (foS os ad)=true
 th:inR (RH os ad) 0 (cs.length-1)=true
 s0:1<=foS os ad
 s1:foS os ad<=1000
section
variable {a0 a1 a2: af} {a3: Int} {a4 a5 a6 a7 a8 a9 aA aB: af} {aC: Int} {aD: af} {aE aF aG aH: Int} {aI: Bool} {aJ aK: Int} {aL: af} {aM aN t ad: Int}
structure FsT (a0 a1 a2 a6 a8:af)(ad:Int):Prop where
 lv:∃ i,LvA a6 ad i
 d0:0<=ad
 d1:ad<=511
 mp:peM a2 (ad/16)≠0
 n0:1<=clsSz (Nx a8 ad)
 n1:ad%16+clsSz (Nx a8 ad)<=16
 m:kJ (JE a0 a2 a8 ad) a1 a2
 w:Rw [.sl [tI]] (JE a0 a2 a8 ad)
end
end Go.V
namespace Go.V
section
variable {es rs xs: af} {c kp mv ph nx: Int} {k: Bool}
end
section
variable {a0 a1 a2: af} {a3: Int} {a4: af} {aJ aK: Int} {aL: af} {aM aN: Int}
end
end Go.V
namespace Go.V
def Tw {ls:af}(h:Rw [.sl [tI]] ls)(hc:bC ls<=1099511627776):MN ls:=by
 refine⟨h,by unfold bC at hc;omega,fun i=>?_⟩;have:=pB (es:=ls) (i:=i) (j:=0);unfold bC at this hc;omega
section
variable {ls: af} {k a: Int}
def Q8 (h:inR k 0 3=false):clB ls k=false:=by unfold clB;rw[h];rfl
def Q9 (h:inR k 0 3=true):clB ls k=caOk ls:=by unfold clB;rw[h];rfl
def Ra (h:caOk ls=false):clB ls k=false:=by unfold clB;rw[h];simp
def Rb (h:caOk ls=true):clB ls k=inR k 0 3:=by unfold clB;rw[h];simp
def abM (h:Rw [.sl [tI]] ls)(hc:bC ls<=1073741824)(g:clB ls k=true):gT (.s 1 ls) [(k.toNat,0)]=some (1,aO ls k 0)/\bN (aO ls k 0)/\((aO ls k 0).length+1)*8<=70368744177664/\(aO ls k 0).length+1<=70368744177664:=by
 have c:=Li g;have q:=abP (r:=[[.i 0]]) h c.1 Uc hc rfl;simp only[mo,Zr,Zs]at q;exact q
end
section
variable {b x: af} {f to a t: Int}
end
section
variable {D s: af} {t ad: Int} {i: Nat}
def GK {cs:af}{fr:Int}(h:Rw [.sl [.sl [tI]]] cs)(h0:0<=fr)(h1:fr<cs.length):∃ rec o,bP (.s 1 cs) [(fr.toNat,0)]=some (rec,o)/\o+[L.s 1 []].length<=rec.length/\Yo [L.s 1 []].length (YA o rec)=ka am (.s 1 cs) [(fr.toNat,0)] 0 [L.s 1 []]:=by
 refine⟨[.s 1 (aO cs fr 0)],0,?_,Zf _,?_⟩
 ·show(cs[fr.toNat]?).map (·,0)=_;rw[Dq h h0 h1];rfl
 ·show[L.s 1 (aO cs fr 0)]=[L.s 1 (mT (.s 1 cs) [(fr.toNat,0)])];rw[mo]
def EW {cs:af}{fr:Int}(h:Rw [.sl [.sl [tI]]] cs)(h0:0<=fr)(h1:fr<cs.length):gT (.s 1 cs) [(fr.toNat,0)]=some (1,aO cs fr 0):=by
 unfold gT;show(match(cs[fr.toNat]?).map (·,0)with
  | some (rec,o)=>match rec[o]? with
    |some (.s sz es)=>some (sz,es)
    |_=>none
  |none=>none)=_
 rw[Dq h h0 h1];rfl
def SR {o:af}{n:Int}{j:Nat}(h:Rw [tI,tI,tI,tI] o)(n0:0<=n)(n1:n<o.length)(hj:j<4):∃ rec o',bP (L.s 4 o) [(n.toNat,j)]=some (rec,o')/\o'+[L.v (Zq ZH 0)].length<=rec.length/\Yo [L.v (Zq ZH 0)].length (YA o' rec)=ka am (L.s 4 o) [(n.toNat,j)] 0 [L.v (Zq ZH 0)]:=by
 rcases(show j=0\/j=1\/j=2\/j=3 by omega)with rfl|rfl|rfl|rfl
 ·exact eA (z0:=[.i 0,.i 0,.i 0,.i 0]) (z:=[.i 0]) h.wf Uc rfl (by decide)
 ·exact eA (z0:=[.i 0,.i 0,.i 0,.i 0]) (z:=[.i 0]) h.wf Uc rfl (by decide)
 ·exact eA (z0:=[.i 0,.i 0,.i 0,.i 0]) (z:=[.i 0]) h.wf Uc rfl (by decide)
 ·exact eA (z0:=[.i 0,.i 0,.i 0,.i 0]) (z:=[.i 0]) h.wf Uc rfl (by decide)
end
section
variable {k: Bool} {c t: Int} {m: af}
end
section
variable {ls: af} {k n: Int}
end
end Go.V
namespace Go.V
section
variable {ls: af} {k n: Int}
end
section
variable {c: af}
end
def fxD (D:af)(t:Int):Nat->af
 |0=>D
 |n+1=>(fxD D t n).set t.toNat [.s 1 (clK (aO (fxD D t n) t 0) n 8)]
def RQ (D:af)(t:Int):af:=EU (aO D t 0) 4
section
variable {D: af} {t: Int} {n B: Nat}
end
section
variable {a0 a1 a2: af} {a3: Int} {a4 a5 a6 a7 a8 a9 aA aB: af} {aC: Int} {aD: af} {aE aF aG aH: Int} {aI: Bool} {aJ aK: Int} {aL: af} {aM aN t: Int}
structure FuT (a9:af)(t:Int)(z:zX):Prop where
 t0:0<=t
 t1:t<a9.length
 k:caOk (aO a9 t 0)=true
 d:DsA (RQ a9 t)
 q:FqI (RQ a9 t) 0 z
 l:(RQ a9 t).length<=32
 c:CdI a9 a9.length 1000000000
end
structure FuO (me:Bool)(kp mv t:Int)(D:af)(s:zX)(k n:Int)(c u e f z x:af):Prop where
 en:n=(EU (aO D t 0) k.toNat).length
 p:TkP me kp mv (RQ D t) s n c u e f z
 x:x=fxD D t k.toNat
structure FuN (me:Bool)(kp mv t:Int)(D:af)(s:zX)(k i n:Int)(c u e f z:af):Prop where
 en:n=(EU (aO D t 0) k.toNat).length+i
 p:TkP me kp mv (RQ D t) s n c u e f z
section
variable {me: Bool} {kp mv t k n i: Int} {D c u e f z x c0 u0 e0 f0 z0: af} {s: zX}
end
section
variable {a0 a1 a2: af} {a3: Int} {a4 a5 a6 a7 a8 a9 aA aB: af} {aC: Int} {aD: af} {aE aF aG aH: Int} {aI: Bool} {aJ aK: Int} {aL: af} {aM aN t k i n m: Int} {c u e f s x c1 u1 e1 f1 s1: af}
end
end Go.V
namespace Go.V
structure LfT (a5 a7:af)(ad:Int):Prop where
 k0:0<=lhI a7 ad
 k1:lhI a7 ad<a7.length
 p:Oo a7 ad*16=ad
 p0:0<=Oo a7 ad
 n1:1<=Qy a7 ad
 m:Oo a7 ad+Qy a7 ad<=32
 f:a5.length<=32
section
variable {a0 a1 a2: af} {a3: Int} {a4 a5 a6 a7 a8 a9 aA aB: af} {aC: Int} {aD: af} {aE aF aG aH: Int} {aI: Bool} {aJ aK: Int} {aL: af} {aM aN t ad i: Int} {c u e f s x: af}
structure FqT (a8 a9:af)(aC:Int)(aD:af)(aF t ad:Int)(z:zX):Prop where
 t0:0<=t
 t1:t<a9.length
 d:DsA (IM a8 aC aD aF ad)
 q:RqI (IM a8 aC aD aF ad) a9.length 1000000000 0 ⟨z,a9⟩
 l:(IM a8 aC aD aF ad).length<=501
 w:Rw [tI,tI,tI] (fqL a8 aC aD aF ad)
 wl:(fqL a8 aC aD aF ad).length<=501
 r:Rw [tI,tI,tI] (IM a8 aC aD aF ad)
end
section
variable {k g: Bool} {c t ad: Int} {es sp lg os m b x: af}
end
end Go.V
namespace Go.V
section
variable {rm a c s i: Int} {qs: af}
end
def lgC (c u e l:af)(ad:Int):af:=duC c u e (Oo l ad) (Qy l ad)
def lgU (c u e l:af)(ad:Int):af:=duU c u e (Oo l ad) (Qy l ad)
def lgE (c u e l:af)(ad:Int):af:=duE c u e (Oo l ad) (Qy l ad)
def lgF (c u e f l:af)(ad:Int):af:=rpL (zlI (lgE c u e l ad)) f (Oo l ad) (Qy l ad)
def lgL (l:af)(ad:Int):af:=delL l (lhI l ad) (lhI l ad+1)
end Go.V
namespace Go.V
section
variable {a0 a1 a2: af} {a3: Int} {a4 a5 a6 a7 a8 a9 aA aB: af} {aC: Int} {aD: af} {aE aF aG aH: Int} {aI: Bool} {aJ aK: Int} {aL: af} {aM aN t ad: Int}
end
end Go.V
namespace Go.V
def J0 {us es rs:af}{c p:Int}:(DU us es c rs p).length=us.length:=by unfold DU;split<;>simp
def DT {us es rs:af}{c p:Int}:(Cn us es c rs p).length=es.length:=by
 unfold Cn;split;exact qN;rfl
def acD {us es rs:af}{c p:Int}(h:sX us es c rs p=false):DU us es c rs p=us/\Cn us es c rs p=es:=by unfold DU Cn;rw[h];exact⟨rfl,rfl⟩
def acE {us es rs:af}{c p:Int}(h:sX us es c rs p=true):DU us es c rs p=us.set (dC us).toNat [.v (.bool true)]/\Cn us es c rs p=wB es p 2 (dC us):=by unfold DU Cn;rw[VJ h,VJ h];exact⟨rfl,rfl⟩
def acz {us es rs:af}{c p:Int}(h:hasB rs c=true):sX us es c rs p=false:=by unfold sX;rw[h];rfl
def acA {us es rs:af}{c p:Int}(h:dC us<0):sX us es c rs p=false:=by unfold sX;rw[VH (p:=0<=dC us) Uc];simp
def acB {us es rs:af}{c p:Int}(h:inR p 0 (es.length-1)=false):sX us es c rs p=false:=by unfold sX;rw[h];simp
def acC {us es rs:af}{c p:Int}(h:peM es p≠0):sX us es c rs p=false:=by unfold sX;rw[VH h];simp
def acF {us es rs:af}{c p:Int}(h1:hasB rs c=false)(h2:0<=dC us)(h3:inR p 0 (es.length-1)=true)(h4:peM es p=0):sX us es c rs p=true:=by unfold sX;rw[h1,h3,VG h2,VG h4];rfl
structure U2 where
 u:af
 e:af
def zK (a1 a2:af)(c:Int)(rs:af)(t:Int):Nat->U2
 |0=>⟨a1,a2⟩
 |n+1=>⟨DU (zK a1 a2 c rs t n).u (zK a1 a2 c rs t n).e (c+n) rs (t+n),Cn (zK a1 a2 c rs t n).u (zK a1 a2 c rs t n).e (c+n) rs (t+n)⟩
def IG {a1 a2 rs:af}{c t:Int}{n:Nat}:zK a1 a2 c rs t (n+1)=⟨DU (zK a1 a2 c rs t n).u (zK a1 a2 c rs t n).e (c+n) rs (t+n),Cn (zK a1 a2 c rs t n).u (zK a1 a2 c rs t n).e (c+n) rs (t+n)⟩:=rfl
def xqB (a1 a2:af)(c:Int)(rs:af)(t i:Int):Bool:=sX (zK a1 a2 c rs t i.toNat).u (zK a1 a2 c rs t i.toNat).e (c+i) rs (t+i)
def xqF (a1 a2:af)(c:Int)(rs:af)(t n:Int):Int:=cQ (cI (xqB a1 a2 c rs t)) n.toNat
structure zZ (a0 a1 a2:af)(c:Int)(rs:af)(t i:Int)(u e:af):Prop where
 m:kJ a0 u e
 ru:Rw [tB] u
 re:Rw [tI,tI] e
 l:e.length=a2.length
 lu:u.length=a1.length
 eu:u=(zK a1 a2 c rs t i.toNat).u
 ee:e=(zK a1 a2 c rs t i.toNat).e
 g:upto (cI (cI (xqB a1 a2 c rs t))) i
section
variable {a0 a1 a2 rs u e: af} {c t i n: Int}
def abw (m:kJ a0 a1 a2)(ru:Rw [tB] a1)(re:Rw [tI,tI] a2):zZ a0 a1 a2 c rs t 0 a1 a2:=⟨m,ru,re,rfl,rfl,rfl,rfl,bR⟩
def MB (h:zZ a0 a1 a2 c rs t i u e):sX u e (c+i) rs (t+i)=xqB a1 a2 c rs t i:=by unfold xqB;rw[<-h.eu, <-h.ee]
def P8 (h:zZ a0 a1 a2 c rs t i u e)(i0:0<=i)(b:sX u e (c+i) rs (t+i)=true):zZ a0 a1 a2 c rs t (i+1) (DU u e (c+i) rs (t+i)) (Cn u e (c+i) rs (t+i)):=by
 have k:=(h.m).u;have k2:=h.m.n1;have w:=LK (c:=c+i) (rs:=rs) (p:=t+i) h.ru h.re Uc;have s:(i+1).toNat=i.toNat+1:=by omega
 have q:((i.toNat:Nat):Int)=i:=by omega
 refine⟨SI h.m,w.1,w.2,by rw[DT];exact h.l,by rw[J0];exact h.lu,?_,?_,bL h.g (fE ?_)⟩
 ·rw[s,IG,q, <-h.eu, <-h.ee]
 ·rw[s,IG,q, <-h.eu, <-h.ee]
 ·show cI (xqB a1 a2 c rs t) i=false;unfold cI;rw[<-MB h,b];rfl
def P7 (h:zZ a0 a1 a2 c rs t i u e)(i0:0<=i)(i1:i<n)(b:sX u e (c+i) rs (t+i)=false):xqF a1 a2 c rs t n=i:=
 dB h.g i0 Uc (fE (by rw[<-MB h];exact b))
def K7 (h:zZ a0 a1 a2 c rs t i u e)(i1:n<=i)(i0:0<=i):xqF a1 a2 c rs t n= -1:=dL h.g Uc
def EG (m:kJ a0 a1 a2)(ru:Rw [tB] a1)(re:Rw [tI,tI] a2):∀ k:Nat,kJ a0 (zK a1 a2 c rs t k).u (zK a1 a2 c rs t k).e/\Rw [tB] (zK a1 a2 c rs t k).u/\Rw [tI,tI] (zK a1 a2 c rs t k).e/\(zK a1 a2 c rs t k).e.length=a2.length
 |0=>⟨m,ru,re,rfl⟩
 | k+1=>by
   obtain⟨q1,q2,q3,q4⟩:=EG m ru re k;have k1:=q1.u;have k2:=q1.n1;have w:=LK (c:=c+k) (rs:=rs) (p:=t+k) q2 q3 Uc;exact⟨SI q1,w.1,w.2,by rw[IG];show(Cn _ _ _ _ _).length=_;rw[DT];exact q4⟩
end
def wz (a2 a5:af)(n:Int):Int:=tkA (zlI a2) a5 n
def K6 (a1 a2:af)(a3:Int)(a4 a5:af)(n:Int):Int:=xqF a1 a2 a3 a4 (wz a2 a5 n) n
def Mx (a1 a2:af)(a3:Int)(a4 a5:af)(n:Int):Int:=if tkB (zlI a2) a5 n=true then(if K6 a1 a2 a3 a4 a5 n<0 then n else K6 a1 a2 a3 a4 a5 n)else 0
def IZ (a1 a2:af)(a3:Int)(a4 a5:af)(n:Int):Int:=if tkB (zlI a2) a5 n=true then(if K6 a1 a2 a3 a4 a5 n<0 then 0 else K6 a1 a2 a3 a4 a5 n)else 0
def xpB (a1 a2:af)(a3:Int)(a4 a5:af)(n:Int):Bool:=tkB (zlI a2) a5 n&&decide (K6 a1 a2 a3 a4 a5 n<0)
def FH (a1 a2:af)(a3:Int)(a4 a5:af)(n:Int):U2:=zK a1 a2 a3 a4 (wz a2 a5 n) (Mx a1 a2 a3 a4 a5 n).toNat
def xpC (a0 a1 a2:af)(a3:Int)(a4 a5:af)(n:Int):af:=duC a0 (FH a1 a2 a3 a4 a5 n).u (FH a1 a2 a3 a4 a5 n).e (wz a2 a5 n) (IZ a1 a2 a3 a4 a5 n)
def xpU (a0 a1 a2:af)(a3:Int)(a4 a5:af)(n:Int):af:=duU a0 (FH a1 a2 a3 a4 a5 n).u (FH a1 a2 a3 a4 a5 n).e (wz a2 a5 n) (IZ a1 a2 a3 a4 a5 n)
def xpE (a0 a1 a2:af)(a3:Int)(a4 a5:af)(n:Int):af:=duE a0 (FH a1 a2 a3 a4 a5 n).u (FH a1 a2 a3 a4 a5 n).e (wz a2 a5 n) (IZ a1 a2 a3 a4 a5 n)
def xpK (a1 a2:af)(a3:Int)(a4 a5:af)(n:Int):Int:=if tkB (zlI a2) a5 n=true then(if K6 a1 a2 a3 a4 a5 n<0 then a3+n else a3+K6 a1 a2 a3 a4 a5 n+1)else a3
def xpF (a1 a2:af)(a3:Int)(a4 a5:af)(n:Int):af:=if xpB a1 a2 a3 a4 a5 n=true then tkL (zlI a2) a5 n else a5
def xpA (a1 a2:af)(a3:Int)(a4 a5:af)(n:Int):Int:=if xpB a1 a2 a3 a4 a5 n=true then wz a2 a5 n else-1
section
variable {a0 a1 a2: af} {a3: Int} {a4 a5 u e c' u' e': af} {n i: Int}
def abr (h:tkB (zlI a2) a5 n=false):xpC a0 a1 a2 a3 a4 a5 n=a0/\xpU a0 a1 a2 a3 a4 a5 n=a1/\xpE a0 a1 a2 a3 a4 a5 n=a2/\xpK a1 a2 a3 a4 a5 n=a3/\xpF a1 a2 a3 a4 a5 n=a5/\xpA a1 a2 a3 a4 a5 n= -1/\xpB a1 a2 a3 a4 a5 n=false:=by
 have d:IZ a1 a2 a3 a4 a5 n=0:=by unfold IZ;rw[h];rfl
 have j:Mx a1 a2 a3 a4 a5 n=0:=by unfold Mx;rw[h];rfl
 have b:xpB a1 a2 a3 a4 a5 n=false:=by unfold xpB;rw[h];rfl
 have v:FH a1 a2 a3 a4 a5 n=⟨a1,a2⟩:=by unfold FH;rw[j];rfl
 refine⟨?_,?_,?_,?_,?_,?_,b⟩
 ·unfold xpC;rw[d,v];exact yh.1
 ·unfold xpU;rw[d,v];exact(yh (c:=a0)).2.1
 ·unfold xpE;rw[d,v];exact(yh (c:=a0) (u:=a1)).2.2
 ·unfold xpK;rw[h];rfl
 ·unfold xpF;rw[b];rfl
 ·unfold xpA;rw[b];rfl
def adS (h:tkB (zlI a2) a5 n=true)(p:zZ a0 a1 a2 a3 a4 (wz a2 a5 n) i u e)(i0:0<=i)(i1:n<=i)(i2:i<=n):xpC a0 a1 a2 a3 a4 a5 n=a0/\xpU a0 a1 a2 a3 a4 a5 n=u/\xpE a0 a1 a2 a3 a4 a5 n=e/\xpK a1 a2 a3 a4 a5 n=a3+n/\xpF a1 a2 a3 a4 a5 n=tkL (zlI a2) a5 n/\xpA a1 a2 a3 a4 a5 n=wz a2 a5 n/\xpB a1 a2 a3 a4 a5 n=true:=by
 have f:K6 a1 a2 a3 a4 a5 n= -1:=K7 p i1 i0;have d:IZ a1 a2 a3 a4 a5 n=0:=by unfold IZ;rw[VJ h,f];rfl
 have j:Mx a1 a2 a3 a4 a5 n=n:=by unfold Mx;rw[VJ h,f];rfl
 have b:xpB a1 a2 a3 a4 a5 n=true:=by unfold xpB;rw[h,f];rfl
 have v:FH a1 a2 a3 a4 a5 n=⟨u,e⟩:=by
  unfold FH;rw[j,p.eu,p.ee,show i=n by omega]
 refine⟨?_,?_,?_,?_,?_,?_,b⟩
 ·unfold xpC;rw[d,v];exact yh.1
 ·unfold xpU;rw[d,v];exact(yh (c:=a0)).2.1
 ·unfold xpE;rw[d,v];exact(yh (c:=a0) (u:=u)).2.2
 ·unfold xpK;rw[VJ h,f];rfl
 ·unfold xpF;rw[VJ b]
 ·unfold xpA;rw[VJ b]
def adR (h:tkB (zlI a2) a5 n=true)(p:zZ a0 a1 a2 a3 a4 (wz a2 a5 n) i u e)(i0:0<=i)(i1:i<n)(g:sX u e (a3+i) a4 (wz a2 a5 n+i)=false):xpC a0 a1 a2 a3 a4 a5 n=duC a0 u e (wz a2 a5 n) i/\xpU a0 a1 a2 a3 a4 a5 n=duU a0 u e (wz a2 a5 n) i/\xpE a0 a1 a2 a3 a4 a5 n=duE a0 u e (wz a2 a5 n) i/\xpK a1 a2 a3 a4 a5 n=a3+i+1/\xpF a1 a2 a3 a4 a5 n=a5/\xpA a1 a2 a3 a4 a5 n= -1/\xpB a1 a2 a3 a4 a5 n=false:=by
 have f:K6 a1 a2 a3 a4 a5 n=i:=P7 p i0 i1 g;have d:IZ a1 a2 a3 a4 a5 n=i:=by unfold IZ;rw[VJ h,f,VK Uc]
 have j:Mx a1 a2 a3 a4 a5 n=i:=by unfold Mx;rw[VJ h,f,VK Uc]
 have b:xpB a1 a2 a3 a4 a5 n=false:=by unfold xpB;rw[h,f,VH Uc];rfl
 have v:FH a1 a2 a3 a4 a5 n=⟨u,e⟩:=by unfold FH;rw[j,p.eu,p.ee]
 refine⟨?_,?_,?_,?_,?_,?_,b⟩
 ·unfold xpC;rw[d,v]
 ·unfold xpU;rw[d,v]
 ·unfold xpE;rw[d,v]
 ·unfold xpK;rw[VJ h,f,VK Uc]
 ·unfold xpF;rw[b];rfl
 ·unfold xpA;rw[b];rfl
def adQ (m:kJ a0 a1 a2)(rc:Rw [.sl [tI]] a0)(ru:Rw [tB] a1)(re:Rw [tI,tI] a2):kJ (xpC a0 a1 a2 a3 a4 a5 n) (xpU a0 a1 a2 a3 a4 a5 n) (xpE a0 a1 a2 a3 a4 a5 n)/\Rw [.sl [tI]] (xpC a0 a1 a2 a3 a4 a5 n)/\Rw [tB] (xpU a0 a1 a2 a3 a4 a5 n)/\Rw [tI,tI] (xpE a0 a1 a2 a3 a4 a5 n)/\(xpE a0 a1 a2 a3 a4 a5 n).length=a2.length/\bC (xpC a0 a1 a2 a3 a4 a5 n)<=1024/\bC (xpU a0 a1 a2 a3 a4 a5 n)<=64/\bC (xpE a0 a1 a2 a3 a4 a5 n)<=64:=by
 have v:=EG (c:=a3) (rs:=a4) (t:=wz a2 a5 n) m ru re (Mx a1 a2 a3 a4 a5 n).toNat;have d:=Lq (t:=wz a2 a5 n) (l:=IZ a1 a2 a3 a4 a5 n) v.1 rc v.2.1 v.2.2.1;exact⟨d.1,d.2.1,d.2.2.1,d.2.2.2.1,d.2.2.2.2.1.trans v.2.2.2,d.2.2.2.2.2⟩
def P5 (h:Rw [tI,tI] a5):Rw [tI,tI] (xpF a1 a2 a3 a4 a5 n)/\(xpF a1 a2 a3 a4 a5 n).length<=a5.length:=by
 unfold xpF;split;exact aaK h;exact⟨h,Zf _⟩
def abq (h:xpB a1 a2 a3 a4 a5 n=true):tkB (zlI a2) a5 n=true/\xpA a1 a2 a3 a4 a5 n=wz a2 a5 n/\TkT (zlI a2) a5 n:=by
 have q:=h;unfold xpB at q;rw[Zb]at q;exact⟨q.1,by unfold xpA;rw[VJ h],za q.1⟩
def IE (h:tkB (zlI a2) a5 n=true):0<=wz a2 a5 n/\wz a2 a5 n+n<=a2.length/\1<=n/\(a2.length:Int)<=32:=by
 have T:=za h;have e:wz a2 a5 n=ag a5 (dQ a5 n) 0:=by unfold wz tkA;rw[VJ h]
 have q1:=T.a0;have q2:=T.l0;have q3:=T.e;have q4:=T.p0;have q5:=T.n0;unfold zlI at q3 q4;omega
end
end Go.V
namespace Go.V
def kwU (k:Bool)(us es:af)(c:Int)(rs:af)(p:Int):af:=if k=true then DU us es c rs p else us
def kwE (k:Bool)(us es:af)(c:Int)(rs:af)(p:Int):af:=if k=true then Cn us es c rs p else es
def kwB (k:Bool)(us es:af)(c:Int)(rs:af)(p:Int):Bool:=k&&sX us es c rs p
section
variable {cs us es rs: af} {c p n: Int}
def rV (h:sX us es c rs p=false):us=kwU true us es c rs p/\es=kwE true us es c rs p/\false=kwB true us es c rs p:=by
 have q:=acD h;refine⟨?_,?_,?_⟩
 ·unfold kwU;rw[VJ rfl,q.1]
 ·unfold kwE;rw[VJ rfl,q.2]
 ·unfold kwB;rw[h];rfl
def Og (h:sX us es c rs p=true):us.set (dC us).toNat [.v (.bool true)]=kwU true us es c rs p/\wB es p 2 (dC us)=kwE true us es c rs p/\true=kwB true us es c rs p:=by
 have q:=acE h;refine⟨?_,?_,?_⟩
 ·unfold kwU;rw[VJ rfl,q.1]
 ·unfold kwE;rw[VJ rfl,q.2]
 ·unfold kwB;rw[h];rfl
def Od (h:kerOk cs us es c rs=true):framesOk cs us=true:=by
 unfold kerOk at h;simp only[Zb]at h;exact(D4 h.1.1).1
def RO (f:framesOk cs us=true)(h:ftB cs us=true):ftU cs us=us.set (dC us).toNat [.v (.bool true)]/\ftI cs us=dC us/\0<=dC us/\dC us<us.length:=by
 have q:=RN h;have b:=ug (us:=us);exact⟨q.2.2.2,q.2.2.1,Uc,Uc⟩
def RP (f:framesOk cs us=true)(h:ftB cs us=false):dC us<0:=by
 unfold ftB at h;rw[f,YW]at h;have:=of_decide_eq_false h;omega
def Tp (h:nhR rs c=false):hasB rs c=true:=by unfold nhR at h;simpa using h
def Tq (h:nhR rs c=true):hasB rs c=false:=by unfold nhR at h;simpa using h
def acY (h:mapB es p=false):peM es p=0:=by unfold mapB at h;have:=of_decide_eq_false h;omega
def aav {m f:Int}(h:Rw [tI,tI] es)(p0:0<=p)(p1:p<es.length):oJ (.s 2 es) [(p.toNat,0)] [.i m,.i f]=wB es p m f:=by
 unfold wB;exact mC (by rw[h.eta p0 p1];rfl)
def pJ {rs o:af}{a:Int}{b:Bool}(h1:tkL p rs n=o/\tkA p rs n=a)(h2:tkB p rs n=b):[DV.one (.s 2 o),DV.j a,DV.k b]=[DV.one (.s 2 (tkL p rs n)),DV.j (tkA p rs n),DV.k (tkB p rs n)]:=by rw[h1.1,h1.2,h2]
def Mo {o:af}{n:Int}(h:Rw [tI,tI] o)(n0:0<=n)(n1:n<o.length):∃ rec o',bP (.s 2 o) [(n.toNat,0)]=some (rec,o')/\o'+2<=rec.length:=fv Uc (by
 rw[h.eta n0 n1];exact Zf _)
def aau {x y:Int}(h:Rw [tI,tI] rs)(p0:0<=p)(p1:p<rs.length):oJ (.s 2 rs) [(p.toNat,0)] [.i x,.i y]=rs.set p.toNat [.i x,.i y]:=aav h p0 p1
def aaL {b x y z:Int}{rs:af}(h:Rw [tI,tI] rs)(b0:0<=b)(b1:b<rs.length)(e:ag rs b 1=y)(hx: -9223372036854775808<=x/\x<=9223372036854775807):oJ (.s 2 (oJ (.s 2 rs) [(b.toNat,0)] [.i x])) [(b.toNat,1)] [.i z]=rs.set b.toNat [.i x,.i z]/\ag (oJ (.s 2 rs) [(b.toNat,0)] [.i x]) b 1=y/\oJ (.s 2 rs) [(b.toNat,0)] [.i x]=rs.set b.toNat [.i x,.i y]:=by
 have u:=aaW (x:=.int Za x) h b0 b1;rw[e]at u;have yb: -9223372036854775808<=y/\y<=9223372036854775807:=e▸sV h (j:=1) rfl Uc;have r:Rw [tI,tI] (rs.set b.toNat [.i x,.i y]):=Rw.set h (show bU [tI,tI] [.i x,.i y]from⟨⟨rfl,hx⟩,⟨rfl,yb⟩,trivial⟩) _;have g:(rs.set b.toNat [.i x,.i y]).getD b.toNat []=[.i x,.i y]:=by rw[lz Uc,VJ rfl]
 have g0:ag (rs.set b.toNat [.i x,.i y]) b 0=x:=by unfold ag;rw[g];rfl
 have g1:ag (rs.set b.toNat [.i x,.i y]) b 1=y:=by unfold ag;rw[g];rfl
 rw[u];refine⟨?_,g1,rfl⟩;rw[aaX r b0 (by rw[ZD];exact b1),g0,List.set_set]
structure TkU (rs:af)(n:Int):Prop where
 g0:yM (.s 2 rs) [((dQ rs n).toNat,0)]=ag rs (dQ rs n) 0
 u1:oJ (.s 2 rs) [((dQ rs n).toNat,0)] [.i (ag rs (dQ rs n) 0+n)]=rs.set (dQ rs n).toNat [.i (ag rs (dQ rs n) 0+n),.i (ag rs (dQ rs n) 1)]
 g1:yM (.s 2 (rs.set (dQ rs n).toNat [.i (ag rs (dQ rs n) 0+n),.i (ag rs (dQ rs n) 1)])) [((dQ rs n).toNat,1)]=ag rs (dQ rs n) 1
 u2:oJ (.s 2 (rs.set (dQ rs n).toNat [.i (ag rs (dQ rs n) 0+n),.i (ag rs (dQ rs n) 1)])) [((dQ rs n).toNat,1)] [.i (ag rs (dQ rs n) 1-n)]=rs.set (dQ rs n).toNat [.i (ag rs (dQ rs n) 0+n),.i (ag rs (dQ rs n) 1-n)]
 g2:yM (.s 2 (rs.set (dQ rs n).toNat [.i (ag rs (dQ rs n) 0+n),.i (ag rs (dQ rs n) 1-n)])) [((dQ rs n).toNat,1)]=ag rs (dQ rs n) 1-n
 w1:Rw [tI,tI] (rs.set (dQ rs n).toNat [.i (ag rs (dQ rs n) 0+n),.i (ag rs (dQ rs n) 1)])
 w2:Rw [tI,tI] (rs.set (dQ rs n).toNat [.i (ag rs (dQ rs n) 0+n),.i (ag rs (dQ rs n) 1-n)])
 l:dQ rs n<(rs.set (dQ rs n).toNat [.i (ag rs (dQ rs n) 0+n),.i (ag rs (dQ rs n) 1)]).length
 l2:dQ rs n<(rs.set (dQ rs n).toNat [.i (ag rs (dQ rs n) 0+n),.i (ag rs (dQ rs n) 1-n)]).length
def adz (h:Rw [tI,tI] rs)(T:TkT p rs n):TkU rs n:=by
 have t0:=T.i0;have t1:=T.i1;have a:=T.a0;have b:=T.l0;have c:=T.e;have d:=T.p0;have e:=T.n0;have hx: -9223372036854775808<=ag rs (dQ rs n) 0+n/\ag rs (dQ rs n) 0+n<=9223372036854775807:=⟨Uc,Uc⟩;have q:=aaL (x:=ag rs (dQ rs n) 0+n) (z:=ag rs (dQ rs n) 1-n) h t0 t1 rfl hx;have w:∀ y:Int,-9223372036854775808<=y->y<=9223372036854775807->Rw [tI,tI] (rs.set (dQ rs n).toNat [.i (ag rs (dQ rs n) 0+n),.i y]):=fun y y0 y1=>Rw.set h (show bU [tI,tI] [.i (ag rs (dQ rs n) 0+n),.i y]from⟨⟨rfl,hx⟩,⟨rfl,⟨y0,y1⟩⟩,trivial⟩) _
 refine⟨lG t0,q.2.2,?_,?_,?_,w _ Uc Uc,w _ Uc Uc,by rw[ZD];exact t1,by rw[ZD];exact t1⟩
 ·rw[lG t0, <-q.2.2];exact q.2.1
 ·rw[<-q.2.2];exact q.1
 ·rw[lG t0];unfold ag;rw[lz Uc,VJ rfl];rfl
def PU {b x y:Int}{rs:af}(b0:0<=b):delL (rs.set b.toNat [.i x,.i y]) b (b+1)=wP rs b:=JA (rs:=rs) b0
end
end Go.V
namespace Go.V
def E7 (rs:af)(j:Nat)(x i:Int):Bool:=decide (x<=ag rs i j)
def E6 (rs:af)(j:Nat)(x:Int):Int:=if cQ (E7 rs j x) rs.length<0 then rs.length else cQ (E7 rs j x) rs.length
section
variable {rs: af} {j: Nat} {x i: Int}
def Ha:0<=E6 rs j x/\E6 rs j x<=rs.length:=by
 have h:=qn (p:=E7 rs j x) (n:=rs.length);unfold E6;split;omega;omega
def Oi (h:upto (cI (E7 rs j x)) i)(c:ag rs i j<x):upto (cI (E7 rs j x)) (i+1):=bL h (fE (VH Uc))
def DW (h:upto (cI (E7 rs j x)) i)(i0:0<=i)(i1:i<rs.length)(c:x<=ag rs i j):i=E6 rs j x:=by
 have e:=dB (n:=rs.length) h i0 Uc (VG c);unfold E6;rw[e,VK Uc]
def yA (h:upto (cI (E7 rs j x)) i)(i1:i<=rs.length)(i2:(rs.length:Int)<=i):i=E6 rs j x:=by
 have e:=dL (n:=rs.length) h Uc;unfold E6;rw[e,VJ Uc];omega
end
def inL (es:af)(i:Int)(x:af):af:=es.take i.toNat++(x++es.drop i.toNat)
section
variable {es x: af} {i: Int} {fs: List Ty}
def Ce:(inL es i x).length=es.length+x.length:=by unfold inL;simp only[Zh,Zi,Zo];omega
def Sw (h:Rw fs es)(hx:Rw fs x)(b:es.length+x.length<=maxLen):Rw fs (inL es i x):=by
 refine⟨by rw[Ce];exact b,fun e he=>?_⟩;unfold inL at he;rcases Zg.1 he with q|q;exact h.2 e (Xm q)
 ·rcases Zg.1 q with q|q;exact hx.2 e q;exact h.2 e (Yu q)
def Sv:[]++es.take i.toNat++x++es.drop i.toNat=inL es i x:=by unfold inL;simp
def N8 (i0:0<=i)(i1:i<=es.length):[]++oU es (YS 0) (FD i 0)++x++oU es i.toNat (FD (es.length:Int) i)=inL es i x:=by rw[uq,Et i0 i1];exact Sv
end
def wiN (b i:Int):Int:=if slB b i=true then bK .or Za b (IW .shl Za 1 i)else b
def aa1 {n b i:Int}(h:bmOk n b=true)(i0:0<=i)(i1:i<n):bmOk n (wiN b i)=true:=by
 unfold bmOk at h;rw[Zb]at h;have q1:=bB.1 h.1;have q2:=bB.1 h.2;have p:(2:Int)^n.toNat=((2^n.toNat:Nat):Int):=by rw[Int.natCast_pow];rfl
 have p16:2^n.toNat<=2^16:=Nat.pow_le_pow_right Uc Uc;obtain⟨N,hN⟩:∃ N:Nat,N=2^n.toNat:=⟨_,rfl⟩;rw[<-hN]at p p16;rw[p]at q2;obtain⟨m,rfl⟩:=Yh q2.1;obtain⟨k,rfl⟩:=Yh i0;have w:wiN (m:Int) (k:Int)=bK .or Za (m:Int) ((2^k:Nat):Int):=by unfold wiN;rw[VJ (PI.2 ⟨q2.1,i0,Uc⟩),aax Uc]
 have e:Q0 (m:Int)|||Q0 ((2^k:Nat):Int)=BitVec.ofNat 64 (m|||2^k):=by
  unfold Q0;rw[WH,WH,BitVec.ofNat_or]
 have l:m|||2^k<N:=by rw[hN];exact Nat.or_lt_two_pow (by rw[<-hN];omega) (Nat.pow_lt_pow_right Uc Uc)
 have v:wiN (m:Int) (k:Int)=((m|||2^k:Nat):Int):=by
  rw[w,TS,e,BitVec.toInt_eq_toNat_of_lt (by rw[WI];omega),WI];omega
 unfold bmOk;rw[h.1,v,p,YW];exact bB.2 (show(0:Int)<=((m|||2^k:Nat):Int)/\((m|||2^k:Nat):Int)<=(N:Int)-1 from⟨Uc,Uc⟩)
def B7 {b:Int}:∀ {k:Nat} {j:Int},0<=j->j<(As b k).length->0<=ag (As b k) j 0/\ag (As b k) j 0<k
 |0,j,h0,h1=>absurd h1 (by show¬ j<((0:Nat):Int);omega)
 | k+1,j,h0,h1=>by
   unfold As at h1 ⊢;split at h1<;>rename_i c
   ·rw[VJ c];have:=B7 h0 h1;omega
   ·rw[VK c];rw[Zh]at h1;simp only[Zr,Zs]at h1;by_cases q:j<(As b k).length
    ·have:=B7 h0 q;obtain⟨m,rfl⟩:=Yh h0;rw[RX Uc];omega
    ·obtain rfl:j=((As b k).length:Int):=by omega
     rw[RY];show 0<=(k:Int)/\(k:Int)<((k+1:Nat):Int);omega
def oO (a2 a6:af)(i:Int):af:=frL (slN (ag a6 i 1)) (ubB a2 a6 i)
def xcB (a2 a6:af)(i:Int):Bool:=decide (0<(oO a2 a6 i).length)
def oq (a2 a6:af)(s i:Int):Int:=ag (oO a2 a6 i) (cuI s (oO a2 a6 i).length) 0
def xcS (a2 a6:af)(s i:Int):af:=if xcB a2 a6 i=true then a6.set i.toNat [.i (ag a6 i 0),.i (ag a6 i 1),.i (wiN (ag a6 i 2) (oq a2 a6 s i))]else a6
def xcD (a2 a6:af)(s i:Int):Int:=if xcB a2 a6 i=true then cuS s (oO a2 a6 i).length else s
def xcA (a2 a6:af)(s i:Int):Int:=if xcB a2 a6 i=true then aaI (ag a6 i 0) (ag a6 i 1) (ag a6 i 2) (oq a2 a6 s i)else-1
section
variable {a2 a6: af} {s i: Int}
def K4 (h:(oO a2 a6 i).length=0):xcB a2 a6 i=false/\xcS a2 a6 s i=a6/\xcD a2 a6 s i=s/\xcA a2 a6 s i= -1:=by
 have b:xcB a2 a6 i=false:=VH Uc;refine⟨b,?_,?_,?_⟩
 ·unfold xcS;rw[b];rfl
 ·unfold xcD;rw[b];rfl
 ·unfold xcA;rw[b];rfl
def K5 (h:¬ (oO a2 a6 i).length=0):xcB a2 a6 i=true/\xcS a2 a6 s i=a6.set i.toNat [.i (ag a6 i 0),.i (ag a6 i 1),.i (wiN (ag a6 i 2) (oq a2 a6 s i))]/\xcD a2 a6 s i=cuS s (oO a2 a6 i).length/\xcA a2 a6 s i=aaI (ag a6 i 0) (ag a6 i 1) (ag a6 i 2) (oq a2 a6 s i):=by
 have b:xcB a2 a6 i=true:=VG Uc;refine⟨b,?_,?_,?_⟩
 ·unfold xcS;rw[VJ b]
 ·unfold xcD;rw[VJ b]
 ·unfold xcA;rw[VJ b]
structure XcT (a2 a6:af)(s i:Int):Prop where
 l0:1<=(oO a2 a6 i).length
 l1:(oO a2 a6 i).length<=16
 k0:0<=cuI s (oO a2 a6 i).length
 k1:cuI s (oO a2 a6 i).length<(oO a2 a6 i).length
 t0:0<=oq a2 a6 s i
 t1:oq a2 a6 s i<slN (ag a6 i 1)
 n:slN (ag a6 i 1)<=16
 sp:spOk (ag a6 i 0) (ag a6 i 1) (wiN (ag a6 i 2) (oq a2 a6 s i))=true
 a0:0<=aaI (ag a6 i 0) (ag a6 i 1) (ag a6 i 2) (oq a2 a6 s i)
 a1:aaI (ag a6 i 0) (ag a6 i 1) (ag a6 i 2) (oq a2 a6 s i)<=511
 aa:aaI (ag a6 i 0) (ag a6 i 1) (wiN (ag a6 i 2) (oq a2 a6 s i)) (oq a2 a6 s i)=aaI (ag a6 i 0) (ag a6 i 1) (ag a6 i 2) (oq a2 a6 s i)
 w: -9223372036854775808<=wiN (ag a6 i 2) (oq a2 a6 s i)/\wiN (ag a6 i 2) (oq a2 a6 s i)<=9223372036854775807
 d:inR (cuS s (oO a2 a6 i).length) 0 1073741823=true
def ED (hs:spOk (ag a6 i 0) (ag a6 i 1) (ag a6 i 2)=true)(hd:inR s 0 1073741823=true)(h:¬ (oO a2 a6 i).length=0):XcT a2 a6 s i:=by
 have t:=oT hs;have c:=lq t.2.2.1;have l:(oO a2 a6 i).length<=16:=by
  unfold oO frL;split
  ·have:=uf (b:=ubB a2 a6 i) (slN (ag a6 i 1)).toNat;omega
  ·simp
 have k:=Rp (n:=(oO a2 a6 i).length) hd Uc Uc;have g:0<=oq a2 a6 s i/\oq a2 a6 s i<slN (ag a6 i 1):=by
  have e:oO a2 a6 i=As (ubB a2 a6 i) (slN (ag a6 i 1)).toNat:=by
   have q:bmOk (slN (ag a6 i 1)) (ubB a2 a6 i)=true:=by
    cases q:bmOk (slN (ag a6 i 1)) (ubB a2 a6 i)with
    |true=>rfl
    |false=>exact absurd (by unfold oO frL;rw[q];rfl) h
   unfold oO frL;rw[VJ q]
  have q:=B7 (b:=ubB a2 a6 i) (k:=(slN (ag a6 i 1)).toNat) (j:=cuI s (oO a2 a6 i).length) k.1 (by rw[<-e];exact k.2.1);rw[<-e]at q;unfold oq;omega
 have w:=aa1 t.2.2.2 g.1 g.2;have sp:spOk (ag a6 i 0) (ag a6 i 1) (wiN (ag a6 i 2) (oq a2 a6 s i))=true:=by unfold spOk;rw[bB.2 ⟨t.1,t.2.1⟩,w];rfl
 have r:inR (oq a2 a6 s i) 0 (slN (ag a6 i 1)-1)=true:=bB.2 ⟨g.1,Uc⟩;have bb:=abA w;have m1:0<=oq a2 a6 s i*clsSz (ag a6 i 1):=Int.mul_nonneg g.1 Uc;have m2:oq a2 a6 s i*clsSz (ag a6 i 1)<=(slN (ag a6 i 1)-1)*clsSz (ag a6 i 1):=Int.mul_le_mul_of_nonneg_right Uc Uc;have m3:(slN (ag a6 i 1)-1)*clsSz (ag a6 i 1)=16-clsSz (ag a6 i 1):=by rw[Int.sub_mul,c.2.2.2.2,X0]
 have e1:aaI (ag a6 i 0) (ag a6 i 1) (ag a6 i 2) (oq a2 a6 s i)=ag a6 i 0*16+oq a2 a6 s i*clsSz (ag a6 i 1):=by unfold aaI I7;rw[hs,r];rfl
 have e2:aaI (ag a6 i 0) (ag a6 i 1) (wiN (ag a6 i 2) (oq a2 a6 s i)) (oq a2 a6 s i)=ag a6 i 0*16+oq a2 a6 s i*clsSz (ag a6 i 1):=by unfold aaI I7;rw[sp,r];rfl
 exact⟨Uc,l,k.1,k.2.1,g.1,g.2,c.2.2.2.1,sp,Uc,Uc,by rw[e1,e2],⟨Uc,Uc⟩,k.2.2⟩
end
end Go.V
namespace Go.V
def isL (a6:af)(p k b:Int):af:=inL a6 (E6 a6 0 p) [[.i p,.i k,.i b]]
def isI (a6:af)(p:Int):Int:=E6 a6 0 p
def xsL (a1 a2:af)(a3:Int)(a4 a5 a6:af)(k:Int):af:=if xpB a1 a2 a3 a4 a5 1=true then isL a6 (xpA a1 a2 a3 a4 a5 1) k 0 else a6
def MC (a1 a2:af)(a3:Int)(a4 a5 a6:af)(k:Int):Int:=if xpB a1 a2 a3 a4 a5 1=true then isI a6 (xpA a1 a2 a3 a4 a5 1)else-1
def yT {o o':af}(h:o=o'):[DV.one (.s 1 o)]=[DV.one (.s 1 o')]:=by rw[h]
def QU {n b:Int}(h:bmOk n b=true):1<=n/\n<=16/\0<=b:=by
 unfold bmOk at h;rw[Zb]at h;have q1:=bB.1 h.1;have q2:=bB.1 h.2;omega
def NE {b i:Int}{o:af}(h:IK b i o)(i1:i<=16):Rw [tI] o:=by rw[h.e];exact yn _ Uc
def Lm {ls:af}{k:Int}(h:clB ls k=false):ctB ls k=false:=by unfold ctB;rw[h];rfl
def Ln {ls:af}{k:Int}(h:(aO ls k 0).length=0):ctB ls k=false:=by unfold ctB;rw[VH Uc,Yb]
def Rm {ls:af}{k:Int}(h:clB ls k=true)(n:¬ (aO ls k 0).length=0):ctL ls k=ls.set k.toNat [.s 1 ((aO ls k 0).take ((aO ls k 0).length-1))]/\ctA ls k=ag (aO ls k 0) ((aO ls k 0).length-1) 0/\ctB ls k=true:=by
 have b:ctB ls k=true:=by unfold ctB;rw[h,VG Uc];rfl
 have q:=Rl b;exact⟨q.1,q.2,b⟩
def H6 {l:af}{i:Int}:oU l 0 (FD i 0)=l.take i.toNat:=uq
def adA {n:Nat}:((n:Int)-1).toNat=n-1:=by omega
end Go.V
namespace Go.V
section
variable {a0 a1 a2 a4 a5 a6 u e: af} {a3 t i k s n: Int}
def abv (hk:kerOk a0 a1 a2 a3 a4=true)(P:zZ a0 a1 a2 a3 a4 t i u e)(c0:0<=a3)(c1:a3<=90000)(i0:0<=i)(i1:i<=32):ccB a0 u e (a3+i) a4=true:=by
 rw[Ga Uc];exact yx P.m Uc Uc (lA hk).2.2.2
def P6 (rc:Rw [.sl [tI]] a0)(P:zZ a0 a1 a2 a3 a4 t i u e):bC a0<=1024/\bC u<=64/\bC e<=64:=yC P.m rc P.ru P.re
def acH {c:Int}:kqN true c=c+1:=by unfold kqN;rw[VJ rfl]
def aaH {o:af}{n:Int}{j:Nat}(h:Rw [tI,tI,tI] o)(n0:0<=n)(n1:n<o.length)(hj:j<3):∃ rec o',bP (.s 3 o) [(n.toNat,j)]=some (rec,o')/\o'+1<=rec.length:=fv Uc (by
 rw[h.eta n0 n1];show j+1<=3;omega)
def SQ {o:af}{n:Int}(h:Rw [tI] o)(n0:0<=n)(n1:n<o.length):∃ rec o',bP (L.s 1 o) [(n.toNat,0)]=some (rec,o')/\o'+[L.v (Zq ZH 0)].length<=rec.length/\Yo [L.v (Zq ZH 0)].length (YA o' rec)=ka am (L.s 1 o) [(n.toNat,0)] 0 [L.v (Zq ZH 0)]:=
 eA (z0:=[.i 0]) (z:=[.i 0]) h.wf Uc rfl (by decide)
def NA {n b:Int}:Rw [tI] (frL n b):=by
 unfold frL;split
 ·rename_i c;have:=QU c;exact yn _ Uc
 ·exact Rw.nil
def XcT.r (_:XcT a2 a6 s i):Rw [tI] (oO a2 a6 i):=NA
structure XcU (a2 a6:af)(s i:Int):Prop where
 u:oJ (.s 3 a6) [(i.toNat,2)] [.i (wiN (ag a6 i 2) (oq a2 a6 s i))]=a6.set i.toNat [.i (ag a6 i 0),.i (ag a6 i 1),.i (wiN (ag a6 i 2) (oq a2 a6 s i))]
 g0:yM (.s 3 (a6.set i.toNat [.i (ag a6 i 0),.i (ag a6 i 1),.i (wiN (ag a6 i 2) (oq a2 a6 s i))])) [(i.toNat,0)]=ag a6 i 0
 g1:yM (.s 3 (a6.set i.toNat [.i (ag a6 i 0),.i (ag a6 i 1),.i (wiN (ag a6 i 2) (oq a2 a6 s i))])) [(i.toNat,1)]=ag a6 i 1
 g2:yM (.s 3 (a6.set i.toNat [.i (ag a6 i 0),.i (ag a6 i 1),.i (wiN (ag a6 i 2) (oq a2 a6 s i))])) [(i.toNat,2)]=wiN (ag a6 i 2) (oq a2 a6 s i)
 w:Rw [tI,tI,tI] (a6.set i.toNat [.i (ag a6 i 0),.i (ag a6 i 1),.i (wiN (ag a6 i 2) (oq a2 a6 s i))])
 l:i<(a6.set i.toNat [.i (ag a6 i 0),.i (ag a6 i 1),.i (wiN (ag a6 i 2) (oq a2 a6 s i))]).length
def adM (h:Rw [tI,tI,tI] a6)(i0:0<=i)(i1:i<a6.length)(X:XcT a2 a6 s i):XcU a2 a6 s i:=by
 have g:∀ r:ax,(a6.set i.toNat r).getD i.toNat []=r:=fun r=>by rw[lz Uc,VJ rfl]
 refine⟨?_,?_,?_,?_,aaq h (sV h (j:=0) rfl Uc) (sV h (j:=1) rfl Uc) X.w,by rw[ZD];exact i1⟩
 ·unfold oJ lK rowOf;rw[h.eta i0 i1];rfl
 ·rw[lG i0];unfold ag;rw[g];rfl
 ·rw[lG i0];unfold ag;rw[g];rfl
 ·rw[lG i0];unfold ag;rw[g];rfl
def MA (ht:wz a2 a5 n=t)(h:tkB (zlI a2) a5 n=true)(p:zZ a0 a1 a2 a3 a4 t i u e)(i0:0<=i)(i1:n<=i)(i2:i<=n):xpC a0 a1 a2 a3 a4 a5 n=a0/\xpU a0 a1 a2 a3 a4 a5 n=u/\xpE a0 a1 a2 a3 a4 a5 n=e/\xpK a1 a2 a3 a4 a5 n=a3+i/\xpF a1 a2 a3 a4 a5 n=tkL (zlI a2) a5 n/\xpA a1 a2 a3 a4 a5 n=t/\xpB a1 a2 a3 a4 a5 n=true:=by
 subst ht;have q:=adS h p i0 i1 i2;rw[show a3+n=a3+i by omega]at q;exact q
def My {p:Int}{v w x:af}(ht:wz a2 a5 n=t)(h:tkB (zlI a2) a5 n=true)(P:zZ a0 a1 a2 a3 a4 t i u e)(i0:0<=i)(i1:i<n)(g:sX u e (a3+i) a4 (t+i)=false)(D:FA a0 u e t p v w x)(p1:p<=t+i)(p2:t+i<=p):xpC a0 a1 a2 a3 a4 a5 n=v/\xpU a0 a1 a2 a3 a4 a5 n=w/\xpE a0 a1 a2 a3 a4 a5 n=x/\xpK a1 a2 a3 a4 a5 n=a3+i+1/\xpF a1 a2 a3 a4 a5 n=a5/\xpA a1 a2 a3 a4 a5 n= -1/\xpB a1 a2 a3 a4 a5 n=false:=by
 subst ht;have q:=adR h P i0 i1 g;have d:=DG (l:=i) D p2 p1;rw[<-d.1, <-d.2.1, <-d.2.2]at q;exact q
def abu {v w x:af}{c:Int}(hk:kerOk a0 a1 a2 a3 a4=true)(m:kJ v w x)(c0:0<=c)(c1:c<100000):ccB v w x c a4=true:=by
 rw[Ga Uc];exact yx m Uc Uc (lA hk).2.2.2
def adU (P:zZ a0 a1 a2 a3 a4 t i u e)(i0:0<=i)(g:kwB true u e (a3+i) a4 (t+i)=true):zZ a0 a1 a2 a3 a4 t (i+1) (kwU true u e (a3+i) a4 (t+i)) (kwE true u e (a3+i) a4 (t+i)):=P8 P i0 g
def adT (rc:Rw [.sl [tI]] a0)(P:zZ a0 a1 a2 a3 a4 t i u e)(g:kwB true u e (a3+i) a4 (t+i)=false):FA a0 u e t t a0 (kwU true u e (a3+i) a4 (t+i)) (kwE true u e (a3+i) a4 (t+i)):=by
 have w:=rV (show sX u e (a3+i) a4 (t+i)=false from g);rw[<-w.1, <-w.2.1];exact Gt P.m rc P.ru P.re
end
end Go.V
namespace Go.V
def Br (a2 a6:af)(aI:Bool)(aJ aK k i:Int):Bool:=eqB (ag a6 i 1) k&&(!bsB aI aJ aK (ag a6 i 0)&&xcB a2 a6 i)
def EE (a2 a6:af)(aI:Bool)(aJ aK k:Int):Int:=cQ (Br a2 a6 aI aJ aK k) a6.length
def uw (a1 a2:af)(a3:Int)(a4 a5 a6 a9:af)(aI:Bool)(aJ aK t k:Int):Nat:=if ctB (aO a9 t 0) k=true then 0 else if 0<=EE a2 a6 aI aJ aK k then 1 else if xpB a1 a2 a3 a4 a5 1=true then 3 else 2
def xmC (a0 a1 a2:af)(a3:Int)(a4 a5 a6 a9:af)(aE:Int)(aI:Bool)(aJ aK t k:Int):af:=if 2<=uw a1 a2 a3 a4 a5 a6 a9 aI aJ aK t k then xpC a0 a1 a2 a3 a4 a5 1 else a0
def xmU (a0 a1 a2:af)(a3:Int)(a4 a5 a6 a9:af)(aE:Int)(aI:Bool)(aJ aK t k:Int):af:=if 2<=uw a1 a2 a3 a4 a5 a6 a9 aI aJ aK t k then xpU a0 a1 a2 a3 a4 a5 1 else a1
def xmE (a0 a1 a2:af)(a3:Int)(a4 a5 a6 a9:af)(aE:Int)(aI:Bool)(aJ aK t k:Int):af:=if 2<=uw a1 a2 a3 a4 a5 a6 a9 aI aJ aK t k then xpE a0 a1 a2 a3 a4 a5 1 else a2
def xmF (a0 a1 a2:af)(a3:Int)(a4 a5 a6 a9:af)(aE:Int)(aI:Bool)(aJ aK t k:Int):af:=if 2<=uw a1 a2 a3 a4 a5 a6 a9 aI aJ aK t k then xpF a1 a2 a3 a4 a5 1 else a5
def xmK (a0 a1 a2:af)(a3:Int)(a4 a5 a6 a9:af)(aE:Int)(aI:Bool)(aJ aK t k:Int):Int:=if 2<=uw a1 a2 a3 a4 a5 a6 a9 aI aJ aK t k then xpK a1 a2 a3 a4 a5 1 else a3
def xmS (a0 a1 a2:af)(a3:Int)(a4 a5 a6 a9:af)(aE:Int)(aI:Bool)(aJ aK t k:Int):af:=if uw a1 a2 a3 a4 a5 a6 a9 aI aJ aK t k=1 then xcS a2 a6 aE (EE a2 a6 aI aJ aK k)else if uw a1 a2 a3 a4 a5 a6 a9 aI aJ aK t k=3 then xcS (xpE a0 a1 a2 a3 a4 a5 1) (isL a6 (xpA a1 a2 a3 a4 a5 1) k 0) aE (isI a6 (xpA a1 a2 a3 a4 a5 1))else a6
def xmD (a0 a1 a2:af)(a3:Int)(a4 a5 a6 a9:af)(aE:Int)(aI:Bool)(aJ aK t k:Int):Int:=if uw a1 a2 a3 a4 a5 a6 a9 aI aJ aK t k=1 then xcD a2 a6 aE (EE a2 a6 aI aJ aK k)else if uw a1 a2 a3 a4 a5 a6 a9 aI aJ aK t k=3 then xcD (xpE a0 a1 a2 a3 a4 a5 1) (isL a6 (xpA a1 a2 a3 a4 a5 1) k 0) aE (isI a6 (xpA a1 a2 a3 a4 a5 1))else aE
def xmX (a0 a1 a2:af)(a3:Int)(a4 a5 a6 a9:af)(aE:Int)(aI:Bool)(aJ aK t k:Int):af:=if uw a1 a2 a3 a4 a5 a6 a9 aI aJ aK t k=0 then a9.set t.toNat [.s 1 (ctL (aO a9 t 0) k)]else a9
def xmA (a0 a1 a2:af)(a3:Int)(a4 a5 a6 a9:af)(aE:Int)(aI:Bool)(aJ aK t k:Int):Int:=if uw a1 a2 a3 a4 a5 a6 a9 aI aJ aK t k=0 then ctA (aO a9 t 0) k else if uw a1 a2 a3 a4 a5 a6 a9 aI aJ aK t k=1 then xcA a2 a6 aE (EE a2 a6 aI aJ aK k)else if uw a1 a2 a3 a4 a5 a6 a9 aI aJ aK t k=3 then xcA (xpE a0 a1 a2 a3 a4 a5 1) (isL a6 (xpA a1 a2 a3 a4 a5 1) k 0) aE (isI a6 (xpA a1 a2 a3 a4 a5 1))else-1
def xmB (a0 a1 a2:af)(a3:Int)(a4 a5 a6 a9:af)(aE:Int)(aI:Bool)(aJ aK t k:Int):Bool:=if uw a1 a2 a3 a4 a5 a6 a9 aI aJ aK t k=0 then true else if uw a1 a2 a3 a4 a5 a6 a9 aI aJ aK t k=1 then true else if uw a1 a2 a3 a4 a5 a6 a9 aI aJ aK t k=3 then xcB (xpE a0 a1 a2 a3 a4 a5 1) (isL a6 (xpA a1 a2 a3 a4 a5 1) k 0) (isI a6 (xpA a1 a2 a3 a4 a5 1))else false
section
variable {a0 a1 a2: af} {a3: Int} {a4 a5 a6 a7 a8 a9 aA aB aD aL: af} {aC aE aF aG aH: Int} {aI: Bool} {aJ aK aM aN t k i z: Int}
def abh (h:ctB (aO a9 t 0) k=true):xmC a0 a1 a2 a3 a4 a5 a6 a9 aE aI aJ aK t k=a0/\xmU a0 a1 a2 a3 a4 a5 a6 a9 aE aI aJ aK t k=a1/\xmE a0 a1 a2 a3 a4 a5 a6 a9 aE aI aJ aK t k=a2/\xmK a0 a1 a2 a3 a4 a5 a6 a9 aE aI aJ aK t k=a3/\xmF a0 a1 a2 a3 a4 a5 a6 a9 aE aI aJ aK t k=a5/\xmS a0 a1 a2 a3 a4 a5 a6 a9 aE aI aJ aK t k=a6/\xmX a0 a1 a2 a3 a4 a5 a6 a9 aE aI aJ aK t k=a9.set t.toNat [.s 1 (ctL (aO a9 t 0) k)]/\xmD a0 a1 a2 a3 a4 a5 a6 a9 aE aI aJ aK t k=aE/\xmA a0 a1 a2 a3 a4 a5 a6 a9 aE aI aJ aK t k=ctA (aO a9 t 0) k/\xmB a0 a1 a2 a3 a4 a5 a6 a9 aE aI aJ aK t k=true:=by
 have q:uw a1 a2 a3 a4 a5 a6 a9 aI aJ aK t k=0:=by unfold uw;rw[VJ h]
 refine⟨?_,?_,?_,?_,?_,?_,?_,?_,?_,?_⟩
 ·unfold xmC;rw[q];rfl
 ·unfold xmU;rw[q];rfl
 ·unfold xmE;rw[q];rfl
 ·unfold xmK;rw[q];rfl
 ·unfold xmF;rw[q];rfl
 ·unfold xmS;rw[q];rfl
 ·unfold xmX;rw[q];rfl
 ·unfold xmD;rw[q];rfl
 ·unfold xmA;rw[q];rfl
 ·unfold xmB;rw[q];rfl
def abi (h:ctB (aO a9 t 0) k=false)(i0:0<=i)(e:EE a2 a6 aI aJ aK k=i):xmC a0 a1 a2 a3 a4 a5 a6 a9 aE aI aJ aK t k=a0/\xmU a0 a1 a2 a3 a4 a5 a6 a9 aE aI aJ aK t k=a1/\xmE a0 a1 a2 a3 a4 a5 a6 a9 aE aI aJ aK t k=a2/\xmK a0 a1 a2 a3 a4 a5 a6 a9 aE aI aJ aK t k=a3/\xmF a0 a1 a2 a3 a4 a5 a6 a9 aE aI aJ aK t k=a5/\xmS a0 a1 a2 a3 a4 a5 a6 a9 aE aI aJ aK t k=xcS a2 a6 aE i/\xmX a0 a1 a2 a3 a4 a5 a6 a9 aE aI aJ aK t k=a9/\xmD a0 a1 a2 a3 a4 a5 a6 a9 aE aI aJ aK t k=xcD a2 a6 aE i/\xmA a0 a1 a2 a3 a4 a5 a6 a9 aE aI aJ aK t k=xcA a2 a6 aE i/\xmB a0 a1 a2 a3 a4 a5 a6 a9 aE aI aJ aK t k=true:=by
 have q:uw a1 a2 a3 a4 a5 a6 a9 aI aJ aK t k=1:=by unfold uw;rw[h,VK (by decide),VJ Uc]
 refine⟨?_,?_,?_,?_,?_,?_,?_,?_,?_,?_⟩
 ·unfold xmC;rw[q];rfl
 ·unfold xmU;rw[q];rfl
 ·unfold xmE;rw[q];rfl
 ·unfold xmK;rw[q];rfl
 ·unfold xmF;rw[q];rfl
 ·unfold xmS;rw[q,e];rfl
 ·unfold xmX;rw[q];rfl
 ·unfold xmD;rw[q,e];rfl
 ·unfold xmA;rw[q,e];rfl
 ·unfold xmB;rw[q];rfl
def abj (h:ctB (aO a9 t 0) k=false)(i0:EE a2 a6 aI aJ aK k<0)(b:xpB a1 a2 a3 a4 a5 1=false):xmC a0 a1 a2 a3 a4 a5 a6 a9 aE aI aJ aK t k=xpC a0 a1 a2 a3 a4 a5 1/\xmU a0 a1 a2 a3 a4 a5 a6 a9 aE aI aJ aK t k=xpU a0 a1 a2 a3 a4 a5 1/\xmE a0 a1 a2 a3 a4 a5 a6 a9 aE aI aJ aK t k=xpE a0 a1 a2 a3 a4 a5 1/\xmK a0 a1 a2 a3 a4 a5 a6 a9 aE aI aJ aK t k=xpK a1 a2 a3 a4 a5 1/\xmF a0 a1 a2 a3 a4 a5 a6 a9 aE aI aJ aK t k=xpF a1 a2 a3 a4 a5 1/\xmS a0 a1 a2 a3 a4 a5 a6 a9 aE aI aJ aK t k=a6/\xmX a0 a1 a2 a3 a4 a5 a6 a9 aE aI aJ aK t k=a9/\xmD a0 a1 a2 a3 a4 a5 a6 a9 aE aI aJ aK t k=aE/\xmA a0 a1 a2 a3 a4 a5 a6 a9 aE aI aJ aK t k= -1/\xmB a0 a1 a2 a3 a4 a5 a6 a9 aE aI aJ aK t k=false:=by
 have q:uw a1 a2 a3 a4 a5 a6 a9 aI aJ aK t k=2:=by unfold uw;rw[h,VK (by decide),VK Uc,b];rfl
 refine⟨?_,?_,?_,?_,?_,?_,?_,?_,?_,?_⟩
 ·unfold xmC;rw[q];rfl
 ·unfold xmU;rw[q];rfl
 ·unfold xmE;rw[q];rfl
 ·unfold xmK;rw[q];rfl
 ·unfold xmF;rw[q];rfl
 ·unfold xmS;rw[q];rfl
 ·unfold xmX;rw[q];rfl
 ·unfold xmD;rw[q];rfl
 ·unfold xmA;rw[q];rfl
 ·unfold xmB;rw[q];rfl
def abk (h:ctB (aO a9 t 0) k=false)(i0:EE a2 a6 aI aJ aK k<0)(b:xpB a1 a2 a3 a4 a5 1=true):xmC a0 a1 a2 a3 a4 a5 a6 a9 aE aI aJ aK t k=xpC a0 a1 a2 a3 a4 a5 1/\xmU a0 a1 a2 a3 a4 a5 a6 a9 aE aI aJ aK t k=xpU a0 a1 a2 a3 a4 a5 1/\xmE a0 a1 a2 a3 a4 a5 a6 a9 aE aI aJ aK t k=xpE a0 a1 a2 a3 a4 a5 1/\xmK a0 a1 a2 a3 a4 a5 a6 a9 aE aI aJ aK t k=xpK a1 a2 a3 a4 a5 1/\xmF a0 a1 a2 a3 a4 a5 a6 a9 aE aI aJ aK t k=xpF a1 a2 a3 a4 a5 1/\xmS a0 a1 a2 a3 a4 a5 a6 a9 aE aI aJ aK t k=xcS (xpE a0 a1 a2 a3 a4 a5 1) (isL a6 (xpA a1 a2 a3 a4 a5 1) k 0) aE (isI a6 (xpA a1 a2 a3 a4 a5 1))/\xmX a0 a1 a2 a3 a4 a5 a6 a9 aE aI aJ aK t k=a9/\xmD a0 a1 a2 a3 a4 a5 a6 a9 aE aI aJ aK t k=xcD (xpE a0 a1 a2 a3 a4 a5 1) (isL a6 (xpA a1 a2 a3 a4 a5 1) k 0) aE (isI a6 (xpA a1 a2 a3 a4 a5 1))/\xmA a0 a1 a2 a3 a4 a5 a6 a9 aE aI aJ aK t k=xcA (xpE a0 a1 a2 a3 a4 a5 1) (isL a6 (xpA a1 a2 a3 a4 a5 1) k 0) aE (isI a6 (xpA a1 a2 a3 a4 a5 1))/\xmB a0 a1 a2 a3 a4 a5 a6 a9 aE aI aJ aK t k=xcB (xpE a0 a1 a2 a3 a4 a5 1) (isL a6 (xpA a1 a2 a3 a4 a5 1) k 0) (isI a6 (xpA a1 a2 a3 a4 a5 1)):=by
 have q:uw a1 a2 a3 a4 a5 a6 a9 aI aJ aK t k=3:=by unfold uw;rw[h,VK (by decide),VK Uc,VJ b]
 refine⟨?_,?_,?_,?_,?_,?_,?_,?_,?_,?_⟩
 ·unfold xmC;rw[q];rfl
 ·unfold xmU;rw[q];rfl
 ·unfold xmE;rw[q];rfl
 ·unfold xmK;rw[q];rfl
 ·unfold xmF;rw[q];rfl
 ·unfold xmS;rw[q];rfl
 ·unfold xmX;rw[q];rfl
 ·unfold xmD;rw[q];rfl
 ·unfold xmA;rw[q];rfl
 ·unfold xmB;rw[q];rfl
end
def xlL (a1 a2:af)(a3:Int)(a4 a5 a7:af)(z:Int):af:=if xpB a1 a2 a3 a4 a5 (pfN z)=true then inL a7 (E6 a7 0 (xpA a1 a2 a3 a4 a5 (pfN z))) [[.i (xpA a1 a2 a3 a4 a5 (pfN z)),.i (pfN z),.i z]]else a7
def xlA (a1 a2:af)(a3:Int)(a4 a5:af)(z:Int):Int:=if xpB a1 a2 a3 a4 a5 (pfN z)=true then xpA a1 a2 a3 a4 a5 (pfN z)*16 else-1
def xaG (h:Bool)(a3:Int)(a8 a9:af)(aG aH t z:Int):Int:=if h=false\/aH=1000000\/90000<a3 then 5 else if inR t 0 (a9.length-1)=false then 1 else if inR z 1 1000=false then 2 else if aG<bK .add Za (lsI a8) z then 3 else 0
def xaO (h:Bool)(a3:Int)(a8 a9:af)(aG aH t z:Int):Bool:=decide (xaG h a3 a8 a9 aG aH t z=0)
def xaC (g:Bool)(a0 a1 a2:af)(a3:Int)(a4 a5 a6 a7 a9:af)(aE:Int)(aI:Bool)(aJ aK t z:Int):af:=if g=true then(if 0<=clsOf z then xmC a0 a1 a2 a3 a4 a5 a6 a9 aE aI aJ aK t (clsOf z)else xpC a0 a1 a2 a3 a4 a5 (pfN z))else a0
def xaU (g:Bool)(a0 a1 a2:af)(a3:Int)(a4 a5 a6 a7 a9:af)(aE:Int)(aI:Bool)(aJ aK t z:Int):af:=if g=true then(if 0<=clsOf z then xmU a0 a1 a2 a3 a4 a5 a6 a9 aE aI aJ aK t (clsOf z)else xpU a0 a1 a2 a3 a4 a5 (pfN z))else a1
def xaE (g:Bool)(a0 a1 a2:af)(a3:Int)(a4 a5 a6 a7 a9:af)(aE:Int)(aI:Bool)(aJ aK t z:Int):af:=if g=true then(if 0<=clsOf z then xmE a0 a1 a2 a3 a4 a5 a6 a9 aE aI aJ aK t (clsOf z)else xpE a0 a1 a2 a3 a4 a5 (pfN z))else a2
def xaK (g:Bool)(a0 a1 a2:af)(a3:Int)(a4 a5 a6 a7 a9:af)(aE:Int)(aI:Bool)(aJ aK t z:Int):Int:=if g=true then(if 0<=clsOf z then xmK a0 a1 a2 a3 a4 a5 a6 a9 aE aI aJ aK t (clsOf z)else xpK a1 a2 a3 a4 a5 (pfN z))else a3
def xaF (g:Bool)(a0 a1 a2:af)(a3:Int)(a4 a5 a6 a7 a9:af)(aE:Int)(aI:Bool)(aJ aK t z:Int):af:=if g=true then(if 0<=clsOf z then xmF a0 a1 a2 a3 a4 a5 a6 a9 aE aI aJ aK t (clsOf z)else xpF a1 a2 a3 a4 a5 (pfN z))else a5
def xaS (g:Bool)(a0 a1 a2:af)(a3:Int)(a4 a5 a6 a7 a9:af)(aE:Int)(aI:Bool)(aJ aK t z:Int):af:=if g=true then(if 0<=clsOf z then xmS a0 a1 a2 a3 a4 a5 a6 a9 aE aI aJ aK t (clsOf z)else a6)else a6
def xaL (g:Bool)(a0 a1 a2:af)(a3:Int)(a4 a5 a6 a7 a9:af)(aE:Int)(aI:Bool)(aJ aK t z:Int):af:=if g=true then(if 0<=clsOf z then a7 else xlL a1 a2 a3 a4 a5 a7 z)else a7
def xaX (g:Bool)(a0 a1 a2:af)(a3:Int)(a4 a5 a6 a7 a9:af)(aE:Int)(aI:Bool)(aJ aK t z:Int):af:=if g=true then(if 0<=clsOf z then xmX a0 a1 a2 a3 a4 a5 a6 a9 aE aI aJ aK t (clsOf z)else a9)else a9
def xaD (g:Bool)(a0 a1 a2:af)(a3:Int)(a4 a5 a6 a7 a9:af)(aE:Int)(aI:Bool)(aJ aK t z:Int):Int:=if g=true then(if 0<=clsOf z then xmD a0 a1 a2 a3 a4 a5 a6 a9 aE aI aJ aK t (clsOf z)else aE)else aE
def xaA (g:Bool)(a0 a1 a2:af)(a3:Int)(a4 a5 a6 a7 a9:af)(aE:Int)(aI:Bool)(aJ aK t z:Int):Int:=if g=true then(if 0<=clsOf z then xmA a0 a1 a2 a3 a4 a5 a6 a9 aE aI aJ aK t (clsOf z)else xlA a1 a2 a3 a4 a5 z)else-1
section
variable {g: Bool}
variable {a0 a1 a2: af} {a3: Int} {a4 a5 a6 a7 a8 a9 aA aB aD aL: af} {aC aE aF aG aH: Int} {aI: Bool} {aJ aK aM aN t k i z: Int}
def adK (h:g=false):xaC g a0 a1 a2 a3 a4 a5 a6 a7 a9 aE aI aJ aK t z=a0/\xaU g a0 a1 a2 a3 a4 a5 a6 a7 a9 aE aI aJ aK t z=a1/\xaE g a0 a1 a2 a3 a4 a5 a6 a7 a9 aE aI aJ aK t z=a2/\xaK g a0 a1 a2 a3 a4 a5 a6 a7 a9 aE aI aJ aK t z=a3/\xaF g a0 a1 a2 a3 a4 a5 a6 a7 a9 aE aI aJ aK t z=a5/\xaS g a0 a1 a2 a3 a4 a5 a6 a7 a9 aE aI aJ aK t z=a6/\xaL g a0 a1 a2 a3 a4 a5 a6 a7 a9 aE aI aJ aK t z=a7/\xaX g a0 a1 a2 a3 a4 a5 a6 a7 a9 aE aI aJ aK t z=a9/\xaD g a0 a1 a2 a3 a4 a5 a6 a7 a9 aE aI aJ aK t z=aE/\xaA g a0 a1 a2 a3 a4 a5 a6 a7 a9 aE aI aJ aK t z= -1:=by
 refine⟨?_,?_,?_,?_,?_,?_,?_,?_,?_,?_⟩
 ·unfold xaC;rw[h];rfl
 ·unfold xaU;rw[h];rfl
 ·unfold xaE;rw[h];rfl
 ·unfold xaK;rw[h];rfl
 ·unfold xaF;rw[h];rfl
 ·unfold xaS;rw[h];rfl
 ·unfold xaL;rw[h];rfl
 ·unfold xaX;rw[h];rfl
 ·unfold xaD;rw[h];rfl
 ·unfold xaA;rw[h];rfl
def adL (h:g=true)(c:0<=clsOf z):xaC g a0 a1 a2 a3 a4 a5 a6 a7 a9 aE aI aJ aK t z=xmC a0 a1 a2 a3 a4 a5 a6 a9 aE aI aJ aK t (clsOf z)/\xaU g a0 a1 a2 a3 a4 a5 a6 a7 a9 aE aI aJ aK t z=xmU a0 a1 a2 a3 a4 a5 a6 a9 aE aI aJ aK t (clsOf z)/\xaE g a0 a1 a2 a3 a4 a5 a6 a7 a9 aE aI aJ aK t z=xmE a0 a1 a2 a3 a4 a5 a6 a9 aE aI aJ aK t (clsOf z)/\xaK g a0 a1 a2 a3 a4 a5 a6 a7 a9 aE aI aJ aK t z=xmK a0 a1 a2 a3 a4 a5 a6 a9 aE aI aJ aK t (clsOf z)/\xaF g a0 a1 a2 a3 a4 a5 a6 a7 a9 aE aI aJ aK t z=xmF a0 a1 a2 a3 a4 a5 a6 a9 aE aI aJ aK t (clsOf z)/\xaS g a0 a1 a2 a3 a4 a5 a6 a7 a9 aE aI aJ aK t z=xmS a0 a1 a2 a3 a4 a5 a6 a9 aE aI aJ aK t (clsOf z)/\xaL g a0 a1 a2 a3 a4 a5 a6 a7 a9 aE aI aJ aK t z=a7/\xaX g a0 a1 a2 a3 a4 a5 a6 a7 a9 aE aI aJ aK t z=xmX a0 a1 a2 a3 a4 a5 a6 a9 aE aI aJ aK t (clsOf z)/\xaD g a0 a1 a2 a3 a4 a5 a6 a7 a9 aE aI aJ aK t z=xmD a0 a1 a2 a3 a4 a5 a6 a9 aE aI aJ aK t (clsOf z)/\xaA g a0 a1 a2 a3 a4 a5 a6 a7 a9 aE aI aJ aK t z=xmA a0 a1 a2 a3 a4 a5 a6 a9 aE aI aJ aK t (clsOf z):=by
 refine⟨?_,?_,?_,?_,?_,?_,?_,?_,?_,?_⟩
 ·unfold xaC;rw[VJ h,VJ c]
 ·unfold xaU;rw[VJ h,VJ c]
 ·unfold xaE;rw[VJ h,VJ c]
 ·unfold xaK;rw[VJ h,VJ c]
 ·unfold xaF;rw[VJ h,VJ c]
 ·unfold xaS;rw[VJ h,VJ c]
 ·unfold xaL;rw[VJ h,VJ c]
 ·unfold xaX;rw[VJ h,VJ c]
 ·unfold xaD;rw[VJ h,VJ c]
 ·unfold xaA;rw[VJ h,VJ c]
def adJ (h:g=true)(c:clsOf z<0):xaC g a0 a1 a2 a3 a4 a5 a6 a7 a9 aE aI aJ aK t z=xpC a0 a1 a2 a3 a4 a5 (pfN z)/\xaU g a0 a1 a2 a3 a4 a5 a6 a7 a9 aE aI aJ aK t z=xpU a0 a1 a2 a3 a4 a5 (pfN z)/\xaE g a0 a1 a2 a3 a4 a5 a6 a7 a9 aE aI aJ aK t z=xpE a0 a1 a2 a3 a4 a5 (pfN z)/\xaK g a0 a1 a2 a3 a4 a5 a6 a7 a9 aE aI aJ aK t z=xpK a1 a2 a3 a4 a5 (pfN z)/\xaF g a0 a1 a2 a3 a4 a5 a6 a7 a9 aE aI aJ aK t z=xpF a1 a2 a3 a4 a5 (pfN z)/\xaS g a0 a1 a2 a3 a4 a5 a6 a7 a9 aE aI aJ aK t z=a6/\xaL g a0 a1 a2 a3 a4 a5 a6 a7 a9 aE aI aJ aK t z=xlL a1 a2 a3 a4 a5 a7 z/\xaX g a0 a1 a2 a3 a4 a5 a6 a7 a9 aE aI aJ aK t z=a9/\xaD g a0 a1 a2 a3 a4 a5 a6 a7 a9 aE aI aJ aK t z=aE/\xaA g a0 a1 a2 a3 a4 a5 a6 a7 a9 aE aI aJ aK t z=xlA a1 a2 a3 a4 a5 z:=by
 refine⟨?_,?_,?_,?_,?_,?_,?_,?_,?_,?_⟩
 ·unfold xaC;rw[VJ h,VK Uc]
 ·unfold xaU;rw[VJ h,VK Uc]
 ·unfold xaE;rw[VJ h,VK Uc]
 ·unfold xaK;rw[VJ h,VK Uc]
 ·unfold xaF;rw[VJ h,VK Uc]
 ·unfold xaS;rw[VJ h,VK Uc]
 ·unfold xaL;rw[VJ h,VK Uc]
 ·unfold xaX;rw[VJ h,VK Uc]
 ·unfold xaD;rw[VJ h,VK Uc]
 ·unfold xaA;rw[VJ h,VK Uc]
end
def xaP (a8:af)(aH t z w:Int):af:=if 0<=w then inL a8 (E6 a8 1 w) [[.i aH,.i w,.i z,.i t]]else a8
def xaN (aH w:Int):Int:=if 0<=w then aH+1 else aH
def xaR (c w:Int):Int:=if c≠0 then c else if w<0 then 4 else 0
end Go.V
namespace Go.V
def adc {A B:Prop}(b:Bool)(h1:b=true->A)(h2:b=false->B):A\/B:=by
 cases b with
 |true=>exact .inl (h1 rfl)
 |false=>exact .inr (h2 rfl)
def Rj {ls:af}{k:Int}(h:ctB ls k=true):0<=ctA ls k/\ctA ls k<=511:=by
 have e:=(Rl h).2;unfold ctB clB at h;simp only[Zb,VI]at h;obtain⟨⟨r,ca⟩,l⟩:=h;have q:=bB.1 r;unfold caOk at ca;simp only[Zb]at ca;have a:=dI.1 ca.2.1 k q.1 Uc;unfold Jl at a;rw[Zb]at a;have b:=dI.1 a.2 ((aO ls k 0).length-1) Uc Uc;unfold Jm at b;rw[Zb]at b;rw[e];exact bB.1 b.1
def GY {es:af}{i:Int}{r:ax}{j:Nat}(i0:0<=i)(i1:i<=es.length):ag (inL es i [r]) i j=Ke (r.getD j .g):=by
 have h:(inL es i [r]).getD i.toNat []=r:=by
  unfold inL;rw[Zp,ZM (by rw[Zi];omega),Zi,show i.toNat-min i.toNat es.length=0 by omega];rfl
 unfold ag;rw[h]
section
variable {a0 a1 a2: af} {a3: Int} {a4 a5 a6 a7 a8 a9 aA aB aD aL: af} {aC aE aF aG aH: Int} {aI: Bool} {aJ aK aM aN t k i z n p b w: Int} {g: Bool}
def abt (hc:tz a0 a1 a2 a4 a5 a6 a7 a8 a9 aA aB aD aL)(km:kJ a0 a1 a2):tz (xpC a0 a1 a2 a3 a4 a5 n) (xpU a0 a1 a2 a3 a4 a5 n) (xpE a0 a1 a2 a3 a4 a5 n) a4 (xpF a1 a2 a3 a4 a5 n) a6 a7 a8 a9 aA aB aD aL:=by
 have m:=adQ (a3:=a3) (a4:=a4) (a5:=a5) (n:=n) km hc.r0 hc.r1 hc.r2;have f:=P5 (a1:=a1) (a2:=a2) (a3:=a3) (a4:=a4) (n:=n) hc.r5;have c5:=hc.c5;rw[hc.r5.cnt rfl]at c5;exact {hc with r0:=m.2.1,r1:=m.2.2.1,r2:=m.2.2.2.1,r5:=f.1,c0:=ZA m.2.2.2.2.2.1 (by decide),c1:=ZA m.2.2.2.2.2.2.1 (by decide),c2:=ZA m.2.2.2.2.2.2.2 (by decide),c5:=by rw[f.1.cnt rfl];omega}
def Oa (h:Rw [tI,tI,tI] a6)(l:a6.length<=1073741824)(hp: -9223372036854775808<=p/\p<=9223372036854775807)(hk: -9223372036854775808<=k/\k<=9223372036854775807)(hb: -9223372036854775808<=b/\b<=9223372036854775807):Rw [tI,tI,tI] (isL a6 p k b)/\(isL a6 p k b).length=a6.length+1:=by
 unfold isL;refine⟨Sw h (Rw.one (show bU [tI,tI,tI] [.i p,.i k,.i b]from⟨⟨rfl,hp⟩,⟨rfl,hk⟩,⟨rfl,hb⟩,trivial⟩)) (by unfold maxLen;simp only[Zr,Zs];omega),Ce⟩
def SB (hc:tz a0 a1 a2 a4 a5 a6 a7 a8 a9 aA aB aD aL)(c6:bC a6<=1000000000)(hp: -9223372036854775808<=p/\p<=9223372036854775807)(hk: -9223372036854775808<=k/\k<=9223372036854775807)(hb: -9223372036854775808<=b/\b<=9223372036854775807):tz a0 a1 a2 a4 a5 (isL a6 p k b) a7 a8 a9 aA aB aD aL:=by
 have l:=bj (es:=a6);have s:=Oa (p:=p) (k:=k) (b:=b) hc.r6 Uc hp hk hb;rw[hc.r6.cnt rfl]at c6;exact {hc with r6:=s.1,c6:=by rw[s.1.cnt rfl,s.2];omega}
def Mz (h:xpB a1 a2 a3 a4 a5 1=true)(hk:inR k 0 3=true):spOk (ag (isL a6 (xpA a1 a2 a3 a4 a5 1) k 0) (isI a6 (xpA a1 a2 a3 a4 a5 1)) 0) (ag (isL a6 (xpA a1 a2 a3 a4 a5 1) k 0) (isI a6 (xpA a1 a2 a3 a4 a5 1)) 1) (ag (isL a6 (xpA a1 a2 a3 a4 a5 1) k 0) (isI a6 (xpA a1 a2 a3 a4 a5 1)) 2)=true:=by
 obtain⟨h1,h2,_⟩:=abq h;have q:=IE h1;have lb:=Ha (rs:=a6) (j:=0) (x:=xpA a1 a2 a3 a4 a5 1);unfold isL isI;rw[GY lb.1 lb.2,GY lb.1 lb.2,GY lb.1 lb.2];show spOk (xpA a1 a2 a3 a4 a5 1) k 0=true;unfold spOk;rw[h2,bB.2 ⟨q.1,Uc⟩,YW];rcases Ni hk with rfl|rfl|rfl|rfl<;>decide
def IF (h:xpB a1 a2 a3 a4 a5 n=true):0<=xpA a1 a2 a3 a4 a5 n/\xpA a1 a2 a3 a4 a5 n<=31/\xpA a1 a2 a3 a4 a5 n+n<=a2.length/\1<=n/\n<=32:=by
 obtain⟨h1,h2,_⟩:=abq h;have q:=IE h1;rw[h2];omega
def acy (h6:Rw [tI,tI,tI] a6):0<=isI a6 p/\isI a6 p<(isL a6 p k b).length:=by
 have lb:=Ha (rs:=a6) (j:=0) (x:=p);unfold isI isL;rw[Ce];simp only[Zr,Zs];omega
def EF (hk:hpI a0 a1 a2 a3 a4 a5 a6 a7 a8 a9 aA aB aC aD aE aF aG aH aI aJ aK aL aM aN=true)(i0:0<=i)(i1:i<a6.length):spOk (ag a6 i 0) (ag a6 i 1) (ag a6 i 2)=true:=by
 have s:=(OA (qt hk).l).s i.toNat Uc
 rwa [Zm i0]at s
def u9 (c:0<=clsOf z):inR (clsOf z) 0 3=true:=by
 refine bB.2 ⟨c,?_⟩;unfold clsOf;repeat' split
 all_goals omega
def P3 (hk:hpI a0 a1 a2 a3 a4 a5 a6 a7 a8 a9 aA aB aC aD aE aF aG aH aI aJ aK aL aM aN=true)(kk:inR k 0 3=true):(xmB a0 a1 a2 a3 a4 a5 a6 a9 aE aI aJ aK t k=true/\0<=xmA a0 a1 a2 a3 a4 a5 a6 a9 aE aI aJ aK t k/\xmA a0 a1 a2 a3 a4 a5 a6 a9 aE aI aJ aK t k<=511)\/(xmB a0 a1 a2 a3 a4 a5 a6 a9 aE aI aJ aK t k=false/\xmA a0 a1 a2 a3 a4 a5 a6 a9 aE aI aJ aK t k= -1):=by
 have H:=qt hk;cases c:ctB (aO a9 t 0) k with
 | true=>
   obtain⟨_,_,_,_,_,_,_,_,q9,q10⟩:=abh (a0:=a0) (a1:=a1) (a2:=a2) (a3:=a3) (a4:=a4) (a5:=a5) (a6:=a6) (aE:=aE) (aI:=aI) (aJ:=aJ) (aK:=aK) c;rw[q9,q10];exact .inl ⟨rfl,Rj c⟩
 | false=>
   by_cases i:0<=EE a2 a6 aI aJ aK k
   ·obtain⟨_,_,_,_,_,_,_,_,q9,q10⟩:=abi (a0:=a0) (a1:=a1) (a3:=a3) (a4:=a4) (a5:=a5) (aE:=aE) c i rfl;rw[q9,q10];have il:=fV i;change EE a2 a6 aI aJ aK k<a6.length/\Br a2 a6 aI aJ aK k (EE a2 a6 aI aJ aK k)=true at il;have y:=il.2;unfold Br at y;simp only[Zb]at y;have n:¬ (oO a2 a6 (EE a2 a6 aI aJ aK k)).length=0:=by have:=VL y.2.2;omega
    have X:=ED (a2:=a2) (EF hk i il.1) H.s n;rw[(K5 n).2.2.2];exact .inl ⟨rfl,X.a0,X.a1⟩
   ·cases d:xpB a1 a2 a3 a4 a5 1 with
    | false=>
      obtain⟨_,_,_,_,_,_,_,_,q9,q10⟩:=abj (a0:=a0) (aE:=aE) c (WJ.1 i) d;rw[q9,q10];exact .inr ⟨rfl,rfl⟩
    | true=>
      obtain⟨_,_,_,_,_,_,_,_,q9,q10⟩:=abk (a0:=a0) (aE:=aE) c (WJ.1 i) d;rw[q9,q10];by_cases n:(oO (xpE a0 a1 a2 a3 a4 a5 1) (isL a6 (xpA a1 a2 a3 a4 a5 1) k 0) (isI a6 (xpA a1 a2 a3 a4 a5 1))).length=0
      ·have q:=K4 (s:=aE) n;rw[q.1,q.2.2.2];exact .inr ⟨rfl,rfl⟩
      ·have q:=K5 (s:=aE) n;have X:=ED (Mz d kk) H.s n;rw[q.1,q.2.2.2];exact .inl ⟨rfl,X.a0,X.a1⟩
def abc:(xpB a1 a2 a3 a4 a5 (pfN z)=true/\0<=xlA a1 a2 a3 a4 a5 z/\xlA a1 a2 a3 a4 a5 z<=511)\/(xpB a1 a2 a3 a4 a5 (pfN z)=false/\xlA a1 a2 a3 a4 a5 z= -1):=by
 unfold xlA;cases d:xpB a1 a2 a3 a4 a5 (pfN z)with
 |true=>have:=IF d;exact .inl ⟨rfl,by rw[VJ rfl];omega,by rw[VJ rfl];omega⟩
 |false=>exact .inr ⟨rfl,rfl⟩
def abl (h:upto (cI (Br a2 a6 aI aJ aK k)) i)(i0:0<=i)(i1:i<a6.length)(e:ag a6 i 1=k)(f:bsB aI aJ aK (ag a6 i 0)=false)(x:xcB a2 a6 i=true):EE a2 a6 aI aJ aK k=i:=
 dB h i0 i1 (by unfold Br;rw[xk e,f,x];rfl)
def Mw (h:upto (cI (Br a2 a6 aI aJ aK k)) i)(i1:(a6.length:Int)<=i):EE a2 a6 aI aJ aK k<0:=by
 unfold EE;rw[dL h i1];omega
def abn (h:upto (cI (Br a2 a6 aI aJ aK k)) i)(e:ag a6 i 1≠k):upto (cI (Br a2 a6 aI aJ aK k)) (i+1):=bL h (fE (by unfold Br;rw[An e];rfl))
def abo (h:upto (cI (Br a2 a6 aI aJ aK k)) i)(f:bsB aI aJ aK (ag a6 i 0)=true):upto (cI (Br a2 a6 aI aJ aK k)) (i+1):=bL h (fE (by unfold Br;rw[f];simp))
def abp (h:upto (cI (Br a2 a6 aI aJ aK k)) i)(x:xcB a2 a6 i=false):upto (cI (Br a2 a6 aI aJ aK k)) (i+1):=bL h (fE (by unfold Br;rw[x];simp))
def P9 (h:MC a1 a2 a3 a4 a5 a6 k<0):xpB a1 a2 a3 a4 a5 1=false:=by
 cases c:xpB a1 a2 a3 a4 a5 1 with
 |false=>rfl
 | true=>
   unfold MC isI at h;rw[VJ c]at h;have:=Ha (rs:=a6) (j:=0) (x:=xpA a1 a2 a3 a4 a5 1);omega
def Qa (h:0<=MC a1 a2 a3 a4 a5 a6 k):xpB a1 a2 a3 a4 a5 1=true:=by
 cases c:xpB a1 a2 a3 a4 a5 1 with
 |true=>rfl
 | false=>
   unfold MC at h;rw[c]at h;exact absurd (show(0:Int)<= -1 from h) Uc
def abx (c:xpB a1 a2 a3 a4 a5 1=true):MC a1 a2 a3 a4 a5 a6 k=isI a6 (xpA a1 a2 a3 a4 a5 1)/\xsL a1 a2 a3 a4 a5 a6 k=isL a6 (xpA a1 a2 a3 a4 a5 1) k 0:=by
 unfold MC xsL;rw[VJ c,VJ c];exact⟨rfl,rfl⟩
def adV (c:xpB a1 a2 a3 a4 a5 1=false):xsL a1 a2 a3 a4 a5 a6 k=a6:=by unfold xsL;rw[c];rfl
def abb (hs:spOk (ag a6 i 0) (ag a6 i 1) (ag a6 i 2)=true)(hd:inR aE 0 1073741823=true)(x:xcB a2 a6 i=true):0<=xcA a2 a6 aE i:=by
 have n:¬ (oO a2 a6 i).length=0:=by have:=VL x;omega
 rw[(K5 n).2.2.2];exact(ED hs hd n).a0
def Mt {x:af}(h:Rw [.sl [.sl [tI]]] a9)(t0:0<=t)(t1:t<a9.length):oJ (.s 1 a9) [(t.toNat,0)] [.s 1 x]=a9.set t.toNat [.s 1 x]:=mC (by rw[h.eta t0 t1];rfl)
def P4 (hc:tz a0 a1 a2 a4 a5 a6 a7 a8 a9 aA aB aD aL)(km:kJ a0 a1 a2)(c6:bC a6<=1000000000)(kk:inR k 0 3=true)(hd:inR aE 0 1073741823=true)(c:xpB a1 a2 a3 a4 a5 1=true):
 tz (xpC a0 a1 a2 a3 a4 a5 1) (xpU a0 a1 a2 a3 a4 a5 1) (xpE a0 a1 a2 a3 a4 a5 1) a4 (xpF a1 a2 a3 a4 a5 1) (isL a6 (xpA a1 a2 a3 a4 a5 1) k 0) a7 a8 a9 aA aB aD aL/\0<=isI a6 (xpA a1 a2 a3 a4 a5 1)/\isI a6 (xpA a1 a2 a3 a4 a5 1)<(isL a6 (xpA a1 a2 a3 a4 a5 1) k 0).length/\spOk (ag (isL a6 (xpA a1 a2 a3 a4 a5 1) k 0) (isI a6 (xpA a1 a2 a3 a4 a5 1)) 0) (ag (isL a6 (xpA a1 a2 a3 a4 a5 1) k 0) (isI a6 (xpA a1 a2 a3 a4 a5 1)) 1) (ag (isL a6 (xpA a1 a2 a3 a4 a5 1) k 0) (isI a6 (xpA a1 a2 a3 a4 a5 1)) 2)=true/\inR aE 0 1073741823=true:=by
 have pg:=IF c;have kr:=bB.1 kk;have ii:=acy (p:=xpA a1 a2 a3 a4 a5 1) (k:=k) (b:=0) hc.r6;exact⟨SB (abt hc km) c6 Uc Uc Uc,ii.1,ii.2,Mz c kk,hd⟩
end
end Go.V
namespace Go.V
section
variable {a0 a1 a2: af} {a3: Int} {a4 a5 a6 a7 a8 a9: af} {z: Int}
def adg (_: -9223372036854775808<=z)(_:z<=9223372036854775807): -9223372036854775808<=pfN z/\pfN z<=9223372036854775807:=by
 unfold pfN;split
 ·rename_i h;have:=bB.1 h;omega
 ·omega
def adN (c:xpB a1 a2 a3 a4 a5 (pfN z)=true):xlL a1 a2 a3 a4 a5 a7 z=inL a7 (E6 a7 0 (xpA a1 a2 a3 a4 a5 (pfN z))) [[.i (xpA a1 a2 a3 a4 a5 (pfN z)),.i (pfN z),.i z]]/\xlA a1 a2 a3 a4 a5 z=xpA a1 a2 a3 a4 a5 (pfN z)*16:=by
 unfold xlL xlA;rw[VJ c,VJ c];exact⟨rfl,rfl⟩
def abe (c:xpB a1 a2 a3 a4 a5 (pfN z)=false):xlL a1 a2 a3 a4 a5 a7 z=a7/\xlA a1 a2 a3 a4 a5 z= -1:=by
 unfold xlL xlA;rw[c];exact⟨rfl,rfl⟩
end
def ID {h:Bool}{a3:Int}{a8 a9:af}{aG aH t z:Int}(e:h=false\/aH=1000000\/90000<a3):xaG h a3 a8 a9 aG aH t z=5:=by unfold xaG;rw[VJ e]
def aa2 {h:Bool}{a3:Int}{a8 a9:af}{aG aH t z:Int}(e1:h=true)(e2:aH≠1000000)(e3:a3<=90000)(e4:inR t 0 (a9.length-1)=false):xaG h a3 a8 a9 aG aH t z=1:=by unfold xaG;rw[VK (by rintro(q|q|q);(rw[e1]at q;cases q);(exact e2 q);omega),VJ e4]
def aa3 {h:Bool}{a3:Int}{a8 a9:af}{aG aH t z:Int}(e1:h=true)(e2:aH≠1000000)(e3:a3<=90000)(e4:inR t 0 (a9.length-1)=true)(e5:inR z 1 1000=false):xaG h a3 a8 a9 aG aH t z=2:=by unfold xaG;rw[VK (by rintro(q|q|q);(rw[e1]at q;cases q);(exact e2 q);omega),VK (by rw[e4];decide),VJ e5]
def aa4 {h:Bool}{a3:Int}{a8 a9:af}{aG aH t z:Int}(e1:h=true)(e2:aH≠1000000)(e3:a3<=90000)(e4:inR t 0 (a9.length-1)=true)(e5:inR z 1 1000=true)(e6:aG<bK .add Za (lsI a8) z):xaG h a3 a8 a9 aG aH t z=3:=by unfold xaG;rw[VK (by rintro(q|q|q);(rw[e1]at q;cases q);(exact e2 q);omega),VK (by rw[e4];decide),VK (by rw[e5];decide),VJ e6]
def aa5 {h:Bool}{a3:Int}{a8 a9:af}{aG aH t z:Int}(e1:h=true)(e2:aH≠1000000)(e3:a3<=90000)(e4:inR t 0 (a9.length-1)=true)(e5:inR z 1 1000=true)(e6:bK .add Za (lsI a8) z<=aG):xaG h a3 a8 a9 aG aH t z=0:=by unfold xaG;rw[VK (by rintro(q|q|q);(rw[e1]at q;cases q);(exact e2 q);omega),VK (by rw[e4];decide),VK (by rw[e5];decide),VK Uc]
def aa6 {h:Bool}{a3:Int}{a8 a9:af}{aG aH t z c:Int}(e:xaG h a3 a8 a9 aG aH t z=c)(n:c≠0):xaO h a3 a8 a9 aG aH t z=false:=VH (by rw[e];exact n)
def Mv {h:Bool}{a3:Int}{a8 a9:af}{aG aH t z:Int}(e:xaG h a3 a8 a9 aG aH t z=0):xaO h a3 a8 a9 aG aH t z=true:=VG e
def aba {c w:Int}(h:c=0)(n:w<0):xaR c w=4:=by unfold xaR;rw[VK (fun q=>q h),VJ n]
def aa9 {c w:Int}(h:c=0)(n:0<=w):xaR c w=0:=by unfold xaR;rw[VK (fun q=>q h),VK Uc]
def aa7 {a8:af}{aH t z w:Int}(n:w<0):xaP a8 aH t z w=a8/\xaN aH w=aH:=⟨VK Uc,VK Uc⟩
def aa8 {a8:af}{aH t z w:Int}(n:0<=w):xaP a8 aH t z w=inL a8 (E6 a8 1 w) [[.i aH,.i w,.i z,.i t]]/\xaN aH w=aH+1:=⟨VJ n,VJ n⟩
section
variable {g: Bool}
variable {a0 a1 a2: af} {a3: Int} {a4 a5 a6 a7 a8 a9 aA aB aD aL: af} {aC aE aF aG aH: Int} {aI: Bool} {aJ aK aM aN t k i z: Int}
def adO {w:Int}(hk:hpI a0 a1 a2 a3 a4 a5 a6 a7 a8 a9 aA aB aC aD aE aF aG aH aI aJ aK aL aM aN=true)(kk:inR k 0 3=true)(b:xmB a0 a1 a2 a3 a4 a5 a6 a9 aE aI aJ aK t k=false)(hw:xmA a0 a1 a2 a3 a4 a5 a6 a9 aE aI aJ aK t k=w):w<0:=by
 rcases P3 (t:=t) hk kk with q|q
 ·rw[b]at q;cases q.1
 ·omega
def adP {w:Int}(hk:hpI a0 a1 a2 a3 a4 a5 a6 a7 a8 a9 aA aB aC aD aE aF aG aH aI aJ aK aL aM aN=true)(kk:inR k 0 3=true)(b:xmB a0 a1 a2 a3 a4 a5 a6 a9 aE aI aJ aK t k=true)(hw:xmA a0 a1 a2 a3 a4 a5 a6 a9 aE aI aJ aK t k=w):0<=w:=by
 rcases P3 (t:=t) hk kk with q|q;omega
 ·rw[b]at q;cases q.1
def abf {w:Int}(b:xpB a1 a2 a3 a4 a5 (pfN z)=false)(hw:xlA a1 a2 a3 a4 a5 z=w):w<0:=by
 have:=(abe (a7:=([]:af)) b).2;omega
def abg {w:Int}(b:xpB a1 a2 a3 a4 a5 (pfN z)=true)(hw:xlA a1 a2 a3 a4 a5 z=w):0<=w:=by
 rcases abc (a1:=a1) (a2:=a2) (a3:=a3) (a4:=a4) (a5:=a5) (z:=z)with q|q;omega
 ·rw[b]at q;cases q.1
def abm {w:Int}(hk:hpI a0 a1 a2 a3 a4 a5 a6 a7 a8 a9 aA aB aC aD aE aF aG aH aI aJ aK aL aM aN=true)(kk:inR k 0 3=true)(hw:xmA a0 a1 a2 a3 a4 a5 a6 a9 aE aI aJ aK t k=w)(h:w<0):w= -1:=by
 rcases P3 (t:=t) hk kk with q|q<;>omega
def abd {w:Int}(hw:xlA a1 a2 a3 a4 a5 z=w)(h:w<0):w= -1:=by
 rcases abc (a1:=a1) (a2:=a2) (a3:=a3) (a4:=a4) (a5:=a5) (z:=z)with q|q<;>omega
end
end Go.V
namespace Go.V
def rO {cs:af}{i i' h h':Int}(a:i=i')(b:h=h'):[H.ro (.s 1 cs),H.own (.i i),H.own (.i h)]=[H.ro (.s 1 cs),H.own (.i i'),H.own (.i h')]:=by rw[a,b]
def bgB (cs:af):Bool:=decide ((cs.length:Int)>1048576)
def QT {cs:af}(h:bgB cs=false):cs.length<=1048576:=by
 unfold bgB at h;simp only[decide_eq_false_iff_not]at h;omega
def HJ {w:Nat}{l:af}{i:Int}{j:Nat}(h0:0<=i):yM (.s w l) [(i.toNat,j)]=ag l i j:=by
 rw[yN];unfold ag;rw[ZI]
def cm0 {x c:Int}(h:x=c):cT .eql x c=true:=by subst h;simp[cT]
def no0 {x c:Int}(h:x=c)(q:cT .eql x c=false):False:=by rw[cm0 h]at q;cases q
def tf0 {b:Bool}(h:b=true)(q:b=false):False:=by rw[h]at q;cases q
def dbt {a:Bool}(h:a=true):[DV.k a]=[DV.k true]:=by rw[h]
end Go.V
namespace Go.V
structure HV where
 (a0 a1 a2:af) (a3:Int) (a4 a5 a6 a7 a8 a9 aA aB:af) (aC:Int) (aD:af) (aE aF aG aH:Int) (aI:Bool) (aJ aK:Int) (aL:af) (aM aN:Int)
def hvN (p f t l:Int)(rs:af):HV:=⟨hnC p f t l rs,hnU p f t l rs,hnE p f t l rs,0,hnR p f t l rs,hnF p f t l rs,[],[],[],hnK p f t l rs,hnM p f t l rs,hnI p f t l rs,hnQ p f t l rs,[],0,0,hnL p f t l rs,hnN p f t l rs,false,0,0,[],0,0⟩
def HV.hp (h:HV):Bool:=hpI h.a0 h.a1 h.a2 h.a3 h.a4 h.a5 h.a6 h.a7 h.a8 h.a9 h.aA h.aB h.aC h.aD h.aE h.aF h.aG h.aH h.aI h.aJ h.aK h.aL h.aM h.aN
def HV.ao (h:HV)(t z:Int):Bool:=xaO h.hp h.a3 h.a8 h.a9 h.aG h.aH t z
def HV.aQ (h:HV)(t z:Int):Int:=xaA (h.ao t z) h.a0 h.a1 h.a2 h.a3 h.a4 h.a5 h.a6 h.a7 h.a9 h.aE h.aI h.aJ h.aK t z
def HV.aR (h:HV)(t z:Int):Int:=xaR (xaG h.hp h.a3 h.a8 h.a9 h.aG h.aH t z) (h.aQ t z)
def HV.al (h:HV)(t z:Int):HV:=
 let g:=h.ao t z
 ⟨xaC g h.a0 h.a1 h.a2 h.a3 h.a4 h.a5 h.a6 h.a7 h.a9 h.aE h.aI h.aJ h.aK t z,xaU g h.a0 h.a1 h.a2 h.a3 h.a4 h.a5 h.a6 h.a7 h.a9 h.aE h.aI h.aJ h.aK t z,
  xaE g h.a0 h.a1 h.a2 h.a3 h.a4 h.a5 h.a6 h.a7 h.a9 h.aE h.aI h.aJ h.aK t z,xaK g h.a0 h.a1 h.a2 h.a3 h.a4 h.a5 h.a6 h.a7 h.a9 h.aE h.aI h.aJ h.aK t z,
  h.a4,xaF g h.a0 h.a1 h.a2 h.a3 h.a4 h.a5 h.a6 h.a7 h.a9 h.aE h.aI h.aJ h.aK t z,xaS g h.a0 h.a1 h.a2 h.a3 h.a4 h.a5 h.a6 h.a7 h.a9 h.aE h.aI h.aJ h.aK t z,
  xaL g h.a0 h.a1 h.a2 h.a3 h.a4 h.a5 h.a6 h.a7 h.a9 h.aE h.aI h.aJ h.aK t z,xaP h.a8 h.aH t z (h.aQ t z),xaX g h.a0 h.a1 h.a2 h.a3 h.a4 h.a5 h.a6 h.a7 h.a9 h.aE h.aI h.aJ h.aK t z,
  h.aA,h.aB,h.aC,h.aD,xaD g h.a0 h.a1 h.a2 h.a3 h.a4 h.a5 h.a6 h.a7 h.a9 h.aE h.aI h.aJ h.aK t z,h.aF,h.aG,xaN h.aH (h.aQ t z),h.aI,h.aJ,h.aK,h.aL,h.aM,h.aN⟩
def HV.lv (h:HV)(a:Int):Int:=hlV (ooI h.hp h.a8 a) (ldV h.a0 h.a1 h.a2 a)
def HV.lk (h:HV)(a:Int):Int:=hlK (ooI h.hp h.a8 a)
def M7:Nat->Ty->L->Bool
 |_,.int k,.v (.int k' n)=>decide (k'=k)&&(decide (k.min<=n)&&decide (n<=k.max))
 |_,.bool,.v (.bool _)=>true
 |k+1,.sl fs,.s sz es=>decide (sz=fs.length)&&(decide (es.length<=maxLen)&&es.all fun e=>decide (e.length=fs.length)&&(fs.zip e).all fun p=>M7 k p.1 p.2)
 |_,_,_=>false
def II {k:Nat}(ih:∀ {t:Ty} {l:L},M7 k t l=true->dm t l):∀ {fs:List Ty} {e:ax},e.length=fs.length->((fs.zip e).all fun p=>M7 k p.1 p.2)=true->bU fs e
 |[],[],_,_=>by simp[bU]
 |[],_::_,h,_=>by cases h
 |_::_,[],h,_=>by cases h
 | t::fs,l::e,h,q=>by
   simp only[List.zip_cons_cons,List.all_cons,Zb]at q;simp only[bU];exact⟨ih q.1,II ih (by simpa using h) q.2⟩
def M8:∀ {k:Nat} {t:Ty} {l:L},M7 k t l=true->dm t l:=by
 intro k
 induction k with
 | zero=>
   intro t l h;unfold M7 at h;split at h
   ·simp only[Zb,VI]at h;simp only[dm];exact⟨h.1,h.2⟩
   ·simp only[dm]
   ·rename_i e;cases e
   ·cases h
 | succ k ih=>
   intro t l h;unfold M7 at h;split at h
   ·simp only[Zb,VI]at h;simp only[dm];exact⟨h.1,h.2⟩
   ·simp only[dm]
   ·rename_i e;cases e;simp only[Zb,VI]at h;simp only[dm];refine⟨h.1,h.2.1,fun e he=>?_⟩;have q:=List.all_eq_true.1 h.2.2 e he;simp only[Zb,VI]at q;exact II ih q.1 q.2
   ·cases h
def Es (fs:List Ty)(es:af):Bool:=M7 4 (.sl fs) (.s fs.length es)
def iH {fs:List Ty}{es:af}(h:Es fs es=true):Rw fs es:=by
 have q:=M8 h;simp only[dm]at q;exact q.2
def HV.wf (h:HV):Bool:=
 Es [.sl [tI]] h.a0&&(Es [tB] h.a1&&(Es [tI,tI] h.a2&&(Es [tI] h.a4&&(Es [tI,tI] h.a5&&(Es [tI,tI,tI] h.a6&&(Es [tI,tI,tI] h.a7&&(Es [tI,tI,tI,tI] h.a8&&(Es [.sl [.sl [tI]]] h.a9&&
 (Es [.sl [tI,tI]] h.aA&&(Es [.sl [tI]] h.aB&&(Es [tI,tI,tI] h.aD&&(Es [tI] h.aL&&decide (xf [h.a0,h.a1,h.a2,h.a4,h.a5,h.a6,h.a7,h.a8,h.a9,h.aA,h.aB,h.aD,h.aL]<=1048576)))))))))))))
def HV.wf_hc {h:HV}(w:h.wf=true):tz h.a0 h.a1 h.a2 h.a4 h.a5 h.a6 h.a7 h.a8 h.a9 h.aA h.aB h.aD h.aL/\bC h.a6<=1000000000/\bC h.a7<=1000000000/\bC h.a8<=1000000000/\bC h.a9<=300000000/\bC h.aA<=500000000/\bC h.aB<=1000000000:=by
 simp only[HV.wf,Zb,VI]at w;obtain⟨h0,h1,h2,h4,h5,h6,h7,h8,h9,h10,h11,h13,h21,hs⟩:=w;have c:=Lk hs;exact⟨NH (iH h0) (iH h1) (iH h2) (iH h4) (iH h5) (iH h6) (iH h7) (iH h8) (iH h9) (iH h10) (iH h11) (iH h13) (iH h21) hs,by have:=c.2.2.2.2.2.1;omega,by have:=c.2.2.2.2.2.2.1;omega,by have:=c.2.2.2.2.2.2.2.1;omega,by have:=c.2.2.2.2.2.2.2.2.1;omega,by have:=c.2.2.2.2.2.2.2.2.2.1;omega,by have:=c.2.2.2.2.2.2.2.2.2.2.1;omega⟩
end Go.V
namespace Go.V
def HV.fr (h:HV)(t ad:Int):HV:=⟨(ifR (Qt (uu h.hp h.a3 t h.a9) h.a8 ad) (lgC h.a0 h.a1 h.a2 h.a7 ad) (ifR (fbP (uu h.hp h.a3 t h.a9) h.a2 h.a8 h.aA h.aB t ad) (JE h.a0 h.a2 h.a8 ad) (ifR (Lv (uu h.hp h.a3 t h.a9) h.a2 h.a8 t ad) (raC h.aI h.aJ h.aK (JE h.a0 h.a2 h.a8 ad) h.a1 h.a2 h.a5 h.a6 h.a9 t (IM h.a8 h.aC h.aD h.aF ad)) h.a0))),(ifR (Qt (uu h.hp h.a3 t h.a9) h.a8 ad) (lgU h.a0 h.a1 h.a2 h.a7 ad) (ifR (Lv (uu h.hp h.a3 t h.a9) h.a2 h.a8 t ad) (raU h.aI h.aJ h.aK (JE h.a0 h.a2 h.a8 ad) h.a1 h.a2 h.a5 h.a6 h.a9 t (IM h.a8 h.aC h.aD h.aF ad)) h.a1)),(ifR (Qt (uu h.hp h.a3 t h.a9) h.a8 ad) (lgE h.a0 h.a1 h.a2 h.a7 ad) (ifR (Lv (uu h.hp h.a3 t h.a9) h.a2 h.a8 t ad) (raE h.aI h.aJ h.aK (JE h.a0 h.a2 h.a8 ad) h.a1 h.a2 h.a5 h.a6 h.a9 t (IM h.a8 h.aC h.aD h.aF ad)) h.a2)),h.a3,h.a4,(ifR (Qt (uu h.hp h.a3 t h.a9) h.a8 ad) (lgF h.a0 h.a1 h.a2 h.a5 h.a7 ad) (ifR (Lv (uu h.hp h.a3 t h.a9) h.a2 h.a8 t ad) (raF h.aI h.aJ h.aK (JE h.a0 h.a2 h.a8 ad) h.a1 h.a2 h.a5 h.a6 h.a9 t (IM h.a8 h.aC h.aD h.aF ad)) h.a5)),(ifR (Lv (uu h.hp h.a3 t h.a9) h.a2 h.a8 t ad) (raS h.aI h.aJ h.aK (JE h.a0 h.a2 h.a8 ad) h.a1 h.a2 h.a5 h.a6 h.a9 t (IM h.a8 h.aC h.aD h.aF ad)) h.a6),(ifR (Qt (uu h.hp h.a3 t h.a9) h.a8 ad) (lgL h.a7 ad) h.a7),(ifR (Qt (uu h.hp h.a3 t h.a9) h.a8 ad) (foO h.a8 ad) (ifR (fbP (uu h.hp h.a3 t h.a9) h.a2 h.a8 h.aA h.aB t ad) (foO h.a8 ad) (ifR (Lv (uu h.hp h.a3 t h.a9) h.a2 h.a8 t ad) (foO h.a8 ad) h.a8))),(ifR (Lv (uu h.hp h.a3 t h.a9) h.a2 h.a8 t ad) (raD h.aI h.aJ h.aK (JE h.a0 h.a2 h.a8 ad) h.a1 h.a2 h.a5 h.a6 h.a9 t (IM h.a8 h.aC h.aD h.aF ad)) h.a9),(ifR (fbP (uu h.hp h.a3 t h.a9) h.a2 h.a8 h.aA h.aB t ad) (sdU h.aA t (RH h.a8 ad) ad) h.aA),h.aB,h.aC,(ifR (Lv (uu h.hp h.a3 t h.a9) h.a2 h.a8 t ad) (fqL h.a8 h.aC h.aD h.aF ad) h.aD),h.aE,h.aF,h.aG,h.aH,h.aI,h.aJ,h.aK,h.aL,h.aM,h.aN⟩
def HV.co (h:HV)(t:Int):HV:=⟨(ifR (uu h.hp h.a3 t h.a9) (raC h.aI h.aJ h.aK h.a0 h.a1 h.a2 h.a5 h.a6 h.a9 t (Ju h.aA h.aB t)) h.a0),(ifR (uu h.hp h.a3 t h.a9) (raU h.aI h.aJ h.aK h.a0 h.a1 h.a2 h.a5 h.a6 h.a9 t (Ju h.aA h.aB t)) h.a1),(ifR (uu h.hp h.a3 t h.a9) (raE h.aI h.aJ h.aK h.a0 h.a1 h.a2 h.a5 h.a6 h.a9 t (Ju h.aA h.aB t)) h.a2),h.a3,h.a4,(ifR (uu h.hp h.a3 t h.a9) (raF h.aI h.aJ h.aK h.a0 h.a1 h.a2 h.a5 h.a6 h.a9 t (Ju h.aA h.aB t)) h.a5),(ifR (uu h.hp h.a3 t h.a9) (raS h.aI h.aJ h.aK h.a0 h.a1 h.a2 h.a5 h.a6 h.a9 t (Ju h.aA h.aB t)) h.a6),h.a7,h.a8,(ifR (uu h.hp h.a3 t h.a9) (raD h.aI h.aJ h.aK h.a0 h.a1 h.a2 h.a5 h.a6 h.a9 t (Ju h.aA h.aB t)) h.a9),h.aA,(ifR (uu h.hp h.a3 t h.a9) (coX h.aA h.aB t) h.aB),h.aC,h.aD,h.aE,h.aF,h.aG,h.aH,h.aI,h.aJ,h.aK,h.aL,h.aM,h.aN⟩
def HV.tk (h:HV)(n:Int):HV:=⟨(ifR (PQ h.hp h.a3 n h.aF) (tkC h.aI h.aJ h.aK h.a0 h.a1 h.a2 h.a5 h.a6 (KA h.aC h.aD (Dv h.aF n) 100)) h.a0),(ifR (PQ h.hp h.a3 n h.aF) (tkU h.aI h.aJ h.aK h.a0 h.a1 h.a2 h.a5 h.a6 (KA h.aC h.aD (Dv h.aF n) 100)) h.a1),(ifR (PQ h.hp h.a3 n h.aF) (tkE h.aI h.aJ h.aK h.a0 h.a1 h.a2 h.a5 h.a6 (KA h.aC h.aD (Dv h.aF n) 100)) h.a2),h.a3,h.a4,(ifR (PQ h.hp h.a3 n h.aF) (tkF h.aI h.aJ h.aK h.a0 h.a1 h.a2 h.a5 h.a6 (KA h.aC h.aD (Dv h.aF n) 100)) h.a5),(ifR (PQ h.hp h.a3 n h.aF) (tkS h.aI h.aJ h.aK h.a0 h.a1 h.a2 h.a5 h.a6 (KA h.aC h.aD (Dv h.aF n) 100)) h.a6),h.a7,h.a8,h.a9,h.aA,h.aB,h.aC,(ifR (PQ h.hp h.a3 n h.aF) (qeL h.aC h.aD (Dv h.aF n) 100) h.aD),h.aE,(IP (PQ h.hp h.a3 n h.aF) (Dv h.aF n) h.aF),h.aG,h.aH,h.aI,h.aJ,h.aK,h.aL,h.aM,h.aN⟩
def HV.mt (h:HV)  :HV:=⟨h.a0,h.a1,h.a2,h.a3,h.a4,h.a5,h.a6,h.a7,h.a8,h.a9,h.aA,h.aB,h.aC,h.aD,(mtD (OP h.hp h.aI) h.a2 h.a6 h.aE),h.aF,h.aG,h.aH,(mtO (OP h.hp h.aI) h.a2 h.a6 h.aE h.aI),(ac3 (OP h.hp h.aI) h.a2 h.a6 h.aE h.aJ),(ac4 (OP h.hp h.aI) h.a2 h.a6 h.aE h.aK),(ac2 (OP h.hp h.aI) h.a2 h.a6 h.aE h.aL),(Tj (OP h.hp h.aI) h.a2 h.a6 h.aE h.aM),(Tj (OP h.hp h.aI) h.a2 h.a6 h.aE h.aN)⟩
def HV.ms (h:HV)  :HV:=⟨(mcC (FG h.hp h.a3 h.aI) h.a0 h.a1 h.a2 h.a3 h.a4 h.aJ h.aK h.aL h.aM h.aN),(mcU (FG h.hp h.a3 h.aI) h.a0 h.a1 h.a2 h.a3 h.a4 h.aJ h.aK h.aL h.aM h.aN),(mcE (FG h.hp h.a3 h.aI) h.a0 h.a1 h.a2 h.a3 h.a4 h.aJ h.aK h.aL h.aM h.aN),(mcN (FG h.hp h.a3 h.aI) h.a0 h.a1 h.a2 h.a3 h.a4 h.aJ h.aK h.aL h.aM h.aN),h.a4,h.a5,h.a6,h.a7,h.a8,h.a9,h.aA,h.aB,h.aC,h.aD,h.aE,h.aF,h.aG,h.aH,(meB (QA (FG h.hp h.a3 h.aI) h.a0 h.a1 h.a2 h.a3 h.a4 h.aJ h.aK h.aL h.aM h.aN) h.aI),(IP (QA (FG h.hp h.a3 h.aI) h.a0 h.a1 h.a2 h.a3 h.a4 h.aJ h.aK h.aL h.aM h.aN) 0 h.aJ),(IP (QA (FG h.hp h.a3 h.aI) h.a0 h.a1 h.a2 h.a3 h.a4 h.aJ h.aK h.aL h.aM h.aN) 0 h.aK),(ifR (QA (FG h.hp h.a3 h.aI) h.a0 h.a1 h.a2 h.a3 h.a4 h.aJ h.aK h.aL h.aM h.aN) [] h.aL),(IP (QA (FG h.hp h.a3 h.aI) h.a0 h.a1 h.a2 h.a3 h.a4 h.aJ h.aK h.aL h.aM h.aN) 0 (acZ (FG h.hp h.a3 h.aI) h.a0 h.a1 h.a2 h.a3 h.a4 h.aJ h.aK h.aL h.aM h.aN)),(IP (QA (FG h.hp h.a3 h.aI) h.a0 h.a1 h.a2 h.a3 h.a4 h.aJ h.aK h.aL h.aM h.aN) 0 (ac0 (FG h.hp h.a3 h.aI) h.a0 h.a1 h.a2 h.a3 h.a4 h.aJ h.aK h.aL h.aM h.aN))⟩
end Go.V
namespace Go.V
structure Qk (h:HV):Prop where
 w:h.wf=true
def Cb (h:HV):HV.mk h.a0 h.a1 h.a2 h.a3 h.a4 h.a5 h.a6 h.a7 h.a8 h.a9 h.aA h.aB h.aC h.aD h.aE h.aF h.aG h.aH h.aI h.aJ h.aK h.aL h.aM h.aN=h:=rfl
def hvD (h:HV):DV:=.agg (LH h.a0 h.a1 h.a2 h.a3 h.a4 h.a5 h.a6 h.a7 h.a8 h.a9 h.aA h.aB h.aC h.aD h.aE h.aF h.aG h.aH h.aI h.aJ h.aK h.aL h.aM h.aN)
end Go.V
namespace Go.V
section
variable {α β : Type}
def fI (i:Int)(k:Int->β):β:=
 match i with
 | .ofNat n=>(match n with
   |0=>k 0
   |m+1=>k (.ofNat (m+1)))
 | .negSucc n=>k (.negSucc n)
def Lt {i:Int}{k:Int->β}:fI i k=k i:=by
 unfold fI;split
 ·split<;>rfl
 ·rfl
def fB (b:Bool)(k:Bool->β):β:=
 match b with
 |true=>k true
 |false=>k false
def Ls {b:Bool}{k:Bool->β}:fB b k=k b:=by cases b<;>rfl
def Nt (f:α->(α->β)->β):List α->(List α->β)->β
 |[],k=>k []
 |a::l,k=>f a fun a'=>Nt f l fun l'=>k (a'::l')
def vh {f:α->(α->β)->β}(h:∀ a k,f a k=k a):∀ {l:List α} {k:List α->β},Nt f l k=k l
 |[],_=>rfl
 | a::l,k=>by
   show f a (fun a'=>Nt f l fun l'=>k (a'::l'))=k (a::l);rw[h,vh h]
def fL:Nat->L->(L->β)->β
 |0,x,k=>k x
 | n+1,x,k=>match x with
   | .v (.int t i)=>fI i fun j=>k (.v (.int t j))
   | .v (.bool b)=>fB b fun c=>k (.v (.bool c))
   | .s z es=>Nt (Nt (fL n)) es fun es'=>k (.s z es')
   |x=>k x
def Rz:∀ {n:Nat} {x:L} {k:L->β},fL n x k=k x:=by
 intro n
 induction n with
 |zero=>intros;rfl
 | succ n ih=>
   intro x k;unfold fL;split;exact Lt;exact Ls;exact vh (fun a k=>vh (fun a k=>ih));rfl
def fR (l:af)(k:af->β):β:=Nt (Nt (fL 4)) l k
def Lu {l:af}{k:af->β}:fR l k=k l:=vh (fun _ _=>vh (fun _ _=>Rz))
def fH (h:HV)(k:HV->β):β:=
 fR h.a0 fun b0=>fR h.a1 fun b1=>fR h.a2 fun b2=>fI h.a3 fun b3=>fR h.a4 fun b4=>fR h.a5 fun b5=>fR h.a6 fun b6=>fR h.a7 fun b7=>fR h.a8 fun b8=>fR h.a9 fun b9=>fR h.aA fun b10=>fR h.aB fun b11=>fI h.aC fun b12=>fR h.aD fun b13=>fI h.aE fun b14=>fI h.aF fun b15=>fI h.aG fun b16=>fI h.aH fun b17=>fB h.aI fun b18=>fI h.aJ fun b19=>fI h.aK fun b20=>fR h.aL fun b21=>fI h.aM fun b22=>fI h.aN fun b23=>
 k ⟨b0,b1,b2,b3,b4,b5,b6,b7,b8,b9,b10,b11,b12,b13,b14,b15,b16,b17,b18,b19,b20,b21,b22,b23⟩
def Ap {h:HV}{k:HV->β}:fH h k=k h:=by
 simp only[fH,Lu,Lt,Ls]
end
end Go.V
namespace Go.V
def IY:HV:=hvN 12 12 1 300 []
def QE (s a:Int):Nat->HV->Bool
 |0,h=>h.hp&&(h.wf&&qtB h.aD a)
 |n+1,h=>h.wf&&(decide (h.aR 0 s=0)&&(decide (h.aQ 0 s≠a)&&fH (h.al 0 s) (QE s a n)))
set_option maxRecDepth 100000
set_option maxHeartbeats 40000000
def ab3:hnB 12 12 1 300 []=true:=by decide+kernel
structure ME (s a:Int)(h:HV)(i:Int):Prop where
 i0:0<=i
 i1:i<=6
 r:QE s a (6-i).toNat h=true
def ME.wf {s a i:Int}{h:HV}(P:ME s a h i):h.wf=true:=by
 have r:=P.r;cases e:(6-i).toNat with
 |zero=>rw[e]at r;simp only[QE,Zb]at r;exact r.2.1
 |succ n=>rw[e]at r;simp only[QE,Zb]at r;exact r.1
def ME.fin {s a i:Int}{h:HV}(P:ME s a h i)(q:¬ i<6):h.hp=true/\qtB h.aD a=true:=by
 have r:=P.r;rw[show(6-i).toNat=0 by omega]at r;simp only[QE,Zb]at r;exact⟨r.1,r.2.2⟩
def ME.step {s a i:Int}{h:HV}(P:ME s a h i)(q:i<6):h.aR 0 s=0/\h.aQ 0 s≠a/\ME s a (h.al 0 s) (i+1):=by
 have r:=P.r;have i0:=P.i0;rw[show(6-i).toNat=(6- (i+1)).toNat+1 by omega]at r;simp only[QE,Ap,Zb,VI]at r;exact⟨r.2.1,r.2.2.1,Uc,Uc,r.2.2.2⟩
end Go.V
namespace Go.V
def HV.tr (h:HV)(ad z:Int):HV:=⟨(ifR (tvB h.hp h.a3 h.a7 ad z) (tmC h.a0 h.a1 h.a2 h.a7 ad z) h.a0),(ifR (tvB h.hp h.a3 h.a7 ad z) (tmU h.a0 h.a1 h.a2 h.a7 ad z) h.a1),(ifR (tvB h.hp h.a3 h.a7 ad z) (tmE h.a0 h.a1 h.a2 h.a7 ad z) h.a2),h.a3,h.a4,(ifR (tvB h.hp h.a3 h.a7 ad z) (tmF h.a0 h.a1 h.a2 h.a5 h.a7 ad z) h.a5),h.a6,(ifR (tvB h.hp h.a3 h.a7 ad z) (tmL h.a7 ad z) h.a7),(ifR (tvB h.hp h.a3 h.a7 ad z) (tmO h.a8 ad z) h.a8),h.a9,h.aA,h.aB,h.aC,h.aD,h.aE,h.aF,h.aG,h.aH,h.aI,h.aJ,h.aK,h.aL,h.aM,h.aN⟩
def HV.tr1 (h:HV)(ad z:Int):Bool:=(tvB h.hp h.a3 h.a7 ad z)
def HV.st (h:HV)(a v:Int):HV:=⟨(hsC h.hp h.a0 h.a1 h.a2 h.a8 a v),h.a1,h.a2,h.a3,h.a4,h.a5,h.a6,h.a7,h.a8,h.a9,h.aA,h.aB,h.aC,h.aD,h.aE,h.aF,h.aG,h.aH,h.aI,h.aJ,h.aK,h.aL,h.aM,h.aN⟩
def HV.st1 (h:HV)(a v:Int):Int:=(hsK h.hp h.a0 h.a1 h.a2 h.a8 a v)
end Go.V
namespace Go.V
section
variable {α : Type}
def yj (f:α->α->Bool):List α->List α->Bool
 |[],[]=>true
 |a::l,b::m=>f a b&&yj f l m
 |_,_=>false
def qi {f:α->α->Bool}(h:∀ a b,f a b=true->a=b):∀ {l m:List α},yj f l m=true->l=m
 |[],[],_=>rfl
 | a::l,b::m,q=>by
   simp only[yj,Zb]at q;rw[h a b q.1,qi h q.2]
 |[],_::_,q=>by simp[yj]at q
 |_::_,[],q=>by simp[yj]at q
end
def Gw:Nat->L->L->Bool
 |_,.v (.int k i),.v (.int k' j)=>decide (k=k')&&decide (i=j)
 |_,.v (.bool b),.v (.bool c)=>decide (b=c)
 |n+1,.s z es,.s z' fs=>decide (z=z')&&yj (yj (Gw n)) es fs
 |_,_,_=>false
def JC:∀ {n:Nat} {x y:L},Gw n x y=true->x=y:=by
 intro n
 induction n with
 | zero=>
   intro x y h;unfold Gw at h;split at h
   ·simp only[Zb,VI]at h;rw[h.1,h.2]
   ·rw[VL h]
   ·rename_i e;cases e
   ·cases h
 | succ n ih=>
   intro x y h;unfold Gw at h;split at h
   ·simp only[Zb,VI]at h;rw[h.1,h.2]
   ·rw[VL h]
   ·rename_i e;cases e;simp only[Zb,VI]at h;rw[h.1,qi (fun a b q=>qi (fun a b q=>ih q) q) h.2]
   ·cases h
def qj (l m:af):Bool:=yj (yj (Gw 4)) l m
def fq {l m:af}(h:qj l m=true):l=m:=qi (fun _ _ q=>qi (fun _ _ q=>JC q) q) h
def HV.hr (h:HV):Bool:=
 rgOk h.a2.length h.a5&&(layOk h.a6 h.a7&&(pgI h.a2 h.a5 h.a6 h.a7&&(mailOk h.aA h.aB&&(decide (h.a9.length=h.aA.length)&&(quarOk h.aC h.aD&&(dj (M3 h.a9) h.a9.length&&
  (objOk h.a6 h.a7 h.a8 h.a9 h.aH&&(hoI h.a6 h.a7 h.a8 h.a9 h.aA h.aB h.aD h.aF&&(inR h.aE 0 1073741823&&(inR h.aF 0 1000000&&(inR h.aG 0 1000&&(inR h.aH 1 1000000&&vy h.a6 h.aI h.aJ h.aK h.aL h.aM h.aN))))))))))))
def HV.hp_k {h:HV}:h.hp=(kerOk h.a0 h.a1 h.a2 h.a3 h.a4&&h.hr):=rfl
def HV.eqr (h y:HV):Bool:=
 qj h.a2 y.a2&&(qj h.a5 y.a5&&(qj h.a6 y.a6&&(qj h.a7 y.a7&&(qj h.a8 y.a8&&(qj h.a9 y.a9&&(qj h.aA y.aA&&(qj h.aB y.aB&&(decide (h.aC=y.aC)&&(qj h.aD y.aD&&(decide (h.aE=y.aE)&&(decide (h.aF=y.aF)&&(decide (h.aG=y.aG)&&(decide (h.aH=y.aH)&&(decide (h.aI=y.aI)&&(decide (h.aJ=y.aJ)&&(decide (h.aK=y.aK)&&(qj h.aL y.aL&&(decide (h.aM=y.aM)&&decide (h.aN=y.aN)))))))))))))))))))
end Go.V
namespace Go.V
def JB (h y:HV):Bool:=qj h.a0 y.a0&&(qj h.a1 y.a1&&(decide (h.a3=y.a3)&&(qj h.a4 y.a4&&h.eqr y)))
def DI {h y:HV}(q:JB h y=true):h=y:=by
 simp only[JB,HV.eqr,Zb,VI]at q;obtain⟨q0,q1,q3,q4,q2,q5,q6,q7,q8,q9,q10,q11,q12,q13,q14,q15,q16,q17,q18,q19,q20,q21,q22,q23⟩:=q;cases h;cases y;simp only at*;rw[fq q0,fq q1,fq q2,q3,fq q4,fq q5,fq q6,fq q7,fq q8,fq q9,fq q10,fq q11,q12,fq q13,q14,q15,q16,q17,q18,q19,q20,fq q21,q22,q23]
def QG (fs:af):Nat->Int
 |0=>0
 |n+1=>bK .add Za (QG fs n) (ag fs n 1)
def HV.cL (h:HV)(n:Int):af:=ctsL h.hp h.a8 h.a0 h.a2 n
def HV.cB (h:HV)(n:Int):Bool:=ctsB h.hp h.a8 n
def HV.rg (h:HV):Int:=QG h.a5 h.a5.length
def iR (x:Int):L:=.i x
def g35 (c p l e x:Int):HV:=
 ⟨(Ze 12).map fun(k:Nat)=>[.s 1 ((Ze 16).map fun(j:Nat)=>[iR (if k=0/\j=3 then 7 else if((16*k+j:Nat):Int)=e then x else 0)])],
  (Ze 12).map fun(k:Nat)=>[.v (.bool (decide ((k:Int)<p)))],
  (Ze 12).map fun(k:Nat)=>if(k:Int)<p then[iR 2,iR k]else[iR 0,iR 0],
  c,[],[[iR p,iR (12-p)]],[],[[iR 0,iR p,iR l]],[[iR 1,iR 0,iR l,iR 0]],
  [[.s 1 [[.s 1 []],[.s 1 []],[.s 1 []],[.s 1 []]]]],[[.s 2 []]],[[.s 1 []]],16,[],0,0,300,2,false,0,0,[],0,0⟩
def S35 (z:Int):HV:=g35 (pfN z) (pfN z) z (z-1) 9
def X35 (c l:Int):HV:=g35 c (pfN l) l 0 0
def m35 (z:Int):HV:=(IY.al 0 z).st (bK .add Za 0 3) 7
def H2 (z:Int):HV:=(m35 z).st (bK .sub Za (bK .add Za 0 z) 1) 9
def IU (z:Int):Bool:=
 IY.wf&&(decide (IY.aR 0 z=0)&&(decide (IY.aQ 0 z=0)&&fH (IY.al 0 z) fun h=>h.wf&&fH (h.st (bK .add Za 0 3) 7) fun m=>m.wf&&fH (m.st (bK .sub Za (bK .add Za 0 z) 1) 9) fun s=>s.wf&&JB s (S35 z)))
def p35 (z:Int):Bool:=fH (S35 z) fun s=>(Ze (z-9).toNat).all fun l=>s.tr1 0 (9+l:Nat)&&fH (s.tr 0 (9+l:Nat)) fun x=>JB x (X35 (pfN z) (9+l:Nat))
def L9 (c l:Int):Bool:=fH (X35 c l) fun x=>x.wf&&(x.hp&&(oiB x.a8 1&&fR (ctsL true x.a8 x.a0 x.a2 1) fun t=>decide ((t.length:Int)=l)&&(decide (ag t 3 0=7)&&(decide (hlK (ooI true x.a8 (bK .add Za 0 l))=1)&&decide (x.rg=bK .sub Za 12 (pfN l))))))
set_option maxRecDepth 100000
set_option maxHeartbeats 40000000
end Go.V