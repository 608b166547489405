/- Plain facts. -/
import Derived.Test.YtpldpilhgjpkjaaGreatYHB
set_option linter.all false
open Go
open BitVec renaming ofInt_natCast->Xg,toNat_ofNat->Y2,toInt_eq_toNat_of_lt->Wd
open Bool renaming true_and->Yx,and_eq_true->Zc,not_eq_true'->Ys,and_false->Yf,or_eq_true->Z6,noConfusion->Xj
open Int renaming toNat_natCast->ZJ,toNat->YX,one_mul->Wa,eq_ofNat_of_zero_le->Z8,toNat_of_nonneg->Zr,mul_ediv_add_emod->WQ,le_refl->Yn,not_le->WR
open IntKind renaming i64->Zt,wrap->YY,i64->Za
open List renaming take->Z7,drop->Ym,take_of_length_le->Yl,length_drop->Zo,length_cons->Zj,length_nil->Zl,mem_cons->Zk,length_set->Zw,getD_eq_getElem?_getD->Zn,getElem?_append_left->ZR,length_take->Zg,getElem?_take_of_lt->Y4,getElem?_append_right->ZP,length_append->Zf,mem_of_mem_drop->Yt,mem_of_mem_take->Xh,getElem?_set_self->Xi,set_set->Wi,mem_append->Zh
open Nat renaming le_refl->Ze,le_trans->ZI,zero_le->ZC
open Option.some renaming injEq->Z9
open Value renaming int->Zi
namespace Go.V
theorem sX {o:af}{n:Int}{j:Nat}(h:Rw [tI,tI,tI] o)(n0:0<=n)(n1:n<o.length)(hj:j<3):∃ rec o',bQ (L.s 3 o) [(n.toNat,j)]=some (rec,o')/\o'+[L.v (Zi Zt 0)].length<=rec.length/\Z7 [L.v (Zi Zt 0)].length (Ym o' rec)=jL am (L.s 3 o) [(n.toNat,j)] 0 [L.v (Zi Zt 0)]:=by
 rcases(show j=0\/j=1\/j=2 by omega)with rfl|rfl|rfl
 ·exact d8 (z0:=[.i 0,.i 0,.i 0]) (z:=[.i 0]) h.wf (by omega) rfl (by decide)
 ·exact d8 (z0:=[.i 0,.i 0,.i 0]) (z:=[.i 0]) h.wf (by omega) rfl (by decide)
 ·exact d8 (z0:=[.i 0,.i 0,.i 0]) (z:=[.i 0]) h.wf (by omega) rfl (by decide)
section
variable {a0 a1 a2: af} {a3: Int} {a4 a5 a6 a7 a8 a9 aA aB: af} {aC: Int} {aD: af} {aE aF aG aH: Int} {aI: Bool} {aJ aK: Int} {aL: af} {aM aN: Int} {i: Int}
theorem Si {t l:Int}(m:k9 a0 a1 a2)(h0:Rw [.sl [tI]] a0)(h1:Rw [tB] a1)(h2:Rw [tI,tI] a2):k9 (duC a0 a1 a2 t l) (duU a0 a1 a2 t l) (duE a0 a1 a2 t l)/\Rw [.sl [tI]] (duC a0 a1 a2 t l)/\Rw [tB] (duU a0 a1 a2 t l)/\Rw [tI,tI] (duE a0 a1 a2 t l)/\(duE a0 a1 a2 t l).length=a2.length/\av (duC a0 a1 a2 t l)<=1024/\av (duU a0 a1 a2 t l)<=64/\av (duE a0 a1 a2 t l)<=64:=by
 have h:=Ea (t:=t) m h0 h1 h2 l.toNat;have e:∀ X:af->af->af->Int->Int->af,True:=fun _=>trivial
 have c:duC a0 a1 a2 t l=duC a0 a1 a2 t (l.toNat:Int):=by unfold duC;rw[ZJ]
 have u:duU a0 a1 a2 t l=duU a0 a1 a2 t (l.toNat:Int):=by unfold duU;rw[ZJ]
 have s:duE a0 a1 a2 t l=duE a0 a1 a2 t (l.toNat:Int):=by unfold duE;rw[ZJ]
 rw[c,u,s];exact⟨h.m,h.rc,h.ru,h.re,h.l,yE h⟩
theorem Sg (hc:mZ a0 a1 a2 a4 a5 a6 a7 a8 a9 aA aB aD aL):mZ a0 a1 a2 a4 a5 (delL a6 i (i+1)) a7 a8 a9 aA aB aD aL:=by
 have s:=uc (i:=i) (j:=i+1) hc.r6 (by omega);have c6:=hc.c6;have n6:=hc.r6.cnt rfl;have z6:=s.1.cnt rfl;exact⟨hc.r0,hc.r1,hc.r2,hc.r4,hc.r5,s.1,hc.r7,hc.r8,hc.r9,hc.r10,hc.r11,hc.r13,hc.r21,hc.c0,hc.c1,hc.c2,hc.c4,hc.c5,by rw[z6];have:=s.2;omega,hc.c7,hc.c8,hc.c9,hc.c10,hc.c11,hc.c13,hc.c21⟩
theorem Ol {a6:af}{i:Int}(i0:0<=i)(i1:i<a6.length):[]++mi a6 (YX 0) (BS i 0)++mi a6 (i+1).toNat (BS (a6.length:Int) (i+1))=dsS a6 i:=by
 unfold dsS delL mi BS;rw[List.nil_append];have e:Z7 (((a6.length:Int).toNat- (i+1).toNat:Nat)) (Ym (i+1).toNat a6)=Ym (i+1).toNat a6:=Yl (by rw[Zo];omega);rw[e];simp
theorem acP:dsF a0 a1 a2 a5 a6 i=rpL (zlI (Ab a2 (ag a6 i 0))) a5 (ag a6 i 0) 1:=by unfold dsF;rw[GW.2.2]
section
variable {k m: Bool} {c x y p: Int} {sp: af}
end
theorem SI (h:hpI a0 a1 a2 a3 a4 a5 a6 a7 a8 a9 aA aB aC aD aE aF aG aH aI aJ aK aL aM aN=true):a5.length<=32:=by
 have T:=vX (je h).r;have n:=T.n1;have:∀ (l:List Pr) (t:Int),Ji l->(∀ x∈l,t<=x.1/\1<=x.2/\x.1+x.2<=(a2.length:Int))->t+l.length<=(a2.length:Int)\/l=[]:=by
  intro l
  induction l with
  |nil=>intro t _ _;exact .inr rfl
  | cons x l ih=>
    intro t c b;have bx:=b x (by simp);refine .inl ?_;rcases ih (x.1+x.2) (GK c) (fun y hy=>by have:=Cl c y hy;have:=b y (by simp[hy]);omega)with q|q
    ·rw[Zj];omega
    ·rw[q];simp only[Zj,Zl];omega
 have q:=this (pR a5) 0 T.c (fun x hx=>by have:=T.b x hx;omega);rw[oS]at q;rcases q with q|q;omega
 ·have:=congrArg List.length q;rw[oS]at this;simp at this;rw[this];decide
end
end Go.V
namespace Go.V
section
variable {a0 a1 a2: af} {a3: Int} {a4 a5 a6 a7 a8 a9 aA aB: af} {aC: Int} {aD: af} {aE aF aG aH: Int} {aI: Bool} {aJ aK: Int} {aL: af} {aM aN: Int} {p: Int}
end
end Go.V
namespace Go.V
end Go.V
namespace Go.V
def ltB (p n s z:Int):Bool:=lgOk p n s&&inR z 9 s
structure LtT (p n s z:Int):Prop where
 g:lgOk p n s=true
 zi:inR z 9 1000=true
 z0:9<=z/\z<=1000/\z<=s
 p0:0<=p
 n1:p+n<=32
 m0:1<=pfN z/\pfN z<=n
 m1:z<=pfN z*16/\pfN z*16<z+16
theorem HU {cs us es:af}{p:Int}(m:k9 cs us es)(h:peM es p≠0):0<=peF es p/\peF es p<cs.length:=by
 have q:=Ey m (p:=p) (VI h);have e:=Ig h;rw[e.2.2];exact q
def pmB (p ad:Int):Bool:=eqB (bO .mul Za p 16) ad
def AW (lg:af)(ad j:Int):Bool:=pmB (ag lg j 0) ad
def lhI (lg:af)(ad:Int):Int:=cQ (AW lg ad) lg.length
def Rm (cs:af)(f k:Int):Nat->af
 |0=>cs
 |i+1=>pj (Rm cs f k i) f (k+i) 0
def tcC (cs es:af)(a n:Int):af:=Rm cs (peF es (a/16)) (a%16) n.toNat
structure NF (cs us es:af)(f k i:Int)(c:af):Prop where
 e:c=Rm cs f k i.toNat
 m:k9 c us es
 w:Rw [.sl [tI]] c
section
variable {cs us es c: af} {f k i p: Int}
theorem Nb (m:k9 cs us es)(w:Rw [.sl [tI]] cs):NF cs us es f k 0 cs:=⟨rfl,m,w⟩
theorem IX (h:NF cs us es f k i c)(i0:0<=i)(hp:peM es p≠0)(ef:peF es p=f)(k0:0<=k)(k1:k+i<16):NF cs us es f k (i+1) (pj c f (k+i) 0):=by
 refine⟨?_,aby h.m hp ef (by omega) k1 (by omega) (by omega),(have fr:=HU h.m hp;IT h.w (by omega) (by omega) (by omega))⟩;rw[show(i+1).toNat=i.toNat+1 by omega,h.e];show _=pj (Rm cs f k i.toNat) f (k+(i.toNat:Int)) 0;rw[show(k+(i.toNat:Int))=k+i by omega]
theorem LA (h:NF cs us es f k i c){n:Int}(i1:i<=n)(i2:n<=i):c=Rm cs f k n.toNat:=by rw[h.e,show i=n by omega]
theorem E2 (m:k9 cs us es)(w:Rw [.sl [tI]] cs)(hp:peM es p≠0)(ef:peF es p=f)(k0:0<=k):∀ n:Nat,k+n<=16->NF cs us es f k n (Rm cs f k n)
 |0,_=>Nb m w
 | n+1,h=>by
   have q:=IX (E2 m w hp ef k0 n (by omega)) (by omega) hp ef k0 (by omega);have e:((n+1:Nat):Int)=(n:Int)+1:=by omega
   rw[e];exact q
end
end Go.V
namespace Go.V
def QH (a7:af)(ad:Int):Int:=ag a7 (lhI a7 ad) 0
def tmN (a7:af)(ad:Int):Int:=ag a7 (lhI a7 ad) 1
def tmS (a7:af)(ad:Int):Int:=ag a7 (lhI a7 ad) 2
def tmD (a0 a2 a7:af)(ad z:Int):af:=tcC a0 a2 (QH a7 ad*16+z) ((16- (QH a7 ad*16+z)%16)%16)
theorem Fh {c u e:af}{t:Int}:duC c u e t 0=c/\duU c u e t 0=u/\duE c u e t 0=e:=⟨rfl,rfl,rfl⟩
section
variable {a0 a1 a2: af} {a3: Int} {a4 a5 a6 a7 a8 a9 aA aB: af} {aC: Int} {aD: af} {aE aF aG aH: Int} {aI: Bool} {aJ aK: Int} {aL: af} {aM aN ad z k: Int}
structure TmT (a1 a2 a5 a7 a8 a0:af)(ad z:Int):Prop where
 k0:0<=lhI a7 ad
 k1:lhI a7 ad<a7.length
 p:QH a7 ad*16=ad
 t:LtT (QH a7 ad) (tmN a7 ad) (tmS a7 ad) z
 b:ltB (QH a7 ad) (tmN a7 ad) (tmS a7 ad) z=true
 o0:0<=obI a8 ad
 o1:obI a8 ad<a8.length
 m:k9 a0 a1 a2
 g:∀ q:Int,QH a7 ad<=q->q<QH a7 ad+tmN a7 ad->peM a2 q≠0
 f:a5.length<=32
 d:k9 (tmD a0 a2 a7 ad z) a1 a2
 dw:Rw [.sl [tI]] (tmD a0 a2 a7 ad z)
theorem ad3 {lg:af}(h:0<=lhI lg ad):lhI lg ad<lg.length/\bO .mul Za (ag lg (lhI lg ad) 0) 16=ad:=by
 have t:=fG h;change lhI lg ad<lg.length/\AW lg ad (lhI lg ad)=true at t;exact⟨t.1,VN t.2⟩
theorem aey {es:af}{x y w:Int}{n:Nat}(h:Rw [tI,tI,tI] es)(hx: -9223372036854775808<=x/\x<=9223372036854775807)(hy: -9223372036854775808<=y/\y<=9223372036854775807)(hw: -9223372036854775808<=w/\w<=9223372036854775807):Rw [tI,tI,tI] (es.set n [.i x,.i y,.i w]):=Rw.set h (show bR [tI,tI,tI] [.i x,.i y,.i w]from⟨⟨rfl,hx⟩,⟨rfl,hy⟩,⟨rfl,hw⟩,trivial⟩) _
end
end Go.V
namespace Go.V
theorem sW {o:af}{n:Int}(h:Rw [tI,tI,tI] o)(n0:0<=n)(n1:n<o.length):∃ rec o',bQ (L.s 3 o) [(n.toNat,0)]=some (rec,o')/\o'+[L.v (Zi Zt 0),L.v (Zi Zt 0),L.v (Zi Zt 0)].length<=rec.length/\Z7 [L.v (Zi Zt 0),L.v (Zi Zt 0),L.v (Zi Zt 0)].length (Ym o' rec)=jL am (L.s 3 o) [(n.toNat,0)] 0 [L.v (Zi Zt 0),L.v (Zi Zt 0),L.v (Zi Zt 0)]:=
 d8 (z0:=[.i 0,.i 0,.i 0]) (z:=[.i 0,.i 0,.i 0]) h.wf (by omega) rfl (by decide)
theorem abB {o:af}{n:Int}(h:Rw [tI,tI,tI] o)(n0:0<=n)(n1:n<o.length):∃ rec o',bQ (.s 3 o) [(n.toNat,0)]=some (rec,o')/\o'+3<=rec.length:=eL (by omega) (by rw[h.eta n0 n1];exact Ze _)
section
variable {a0 a1 a2 a5 a7 a8 c: af} {ad z x: Int}
end
end Go.V
namespace Go.V
section
variable {a0 a1 a2: af} {a3: Int} {a4 a5 a6 a7 a8 a9 aA aB: af} {aC: Int} {aD: af} {aE aF aG aH: Int} {aI: Bool} {aJ aK: Int} {aL: af} {aM aN ad z: Int}
end
end Go.V
namespace Go.V
def c1N (c:Int):Int:=c+1
def nhR (rs:af)(c:Int):Bool:= !hasB rs c
def kqN (k:Bool)(c:Int):Int:=if k=true then c+1 else c
section
variable {cs us es rs: af} {c p q m: Int}
end
theorem AZ {b x e b' x' e' r r':af}{c c':Int}{z z':Bool}(h1:b=b')(h2:x=x')(h3:e=e')(h4:c=c')(h5:r=r')(h6:z=z'):[DV.agg [.s 1 b,.s 1 x,.s 2 e,.i c,.s 1 r],DV.k z]=[DV.agg [.s 1 b',.s 1 x',.s 2 e',.i c',.s 1 r'],DV.k z']:=by rw[h1,h2,h3,h4,h5,h6]
end Go.V
namespace Go.V
def kcB (es:af)(p q:Int)(xs:af):Bool:=mapB es p&&(mapB es q&&inR (ag xs 0 0) 0 15)
def kcC (cs es:af)(p q:Int)(xs:af):af:=if kcB es p q xs=true then pj cs (peF es q) (ag xs 0 0) (ag (aO cs (peF es p) 0) (ag xs 0 0) 0)else cs
structure KcP (cs es:af)(p q:Int)(xs:af)(i:Int)(d:af):Prop where
 z:i=0->d=cs
 o:0<i->inR (ag xs 0 0) 0 15=true/\d=pj cs (peF es q) (ag xs 0 0) (ag (aO cs (peF es p) 0) (ag xs 0 0) 0)
section
variable {cs us es xs d: af} {p q i: Int}
end
end Go.V
namespace Go.V
def x1R (xs:af)(n:Int):af:=[[.i (ag xs n 0)]]
def Jj (b:Bool)(x y:Int):Int:=if b=true then x else y
def jmB (k:Bool)(es:af)(kp mv:Int)(xs:af)(ph nx:Int):Bool:=k&&(jbOk kp mv xs ph nx&&(mapB es kp&&(mapB es mv&& !decide (peF es kp=peF es mv))))
def jsC (cs us es:af)(c:Int)(rs:af)(kp mv:Int)(xs:af)(ph nx:Int):af:=
 if ph=1 then(if nx=xs.length then cs else kcC cs es mv kp (x1R xs nx))else if ph=2 then koC cs es c rs mv kp else if ph=3/\0<nx then stC cs us es (kp*16+ag xs (nx-1) 0) 0 else cs
def jsU (us es:af)(c:Int)(rs:af)(kp mv ph:Int):af:=if ph=2 then koU us es c rs mv kp else us
def jsE (es:af)(c:Int)(rs:af)(kp mv ph nx:Int):af:=
 if ph=0 then kpE es c rs mv 1 else if ph=2 then koE es c rs mv kp else if ph=3/\¬ 0<nx then kpE es c rs mv 2 else es
def jsN (c ph nx:Int):Int:=if ph=0\/ph=2\/(ph=3/\¬ 0<nx)then c+1 else c
def jsP (es:af)(c:Int)(rs:af)(kp mv:Int)(xs:af)(ph nx:Int):Int:=
 if ph=0 then(if kpB es c rs mv 1=true then 1 else 5)else if ph=1 then(if nx=xs.length then 2 else 1)else if ph=2 then(if koB es c rs mv kp=true then 4 else 3)else
 if ph=3 then(if¬ 0<nx/\kpB es c rs mv 2=true then 5 else 3)else ph
def jsX (xs:af)(ph nx:Int):Int:=if ph=1/\nx≠xs.length then nx+1 else if ph=3/\0<nx then nx-1 else nx
section
variable {cs us es rs xs: af} {c kp mv ph nx: Int} {k: Bool}
structure JbT (kp mv:Int)(xs:af)(ph nx:Int):Prop where
 k0:0<=kp
 k1:kp<=31
 m0:0<=mv
 m1:mv<=31
 p0:0<=ph
 p1:ph<=5
 n0:0<=nx
 n1:nx<=xs.length
 x:∀ i:Int,0<=i->i<xs.length->0<=ag xs i 0/\ag xs i 0<=15
def ael (ph:Int):Bool:=decide (ph=4)||decide (ph=5)
end
end Go.V
namespace Go.V
def Gc (k:Bool)(c:Int)(me:Bool):Bool:=k&&(decide (c<=99000)&&me)
def Rf (a0 a1 a2:af)(a3:Int)(a4:af)(aJ aK:Int)(aL:af)(aM aN:Int):Bool:=jmB (ccB a0 a1 a2 a3 a4) a2 aJ aK aL aM aN
def mzN (a0 a1 a2:af)(a3:Int)(a4:af)(aJ aK:Int)(aL:af)(aM aN:Int):Int:=Jj (Rf a0 a1 a2 a3 a4 aJ aK aL aM aN) (jsP a2 a3 a4 aJ aK aL aM aN) aM
def myN (a0 a1 a2:af)(a3:Int)(a4:af)(aJ aK:Int)(aL:af)(aM aN:Int):Int:=Jj (Rf a0 a1 a2 a3 a4 aJ aK aL aM aN) (jsX aL aM aN) aN
def mcC (g:Bool)(a0 a1 a2:af)(a3:Int)(a4:af)(aJ aK:Int)(aL:af)(aM aN:Int):af:=ifR (g&&Rf a0 a1 a2 a3 a4 aJ aK aL aM aN) (jsC a0 a1 a2 a3 a4 aJ aK aL aM aN) a0
def mcU (g:Bool)(a0 a1 a2:af)(a3:Int)(a4:af)(aJ aK:Int)(aL:af)(aM aN:Int):af:=ifR (g&&Rf a0 a1 a2 a3 a4 aJ aK aL aM aN) (jsU a1 a2 a3 a4 aJ aK aM) a1
def mcE (g:Bool)(a0 a1 a2:af)(a3:Int)(a4:af)(aJ aK:Int)(aL:af)(aM aN:Int):af:=ifR (g&&Rf a0 a1 a2 a3 a4 aJ aK aL aM aN) (jsE a2 a3 a4 aJ aK aM aN) a2
def mcN (g:Bool)(a0 a1 a2:af)(a3:Int)(a4:af)(aJ aK:Int)(aL:af)(aM aN:Int):Int:=Jj (g&&Rf a0 a1 a2 a3 a4 aJ aK aL aM aN) (jsN a3 aM aN) a3
def Rh (g:Bool)(a0 a1 a2:af)(a3:Int)(a4:af)(aJ aK:Int)(aL:af)(aM aN:Int):Bool:=g&&ael (mzN a0 a1 a2 a3 a4 aJ aK aL aM aN)
def meB (o me:Bool):Bool:= !o&&me
section
variable {a0 a1 a2: af} {a3: Int} {a4 a5 a6 a7 a8 a9 aA aB: af} {aC: Int} {aD: af} {aJ aK: Int} {aL: af} {aM aN: Int} {g: Bool}
end
end Go.V
namespace Go.V
def woN (b i:Int):Int:=if slB b i=true then bO .andNot Za b (IN .shl Za 1 i)else b
theorem NH {a b:Int}:bO .andNot Za a b=(q8 a&&& ~~~ q8 b).toInt:=zW _
theorem M8 {t:Nat}(ht:t<=15):IN .shl Za 1 (t:Int)=((2^t:Nat):Int):=by
 show YY Za (1*2^(min (t:Int).toNat 64))=_;rw[show min (t:Int).toNat 64=t by omega,Wa];have h:t=0\/t=1\/t=2\/t=3\/t=4\/t=5\/t=6\/t=7\/t=8\/t=9\/t=10\/t=11\/t=12\/t=13\/t=14\/t=15:=by omega
 rcases h with rfl|rfl|rfl|rfl|rfl|rfl|rfl|rfl|rfl|rfl|rfl|rfl|rfl|rfl|rfl|rfl<;>rfl
theorem Ja {b:Int}{i t:Nat}(b0:0<=b)(b1:b<65536)(hi:i<=15)(ht:t<=15):(0<=woN b i/\woN b i<=b)/\hsB (woN b i) t=(hsB b t&&decide (t≠i)):=by
 have hs:slB b i=true:=Bm.2 ⟨b0,by omega,by omega⟩;obtain⟨n,rfl⟩:=Z8 b0;have w:woN (n:Int) i=(q8 n&&& ~~~ q8 ((2^i:Nat):Int)).toInt:=by unfold woN;rw[VL hs,M8 hi,NH]
 have x:(q8 (n:Int)).toNat=n:=by unfold q8;rw[Xg,Y2];omega
 have l:(q8 (n:Int)&&& ~~~ q8 ((2^i:Nat):Int)).toNat<=n:=by rw[BitVec.toNat_and];exact ZI Nat.and_le_left (by rw[x];exact Ze _)
 have e:(q8 (n:Int)&&& ~~~ q8 ((2^i:Nat):Int)).toInt=((q8 (n:Int)&&& ~~~ q8 ((2^i:Nat):Int)).toNat:Int):=Wd (by omega);have bd:0<=woN (n:Int) i/\woN (n:Int) i<=n:=by rw[w,e];omega
 refine⟨bd,?_⟩;rw[CB bd.1 (by omega) ht,CB b0 b1 ht,w,NN,BitVec.getLsbD_and,BitVec.getLsbD_not];have p:(q8 ((2^i:Nat):Int)).getLsbD t=decide (t=i):=by
  unfold q8;rw[Xg,BitVec.getLsbD_ofNat,Nat.testBit_two_pow,VI (show t<64 by omega),Yx];by_cases c:t=i
  ·rw[VI c,VI c.symm]
  ·rw[VJ c,VJ (fun e=>c e.symm)]
 rw[p,VI (show t<64 by omega),Yx];by_cases c:t=i
 ·rw[VI c,VJ (fun h=>h c)];rfl
 ·rw[VJ c,VI c];rfl
theorem Km {t:Int}:hsB 0 t=false:=by
 cases q:hsB 0 t with
 |false=>rfl
 | true=>
   exfalso;have s:slB 0 t=true:=by
    cases s:slB 0 t with
    |true=>rfl
    |false=>rw[Hn s]at q;cases q
   have r:=Bm.1 s;obtain⟨n,rfl⟩:=Z8 r.2.1;rw[CB (by omega) (by omega) (by omega)]at q;simp[q8]at q
structure q7 (S:af):Prop where
 s:∀ i:Nat,i<S.length->spOk (ag S i 0) (ag S i 1) (ag S i 2)=true
 d:∀ i j:Nat,i<S.length->j<S.length->ag S i 0=ag S j 0->i=j
structure oZ (S:af)(a:Int)(i:Nat):Prop where
 l:i<S.length
 p:ag S i 0=a/16
 b:hsB (ag S i 2) ((a-ag S i 0*16)/clsSz (ag S i 1))=true
 o:(a-ag S i 0*16)%clsSz (ag S i 1)=0
theorem IR {sp lg:af}(h:LO sp lg):q7 sp:=⟨h.s,h.ss⟩
section
variable {S: af} {a b: Int} {i j: Nat}
theorem MA (g:q7 S)(h:oZ S a i):BX (ag S i 0) (ag S i 1) (ag S i 2) a=true:=by
 have p:=h.p;exact si.2 ⟨g.s i h.l,by omega,by omega⟩
theorem jQ (g:q7 S)(h:oZ S a i):fU S a=i/\spI S (a/16)=i/\wT S a i=(a-ag S i 0*16)/clsSz (ag S i 1):=by
 have t:=MA g h;refine⟨?_,?_,?_⟩
 ·refine du (fun k k0 k1=>?_) (by omega) (by have:=h.l;omega) (v9.2 t);refine ft ?_;cases c:ya S a k with
  |false=>rfl
  | true=>
    exfalso;have u:=(si.1 (v9.1 c)).2;have p:=h.p;have e:=g.d k.toNat i (by have:=h.l;omega) h.l (by rw[Zr k0];omega);omega
 ·refine du (fun k k0 k1=>?_) (by omega) (by have:=h.l;omega) (vm h.p);refine ft ?_;cases c:isSp S (a/16) k with
  |false=>rfl
  | true=>
    exfalso;have c':ag S k 0=a/16:=VN c;have p:=h.p;have e:=g.d k.toNat i (by have:=h.l;omega) h.l (by rw[Zr k0];omega);omega
 ·unfold wT saS;rw[VL t]
end
end Go.V
namespace Go.V
def Eg (S:af)(i s:Int):af:=S.set i.toNat [.i (ag S i 0),.i (ag S i 1),.i (woN (ag S i 2) s)]
def jn (S:af)(a:Int):af:=Eg S (fU S a) (wT S a (fU S a))
def BU (me:Bool)(kp mv:Int)(S:af)(a:Int):Bool:=decide (ag (jn S a) (fU S a) 2=0)&& !bsB me kp mv (ag (jn S a) (fU S a) 0)
structure zY where
 C:af
 U:af
 E:af
 F:af
 S:af
def f1 (me:Bool)(kp mv:Int)(s:zY)(a:Int):zY:=
 ⟨ifR (BU me kp mv s.S a) (dsC s.C s.U s.E (jn s.S a) (fU s.S a)) s.C,ifR (BU me kp mv s.S a) (dsU s.C s.U s.E (jn s.S a) (fU s.S a)) s.U,ifR (BU me kp mv s.S a) (dsE s.C s.U s.E (jn s.S a) (fU s.S a)) s.E,
  ifR (BU me kp mv s.S a) (dsF s.C s.U s.E s.F (jn s.S a) (fU s.S a)) s.F,ifR (BU me kp mv s.S a) (dsS (jn s.S a) (fU s.S a)) (jn s.S a)⟩
structure LK (s:zY):Prop where
 m:k9 s.C s.U s.E
 rc:Rw [.sl [tI]] s.C
 ru:Rw [tB] s.U
 re:Rw [tI,tI] s.E
 rf:Rw [tI,tI] s.F
 rs:Rw [tI,tI,tI] s.S
 lf:s.F.length<=65
 ls:s.S.length<=1073741824
 g:q7 s.S
theorem GL {n:Int}:∀ {l:List Pr},Ji l->(∀ x∈l,1<=x.2/\x.1+x.2<=n)->∀ {m:Int},(∀ x,l.head?=some x->m<=x.1)->l=[]\/m+l.length<=n
 |[],_,_,_,_=>.inl rfl
 |[x],_,b,m,h=>.inr (by have:=b x (by simp);have:=h x rfl;simp only[Zj,Zl];omega)
 | x::y::l,c,b,m,h=>by
   have q:=GL (l:=y::l) c.2.2 (fun z hz=>b z (by simp only[Zk]at hz ⊢;exact .inr hz)) (m:=m+1) (fun z hz=>by
    simp only[List.head?_cons,Z9]at hz;subst hz;have:=b x (by simp);have:=h x rfl;have:=c.2.1;omega)
   rcases q with q|q
   ·cases q
   ·right;simp only[Zj]at q ⊢;omega
theorem Iw {n:Int}{rs:af}(h:rgOk n rs=true):rs.length<=32:=by
 have T:=vX h;have q:=GL (n:=n) T.c (fun x hx=>⟨(T.b x hx).2.1,(T.b x hx).2.2⟩) (m:=0) (fun x hx=>(T.b x (List.mem_of_mem_head? hx)).1);have l:(pR rs).length=rs.length:=by unfold pR;rw[List.length_map]
 have n1:=T.n1;rcases q with q|q
 ·rw[q]at l;simp only[Zl]at l;omega
 ·omega
theorem Lh {n a l:Int}{rs:af}(w:Rw [tI,tI] rs)(hl:rs.length<=65):(rpL n rs a l).length<=65:=by
 cases h:rpB n rs a l with
 |false=>rw[IC h];exact hl
 | true=>
   have g:rgOk n rs=true:=by unfold rpB at h;simp only[Zc]at h;exact h.1
   have q:=IB (n:=n) (a0:=a) (l0:=l) w (by omega);have:=Iw g;omega
section
variable {S: af} {a b x: Int} {i j: Nat}
theorem AI (h:i<S.length)(s k:Int)(k0:0<=k):ag (Eg S i s) k 0=ag S k 0/\ag (Eg S i s) k 1=ag S k 1/\ag (Eg S i s) k 2=if k=i then woN (ag S i 2) s else ag S k 2:=by
 unfold Eg;refine⟨?_,?_,?_⟩
 ·rw[Mm (by omega) (by omega) k0];split
  ·rename_i e;rw[e];rfl
  ·rfl
 ·rw[Mm (by omega) (by omega) k0];split
  ·rename_i e;rw[e];rfl
  ·rfl
 ·rw[Mm (by omega) (by omega) k0];rfl
theorem rR {s:Int}:(Eg S i s).length=S.length:=Zw
theorem Qx {p k b b':Int}(h:spOk p k b=true)(h0:0<=b')(h1:b'<=b):spOk p k b'=true:=by
 unfold spOk bmOk at h ⊢;simp only[Zc,bi]at h ⊢;exact⟨h.1,h.2.1,h0,by omega⟩
theorem ac5 (g:q7 S)(h:i<S.length){t:Nat}(ht:t<=15):q7 (Eg S i t):=by
 have sb:=zw (g.s i h);refine⟨fun k hk=>?_,fun k k' hk hk' e=>?_⟩
 ·rw[rR]at hk;have q:=AI h t k (by omega);rw[q.1,q.2.1,q.2.2];split
  ·rename_i e;have e':k=i:=by omega
   subst e';have w:=(Ja sb.1 sb.2 ht (ZC 15)).1;exact Qx (g.s k h) w.1 w.2
  ·exact g.s k hk
 ·rw[rR]at hk hk';rw[(AI h t k (by omega)).1,(AI h t k' (by omega)).1]at e;exact g.d k k' hk hk' e
theorem wh (g:q7 S)(h:oZ S a i):∃ t:Nat,t<=15/\wT S a i=t/\hsB (ag S i 2) t=true:=by
 have q:=jQ g h;have b:=h.b;rw[<-q.2.2]at b;have s:slB (ag S i 2) (wT S a i)=true:=by
  cases s:slB (ag S i 2) (wT S a i)with
  |true=>rfl
  |false=>rw[Hn s]at b;cases b
 have r:=Bm.1 s;exact⟨(wT S a i).toNat,by omega,by omega,by rw[Zr r.2.1];exact b⟩
theorem SZ (g:q7 S)(h:oZ S a i)(k:oZ S b j)(ne:a≠b):oZ (jn S a) b j:=by
 obtain⟨t,ht,es,hb⟩:=wh g h;have q:=jQ g h;have e1:jn S a=Eg S i t:=by unfold jn;rw[q.1,es]
 have f:=AI h.l t j (by omega);rw[e1];refine⟨by rw[rR];exact k.l,by rw[f.1];exact k.p,?_,by rw[f.1,f.2.1];exact k.o⟩;rw[f.1,f.2.1,f.2.2];split
 ·rename_i e;have e':j=i:=by omega
  subst e';obtain⟨u,hu,eu,hbu⟩:=wh g k;have qk:=jQ g k;have sb:=zw (g.s j h.l);rw[<-qk.2.2,eu,(Ja sb.1 sb.2 ht hu).2,hbu];have:u≠t:=fun c=>by
   subst c;have o1:=h.o;have o2:=k.o;have w1:=q.2.2;have w2:=qk.2.2;rw[es]at w1;rw[eu]at w2;have d1:=WQ (a-ag S j 0*16) (clsSz (ag S j 1));have d2:=WQ (b-ag S j 0*16) (clsSz (ag S j 1));rw[<-w1,o1]at d1;rw[<-w2,o2]at d2;omega
  rw[VI this];rfl
 ·exact k.b
theorem fg {k:Int}(h:i<S.length)(k0:0<=k)(n:Nat):ag (delL S i (i+1)) k n=ag S (if k<i then k else k+1) n:=by
 unfold delL ag;simp only[Zn];rw[show((i:Int)).toNat=i by omega,show((i:Int)+1).toNat=i+1 by omega];by_cases c:k<i
 ·rw[VL c,ZR (by rw[Zg];omega),Y4 (by omega)]
 ·rw[VM c,ZP (by rw[Zg];omega),List.getElem?_drop];rw[show i+1+(k.toNat- (Z7 i S).length)=(k+1).toNat by rw[Zg];omega]
theorem D6 (h:i<S.length):(delL S i (i+1)).length+1=S.length:=by
 unfold delL;rw[Zf,Zg,Zo];omega
theorem Sd (g:q7 S)(h:i<S.length):q7 (delL S i (i+1)):=by
 have l:=D6 h;have z:∀ k:Nat,k<(delL S i (i+1)).length->∃ k':Nat,k'<S.length/\(if(k:Int)<i then(k:Int)else(k:Int)+1)=k'/\(k'=if k<i then k else k+1):=fun k hk=>by
  by_cases c:k<i;exact⟨k,by omega,by rw[VL (by omega)],by rw[VL c]⟩;exact⟨k+1,by omega,by rw[VM (by omega)];omega,by rw[VM c]⟩
 refine⟨fun k hk=>?_,fun k k' hk hk' e=>?_⟩
 ·obtain⟨u,u1,u2,_⟩:=z k hk;rw[fg h (by omega),fg h (by omega),fg h (by omega),u2];exact g.s u u1
 ·obtain⟨u,u1,u2,u3⟩:=z k hk;obtain⟨v,v1,v2,v3⟩:=z k' hk';rw[fg h (by omega),fg h (by omega),u2,v2]at e;have:=g.d u v u1 v1 e;subst this;rw[u3]at v3;split at v3<;>split at v3<;>omega
theorem Od (h:i<S.length)(z:ag S i 2=0)(k:oZ S b j):∃ j',oZ (delL S i (i+1)) b j':=by
 have l:=D6 h;have ne:j≠i:=fun e=>by subst e;have:=k.b;rw[z,Km]at this;cases this
 have kl:=k.l;by_cases c:j<i
 ·refine⟨j,by omega,?_,?_,?_⟩
  ·rw[fg h (by omega),VL (by omega)];exact k.p
  ·rw[fg h (by omega),fg h (by omega),fg h (by omega),VL (by omega)];exact k.b
  ·rw[fg h (by omega),fg h (by omega),VL (by omega)];exact k.o
 ·refine⟨j-1,by omega,?_,?_,?_⟩
  ·rw[fg h (by omega),VM (by omega),show((j-1:Nat):Int)+1=j by omega];exact k.p
  ·rw[fg h (by omega),fg h (by omega),fg h (by omega),VM (by omega),show((j-1:Nat):Int)+1=j by omega];exact k.b
  ·rw[fg h (by omega),fg h (by omega),VM (by omega),show((j-1:Nat):Int)+1=j by omega];exact k.o
end
end Go.V
namespace Go.V
theorem Ml {S:af}{i t:Nat}(w:Rw [tI,tI,tI] S)(g:q7 S)(h:i<S.length)(ht:t<=15):Rw [tI,tI,tI] (Eg S i t):=by
 have ok:=mg (g.s i h);have sb:=zw (g.s i h);have wo:=(Ja sb.1 sb.2 ht (ZC 15)).1;have k:=bi.1 ok.2.2.1;exact w.set (show bR [tI,tI,tI] [.i (ag S i 0),.i (ag S i 1),.i (woN (ag S i 2) t)]from⟨⟨rfl,show-9223372036854775808<=ag S i 0/\ag S i 0<=9223372036854775807 from by omega⟩,⟨rfl,show-9223372036854775808<=ag S i 1/\ag S i 1<=9223372036854775807 from by omega⟩,⟨rfl,show-9223372036854775808<=woN (ag S i 2) t/\woN (ag S i 2) t<=9223372036854775807 from by omega⟩,trivial⟩) _
section
variable {s: zY} {a b: Int} {i j: Nat} {me: Bool} {kp mv: Int}
theorem Oo (h:LK s)(v:oZ s.S a i):LK (f1 me kp mv s a):=by
 obtain⟨t,ht,es,hb⟩:=wh h.g v;have q:=jQ h.g v;have e1:jn s.S a=Eg s.S i t:=by unfold jn;rw[q.1,es]
 have g1:q7 (jn s.S a):=by rw[e1];exact ac5 h.g v.l ht
 have w1:Rw [tI,tI,tI] (jn s.S a):=by rw[e1];exact Ml h.rs h.g v.l ht
 have l1:(jn s.S a).length=s.S.length:=by rw[e1];exact rR
 have vl:=v.l;unfold f1;cases c:BU me kp mv s.S a with
 |false=>exact⟨h.m,h.rc,h.ru,h.re,h.rf,w1,h.lf,by show(jn s.S a).length<=_;rw[l1];exact h.ls,g1⟩
 | true=>
   rw[q.1];have k:=GW (a0:=s.C) (a1:=s.U) (a2:=s.E) (a6:=jn s.S a) (i:=i);have r:=Mu (p:=ag (jn s.S a) i 0) h.rc h.ru h.re;have d:=uc (i:=i) (j:=(i:Int)+1) w1 (by omega);refine⟨?_,?_,?_,?_,?_,d.1,?_,?_,Sd g1 (by rw[l1];exact vl)⟩
   ·show k9 (dsC _ _ _ _ _) (dsU _ _ _ _ _) (dsE _ _ _ _ _);rw[k.1,k.2.1,k.2.2];exact T8 h.m
   ·show Rw _ (dsC _ _ _ _ _);rw[k.1];exact r.1
   ·show Rw _ (dsU _ _ _ _ _);rw[k.2.1];exact r.2.1
   ·show Rw _ (dsE _ _ _ _ _);rw[k.2.2];exact r.2.2
   ·exact(IB (n:=zlI (dsE s.C s.U s.E (jn s.S a) i)) (a0:=ag (jn s.S a) i 0) (l0:=1) h.rf (by have:=h.lf;omega)).1
   ·exact Lh (n:=zlI (dsE s.C s.U s.E (jn s.S a) i)) (a:=ag (jn s.S a) i 0) (l:=1) h.rf h.lf
   ·have:=h.ls;show(delL _ _ _).length<=_;omega
theorem Sw (h:LK s)(v:oZ s.S a i)(k:oZ s.S b j)(ne:a≠b):∃ j',oZ (f1 me kp mv s a).S b j':=by
 have q:=jQ h.g v;have w:=SZ h.g v k ne;unfold f1;cases c:BU me kp mv s.S a with
 |false=>exact⟨j,w⟩
 | true=>
   obtain⟨t,ht,es,hb⟩:=wh h.g v;have e1:jn s.S a=Eg s.S i t:=by unfold jn;rw[q.1,es]
   have l1:(jn s.S a).length=s.S.length:=by rw[e1];exact rR
   unfold BU at c;simp only[Zc,VK]at c;have z:=c.1;rw[q.1]at z ⊢;exact Od (by rw[l1];exact v.l) z w
end
def fN (me:Bool)(kp mv:Int)(l:af)(s:zY):Nat->zY
 |0=>s
 |n+1=>f1 me kp mv (fN me kp mv l s n) (ag l n 0)
structure FqI (l:af)(i:Nat)(s:zY):Prop where
 fr:LK s
 q:∀ j:Nat,i<=j->j<l.length->∃ k,oZ s.S (ag l j 0) k
def F2 (l:af):Prop:=∀ i j:Nat,i<j->j<l.length->ag l i 0≠ag l j 0
theorem xK {p:Int->Bool}{n:Nat}(h:¬ 0<=cQ p n){j:Nat}(hj:j<n):p j=false:=by
 unfold cQ at h;split at h
 ·exact absurd (by omega) h
 ·rename_i e;have:=List.find?_eq_none.1 e j (List.mem_range.2 hj)
  simpa using this
section
variable {a0 a1 a2: af} {a3: Int} {a4 a5 a6 a7 a8 a9 aA aB: af} {aC: Int} {aD: af} {aE aF aG aH: Int} {aI: Bool} {aJ aK: Int} {aL: af} {aM aN: Int}
theorem abd {rm:Int}{qs:af}(h:quarOk rm qs=true):F2 qs:=fun i j ij hj e=>by
 unfold quarOk at h;simp only[Zc]at h;have q:=ed.1 h.1 j (by omega) (by omega);unfold Qc stlOk at q;simp only[Zc,Ys]at q;have nq:=q.2.2.2.1;unfold qtB qtI at nq;have l:(qs.take (j:Int).toNat).length=j:=by rw[Zg];omega
 have z:=xK (VO nq) (j:=i) (by rw[l];exact ij);unfold tV at z;have t:ag (qs.take (j:Int).toNat) i 0=ag qs i 0:=by
  unfold ag;rw[Zn (l:=Z7 _ _),Zn (l:=qs),Y4 (by omega)]
 rw[t,e]at z;unfold eqB at z;exact absurd rfl (VO z)
theorem Hk {S L:af}{a k:Int}(h:hlB S L a k=true):∃ i,oZ S a i:=by
 unfold hlB at h;simp only[Zc,VK]at h;obtain⟨e,q,l,t⟩:=GU h.1;have o:=h.2.1;unfold dnO at o;rw[VL q]at o;have u:=(si.1 t).2;have hk:=h.1;unfold dnK at hk;rw[VL q]at hk;have hb:hsB (ag S (fU S a) 2) (wT S a (fU S a))=true:=by
  cases c:hsB (ag S (fU S a) 2) (wT S a (fU S a))with
  |true=>rfl
  |false=>rw[c]at hk;simp at hk
 unfold wT saS at hb;rw[VL t]at hb;unfold Lp saO at o;rw[VL t]at o;obtain⟨n,en⟩:=Z8 q;rw[en]at hb o u l;exact⟨n,by omega,by omega,hb,o⟩
theorem Tx (hc:mZ a0 a1 a2 a4 a5 a6 a7 a8 a9 aA aB aD aL)(h:hpI a0 a1 a2 a3 a4 a5 a6 a7 a8 a9 aA aB aC aD aE aF aG aH aI aJ aK aL aM aN=true):LK ⟨a0,a1,a2,a5,a6⟩:=by
 have T:=je h;have l6:=aS (es:=a6);have c6:=hc.c6;exact⟨(jP T.k).1,hc.r0,hc.r1,hc.r2,hc.r5,hc.r6,by have:=Iw T.r;show a5.length<=65;omega,by show a6.length<=_;omega,IR (MB T.l)⟩
theorem Tz (h:hpI a0 a1 a2 a3 a4 a5 a6 a7 a8 a9 aA aB aC aD aE aF aG aH aI aJ aK aL aM aN=true)(j:Nat)(hj:j<aD.length):∃ k,oZ a6 (ag aD j 0) k:=by
 have T:=(je h).h;unfold hoI at T;simp only[Zc]at T;have q:=ed.1 T.2.1 j (by omega) (by omega);unfold FJ qA at q;simp only[Zc]at q;exact Hk q.1
theorem OI {l:af}{n j k:Nat}(h:j<n):ag (l.take n) j k=ag l j k:=by
 unfold ag;rw[Zn (l:=Z7 _ _),Zn (l:=l),Y4 (by omega)]
theorem J3 {l:af}{n:Nat}(h:F2 l):F2 (l.take n):=fun i j ij hj=>by
 rw[Zg]at hj;rw[OI (by omega),OI (by omega)];exact h i j ij (by omega)
theorem SO {s:zY}{b13:af}(hc:mZ a0 a1 a2 a4 a5 a6 a7 a8 a9 aA aB aD aL)(h:LK s)(w:Rw [tI,tI,tI] b13)(l:b13.length<=1073741824):mZ s.C s.U s.E a4 s.F s.S a7 a8 a9 aA aB b13 aL:=by
 have n:=uh h.m h.rc h.ru h.re;have f:av s.F=s.F.length:=h.rf.cnt rfl;have g:av s.S=s.S.length:=h.rs.cnt rfl;have b:av b13=b13.length:=w.cnt rfl;have lf:=h.lf;have ls:=h.ls;exact⟨h.rc,h.ru,h.re,hc.r4,h.rf,h.rs,hc.r7,hc.r8,hc.r9,hc.r10,hc.r11,w,hc.r21,by omega,by omega,by omega,hc.c4,by omega,by omega,hc.c7,hc.c8,hc.c9,hc.c10,hc.c11,by omega,hc.c21⟩
end
end Go.V
namespace Go.V
def snB (p k b s:Int):Bool:=spOk p k b&&hsB b s
def snN (p k b s:Int):Int:=if snB p k b s=true then woN b s else b
def fzC (me:Bool)(kp mv:Int)(c u e f s:af)(a:Int):af:=(f1 me kp mv ⟨c,u,e,f,s⟩ a).C
def fzU (me:Bool)(kp mv:Int)(c u e f s:af)(a:Int):af:=(f1 me kp mv ⟨c,u,e,f,s⟩ a).U
def fzE (me:Bool)(kp mv:Int)(c u e f s:af)(a:Int):af:=(f1 me kp mv ⟨c,u,e,f,s⟩ a).E
def fzF (me:Bool)(kp mv:Int)(c u e f s:af)(a:Int):af:=(f1 me kp mv ⟨c,u,e,f,s⟩ a).F
def fzS (me:Bool)(kp mv:Int)(c u e f s:af)(a:Int):af:=(f1 me kp mv ⟨c,u,e,f,s⟩ a).S
def tkC (me:Bool)(kp mv:Int)(c u e f s l:af):af:=(fN me kp mv l ⟨c,u,e,f,s⟩ l.length).C
def tkU (me:Bool)(kp mv:Int)(c u e f s l:af):af:=(fN me kp mv l ⟨c,u,e,f,s⟩ l.length).U
def tkE (me:Bool)(kp mv:Int)(c u e f s l:af):af:=(fN me kp mv l ⟨c,u,e,f,s⟩ l.length).E
def tkF (me:Bool)(kp mv:Int)(c u e f s l:af):af:=(fN me kp mv l ⟨c,u,e,f,s⟩ l.length).F
def tkS (me:Bool)(kp mv:Int)(c u e f s l:af):af:=(fN me kp mv l ⟨c,u,e,f,s⟩ l.length).S
def QA (k:Bool)(c n ck:Int):Bool:=k&&(decide (c≠100000)&&(inR n 0 1000&&decide (ck+n<=1000000)))
def t0B (k:Bool)(c t:Int)(m:af):Bool:=k&&(decide (c≠100000)&&inR t 0 (m.length-1))
structure TkP (me:Bool)(kp mv:Int)(l:af)(s:zY)(i:Int)(c u e f t:af):Prop where
 c:c=(fN me kp mv l s i.toNat).C
 u:u=(fN me kp mv l s i.toNat).U
 e:e=(fN me kp mv l s i.toNat).E
 f:f=(fN me kp mv l s i.toNat).F
 t:t=(fN me kp mv l s i.toNat).S
section
variable {me: Bool} {kp mv: Int} {l c u e f t c0 u0 e0 f0 t0: af} {s: zY} {i a: Int}
theorem abz {p k b x:Int}(h:spOk p k b=true)(g:hsB b x=true):snB p k b x=true/\snN p k b x=woN b x:=by
 have q:snB p k b x=true:=by unfold snB;rw[h,g];rfl
 exact⟨q,by unfold snN;rw[VL q]⟩
theorem aeG {p k b x:Int}(h:spOk p k b=false):snB p k b x=false/\snN p k b x=b:=by
 have q:snB p k b x=false:=by unfold snB;rw[h];rfl
 exact⟨q,by unfold snN;rw[q];rfl⟩
theorem aeH {p k b x:Int}(h:hsB b x=false):snB p k b x=false/\snN p k b x=b:=by
 have q:snB p k b x=false:=by unfold snB;rw[h];simp
 exact⟨q,by unfold snN;rw[q];rfl⟩
end
theorem zn {l:af}{i:Int}(i0:0<=i)(i1:i<=l.length):mi l i.toNat (BS (l.length:Int) i)=l.drop i.toNat:=by
 unfold mi BS;exact Yl (by rw[Zo];omega)
theorem qM {l:af}{i:Int}:mi l (YX 0) (BS i 0)=l.take i.toNat:=by
 unfold mi BS;rw[show YX 0=0 from rfl,List.drop_zero,Nat.sub_zero]
theorem M1 {fs:List Ty}{l:af}{a b:Nat}(h:Rw fs l):Rw fs (mi l a b)/\(mi l a b).length<=l.length:=by
 have q:(mi l a b).length<=l.length:=by unfold mi;rw[Zg,Zo];omega
 exact⟨⟨ZI q h.1,fun e he=>h.2 e (Yt (Xh he))⟩,q⟩
section
variable {rm now age: Int} {qs: af}
end
end Go.V
namespace Go.V
section
variable {S L: af} {a: Int} {i: Nat}
theorem CZ (g:q7 S)(h:oZ S a i):dnK S L a=1/\dnI S L a=i/\dnS S a=wT S a i:=by
 have q:=jQ g h;have n:(0:Int)<=fU S a:=by rw[q.1];omega
 have b:=h.b;rw[<-q.2.2]at b;refine⟨?_,?_,?_⟩
 ·unfold dnK;rw[VL n,q.1,b];rfl
 ·unfold dnI;rw[VL n,q.1]
 ·unfold dnS;rw[VL n,q.1]
theorem yT (g:q7 S)(h:oZ S a i):0<=a/\a<=511/\0<=ag S i 0/\ag S i 0<=31:=by
 have t:=(si.1 (MA g h)).2;have p:=mg (g.s i h.l);omega
theorem SA (w:Rw [tI,tI,tI] S)(g:q7 S)(h:oZ S a i):
 jS (.s 3 S) [((i:Int).toNat,0)] [.i (ag S i 0),.i (ag S i 1),.i (snN (ag S i 0) (ag S i 1) (ag S i 2) (wT S a i))]=jn S a:=by
 obtain⟨t,ht,es,hb⟩:=wh g h;have q:=jQ g h;have n:=abz (p:=ag S i 0) (k:=ag S i 1) (g.s i h.l) hb;have hl:=h.l;rw[es,n.2];unfold jn;rw[q.1,es];unfold Eg;exact eZ (by rw[w.eta (by omega) (by omega)];rfl)
theorem Ee (g:q7 S)(h:oZ S a i):ag (jn S a) i 0=ag S i 0/\(jn S a).length=S.length:=by
 obtain⟨t,ht,es,hb⟩:=wh g h;have q:=jQ g h;have e1:jn S a=Eg S i t:=by unfold jn;rw[q.1,es]
 rw[e1];exact⟨(AI h.l t i (by omega)).1,rR⟩
theorem Ma (w:Rw [tI,tI,tI] S)(g:q7 S)(h:oZ S a i):Rw [tI,tI,tI] (jn S a):=by
 obtain⟨t,ht,es,hb⟩:=wh g h;have q:=jQ g h;have e1:jn S a=Eg S i t:=by unfold jn;rw[q.1,es]
 rw[e1];exact Ml w g h.l ht
end
section
variable {me: Bool} {kp mv: Int} {c u e f t: af} {a: Int} {i: Nat}
theorem Sv (g:q7 t)(h:oZ t a i)(z:ag (jn t a) i 2=0)(n:bsB me kp mv (ag (jn t a) i 0)=false):BU me kp mv t a=true:=by
 unfold BU;rw[(jQ g h).1,VI z,n];rfl
theorem Sl (g:q7 t)(h:oZ t a i)(z:ag (jn t a) i 2≠0):BU me kp mv t a=false:=by
 unfold BU;rw[(jQ g h).1,VJ z];rfl
theorem Sn (g:q7 t)(h:oZ t a i)(n:bsB me kp mv (ag (jn t a) i 0)=true):BU me kp mv t a=false:=by
 unfold BU;rw[(jQ g h).1,n];simp
theorem ac6 (g:q7 t)(h:oZ t a i)(b:BU me kp mv t a=true):fzC me kp mv c u e f t a=dsC c u e (jn t a) i/\fzU me kp mv c u e f t a=dsU c u e (jn t a) i/\fzE me kp mv c u e f t a=dsE c u e (jn t a) i/\fzF me kp mv c u e f t a=dsF c u e f (jn t a) i/\fzS me kp mv c u e f t a=dsS (jn t a) i:=by
 unfold fzC fzU fzE fzF fzS f1;rw[(jQ g h).1];simp only[b];exact⟨rfl,rfl,rfl,rfl,rfl⟩
theorem S8 (b:BU me kp mv t a=false):fzC me kp mv c u e f t a=c/\fzU me kp mv c u e f t a=u/\fzE me kp mv c u e f t a=e/\fzF me kp mv c u e f t a=f/\fzS me kp mv c u e f t a=jn t a:=by
 unfold fzC fzU fzE fzF fzS f1;simp only[b];exact⟨rfl,rfl,rfl,rfl,rfl⟩
end
section
variable {a0 a1 a2 a4 a5 a6 a7 a8 a9 aA aB aD aL: af} {a: Int} {i: Nat}
theorem Te (hc:mZ a0 a1 a2 a4 a5 a6 a7 a8 a9 aA aB aD aL)(g:q7 a6)(h:oZ a6 a i):mZ a0 a1 a2 a4 a5 (jn a6 a) a7 a8 a9 aA aB aD aL:=by
 have w:=Ma hc.r6 g h;have c:av (jn a6 a)=(jn a6 a).length:=w.cnt rfl;have c6:av a6=a6.length:=hc.r6.cnt rfl;have l:=(Ee g h).2;have k:=hc.c6;exact⟨hc.r0,hc.r1,hc.r2,hc.r4,hc.r5,w,hc.r7,hc.r8,hc.r9,hc.r10,hc.r11,hc.r13,hc.r21,hc.c0,hc.c1,hc.c2,hc.c4,hc.c5,by omega,hc.c7,hc.c8,hc.c9,hc.c10,hc.c11,hc.c13,hc.c21⟩
end
end Go.V
namespace Go.V
def D2 (ck n:Int):Int:=ck+n
section
variable {k: Bool} {c n ck t: Int} {m: af}
end
section
variable {a0 a1 a2: af} {a3: Int} {a4 a5 a6 a7 a8 a9 aA aB: af} {aC: Int} {aD: af} {aE aF aG aH: Int} {aI: Bool} {aJ aK: Int} {aL: af} {aM aN: Int} {n i: Int} {c u e f t: af}
structure TiT (aC:Int)(aD:af)(aF n:Int)(s:zY):Prop where
 b:qeB aC aD (D2 aF n) 100=true
 d:F2 (K8 aC aD (D2 aF n) 100)
 q:FqI (K8 aC aD (D2 aF n) 100) 0 s
 w:Rw [tI,tI,tI] (qeL aC aD (D2 aF n) 100)
 l:(qeL aC aD (D2 aF n) 100).length<=aD.length
 m:(K8 aC aD (D2 aF n) 100).length<=aD.length
 r:Rw [tI,tI,tI] (K8 aC aD (D2 aF n) 100)
end
end Go.V
namespace Go.V
def PU (s:Int):Int:=(1103515245*s+12345)%1073741824
def nxS (s:Int):Int:=if inR s 0 1073741823=true then PU s else 0
def GR (s n:Int):Bool:=inR s 0 1073741823&&inR n 1 1000
def cuI (s n:Int):Int:=if GR s n=true then PU s/1024%n else 0
def cuS (s n:Int):Int:=if GR s n=true then PU s else s
theorem H3 {s:Int}:0<=PU s/\PU s<=1073741823:=by unfold PU;omega
theorem aeg {s:Int}(h:inR s 0 1073741823=true):nxS s=bO .rem Za (bO .add Za (bO .mul Za 1103515245 s) 12345) 1073741824:=by
 have q:=bi.1 h;unfold nxS;rw[VL h,vL (by omega),cE (by omega),Bf (by omega)];rfl
theorem aef {s:Int}(h:inR s 0 1073741823=false):nxS s=0:=by unfold nxS;rw[h];rfl
theorem Sc {s n:Int}(h1:inR s 0 1073741823=true)(h2:inR n 1 1000=true):cuI s n=bO .rem Za (bO .quo Za (nxS s) 1024) n/\cuS s n=nxS s:=by
 have q:=bi.1 h2;have e:nxS s=PU s:=by unfold nxS;rw[VL h1]
 have r:=H3 (s:=s);have b:GR s n=true:=by unfold GR;rw[h1,h2];rfl
 unfold cuI cuS;rw[VL b,VL b,e,Bb (by omega) (by omega) (by omega),Bf (by omega)];exact⟨rfl,rfl⟩
theorem J0 {s n:Int}(h:GR s n=false):cuI s n=0/\cuS s n=s:=by unfold cuI cuS;rw[h];exact⟨rfl,rfl⟩
theorem R6 {s n:Int}(h:inR s 0 1073741823=false):GR s n=false:=by unfold GR;rw[h];rfl
theorem R7 {s n:Int}(h:inR n 1 1000=false):GR s n=false:=by unfold GR;rw[h,Yf]
theorem R9 {s n:Int}(h1:inR s 0 1073741823=true)(n1:1<=n)(n2:n<=1000):0<=cuI s n/\cuI s n<n/\inR (cuS s n) 0 1073741823=true:=by
 have b:GR s n=true:=by unfold GR;rw[h1,bi.2 ⟨n1,n2⟩];rfl
 have r:=H3 (s:=s);unfold cuI cuS;rw[VL b,VL b];exact⟨Int.emod_nonneg _ (by omega),Int.emod_lt_of_pos _ (by omega),bi.2 r⟩
def shB (s n:Int):Bool:=inR s 0 1073741823&&inR n 0 64
def ioN:Nat->af
 |0=>[]
 |n+1=>ioN n++[[.i (n:Int)]]
def swE (es:af)(i j:Int):af:=(es.set i.toNat [.i (ag es j 0)]).set j.toNat [.i (ag es i 0)]
def shL:Nat->af->Int->af
 |0,es,_=>es
 |k+1,es,s=>shL k (swE es ((k:Int)+1) (cuI s ((k:Int)+2))) (cuS s ((k:Int)+2))
def shS:Nat->Int->Int
 |0,s=>s
 |k+1,s=>shS k (cuS s ((k:Int)+2))
def aeD (s n:Int):af:=if shB s n=true then shL (n-1).toNat (ioN n.toNat) s else[]
def aeE (s n:Int):Int:=if shB s n=true then shS (n-1).toNat s else s
structure IoP (i:Int)(o:af):Prop where
 e:o=ioN i.toNat
structure ShP (n s0 i:Int)(o:af)(s:Int):Prop where
 r:Rw [tI] o
 l:(o.length:Int)=n
 k:inR s 0 1073741823=true
 e:shL i.toNat o s=shL (n-1).toNat (ioN n.toNat) s0
 f:shS i.toNat s=shS (n-1).toNat s0
end Go.V
namespace Go.V
def ppB (p k b q l c:Int):Bool:=decide ((Dp p k b).length<(Dp q l c).length)
def ppK (p k b q l c:Int):Int:=if mshB p k b q l c=true then(if ppB p k b q l c=true then q else p)else 0
def ppM (p k b q l c:Int):Int:=if mshB p k b q l c=true then(if ppB p k b q l c=true then p else q)else 0
def ppC (p k b q l c:Int):af:=if mshB p k b q l c=true then(if ppB p k b q l c=true then Dp p k b else Dp q l c)else[]
def tnH (es:af)(x i:Int):Bool:=decide (ag es i 0=x)||decide (ag es i 1=x)
def tnI (es:af)(x:Int):Int:=cQ (tnH es x) es.length
def tnB (es:af)(x:Int):Bool:=decide (0<=tnI es x)
end Go.V
namespace Go.V
theorem Oe {x:af}{a:Int}(h:Rw [.sl [tI]] x)(h0:0<=a)(h1:a<x.length):jS (.s 1 x) [(a.toNat,0)] [.g]=x.set a.toNat [.g]:=eZ (by rw[h.eta h0 h1];rfl)
theorem acM {x r:af}{a:Int}(h:Rw [.sl [tI]] x)(h0:0<=a)(h1:a<x.length):jS (.s 1 (jS (.s 1 x) [(a.toNat,0)] [.g])) [(a.toNat,0)] [.s 1 r]=x.set a.toNat [.s 1 r]:=by
 rw[Oe h h0 h1,eZ (by rw[Zn,Xi (by omega)];rfl),Wi]
theorem Og {x:af}{a:Int}(h:Rw [.sl [tI]] x)(h0:0<=a)(h1:a<x.length):(jS (.s 1 x) [(a.toNat,0)] [.g]).length=x.length:=by rw[Oe h h0 h1,Zw]
theorem Of {x:af}{a:Int}(h:Rw [.sl [tI]] x)(h0:0<=a)(h1:a<x.length):∃ rec o,bQ (.s 1 (jS (.s 1 x) [(a.toNat,0)] [.g])) [(a.toNat,0)]=some (rec,o)/\o+1<=rec.length:=by
 rw[Oe h h0 h1];exact eL (by rw[Zw];omega) (by rw[Zn,Xi (by omega)];exact Ze _)
theorem L6 {l:L}{p:List (Nat×Nat)}{k:Nat}{es:af}(h:fT l p=some (k,es)):fT l p=some (k,ma l p):=by unfold ma;rw[h]
theorem acL {x:af}{a:Int}{r:af}(h:Rw [.sl [tI]] x)(h0:0<=a)(h1:a<x.length)(hc:av x<=1073741824)(hr:r.length=1):fT (.s 1 x) [(a.toNat,0)]=some (1,ma (.s 1 x) [(a.toNat,0)])/\bF (ma (.s 1 x) [(a.toNat,0)])/\((ma (.s 1 x) [(a.toNat,0)]).length+r.length)*8<=70368744177664/\(ma (.s 1 x) [(a.toNat,0)]).length+r.length<=70368744177664:=by
 obtain⟨es,e⟩:=vz h h0 h1;have g:=iN (es:=x) (i:=a) (j:=0);have l:(aO x a 0).length<=av (aO x a 0):=by unfold av;omega
 refine⟨L6 e,?_,?_⟩
 ·rw[iS];exact(Rw.sub (fs:=[.sl [tI]]) (j:=0) (i:=a) h (by omega) rfl).scal rfl
 ·rw[iS];constructor<;>omega
end Go.V
namespace Go.V
def LN (n:Int)(es:af):Prop:=∀ j:Nat,j<es.length->0<=ag es (j:Int) 0/\ag es (j:Int) 0<n
theorem Td {es:af}{i j:Nat}{x:Int}(hj:j<es.length):ag (es.set i [.i x]) (j:Int) 0=if i=j then x else ag es (j:Int) 0:=by
 unfold ag;simp only[ZJ,Zn];by_cases c:i=j
 ·subst c;rw[VL rfl,Xi hj];rfl
 ·rw[VM c,List.getElem?_set_ne c]
theorem LN.st {n x:Int}{es:af}{i:Nat}(h:LN n es)(x0:0<=x)(x1:x<n):LN n (es.set i [.i x]):=fun j hj=>by
 rw[Zw]at hj;rw[Td hj];split;exact⟨x0,x1⟩;exact h j hj
theorem LN.at {n i:Int}{es:af}(h:LN n es)(i0:0<=i)(i1:i<es.length):0<=ag es i 0/\ag es i 0<n:=by
 have:=h i.toNat (by omega);rw[Zr i0]at this;exact this
theorem LN.sw {n i j:Int}{es:af}(h:LN n es)(i0:0<=i)(i1:i<es.length)(j0:0<=j)(j1:j<es.length):LN n (swE es i j):=by
 have a:=h.at i0 i1;have b:=h.at j0 j1;exact(h.st b.1 b.2).st a.1 a.2
theorem Eh {a:af}{r:aP}{n j:Nat}(h:n<a.length):ag (a++[r]) (n:Int) j=ag a (n:Int) j:=by
 unfold ag;simp only[ZJ,Zn];rw[ZR h]
theorem Hh {a:af}{r:aP}{j:Nat}:ag (a++[r]) (a.length:Int) j=KG (r.getD j .g):=by
 unfold ag;simp only[ZJ,Zn];rw[ZP (Ze _),Nat.sub_self];rfl
def spM (sp:af)(a b:Int):Bool:=mshB (ag sp a 0) (ag sp a 1) (ag sp a 2) (ag sp b 0) (ag sp b 1) (ag sp b 2)
def spR (od:af)(h p i:Int):Int:=ag od (h+(i+p)%(od.length-h)) 0
def spT (sp od:af)(h p i:Int)(o:af):Bool:= !tnB o (ag od i 0)&&(!tnB o (spR od h p i)&&spM sp (ag od i 0) (spR od h p i))
def sp1 (sp od:af)(h p i:Int)(o:af):af:=if spT sp od h p i o=true then o++[[.i (ag od i 0),.i (spR od h p i)]]else o
def Qu (sp od:af)(h p:Int):Nat->af->af
 |0,o=>o
 |i+1,o=>sp1 sp od h p (i:Int) (Qu sp od h p i o)
def spO (sp od:af)(h:Int):Nat->af
 |0=>[]
 |p+1=>Qu sp od h (p:Int) h.toNat (spO sp od h p)
def sqB (sp:af)(s k:Int):Bool:=decide ((sp.length:Int)<=16)&&(inR k 0 16&&inR s 0 1073741823)
def sqL (sp:af)(s k:Int):af:=if sqB sp s k=true then spO sp (aeD s sp.length) ((sp.length:Int)/2) k.toNat else[]
def sqS (sp:af)(s k:Int):Int:=if sqB sp s k=true then aeE s sp.length else s
end Go.V
namespace Go.V
structure UsP (n:Int)(o u:af):Prop where
 r:Rw [tB] u
 l:(u.length:Int)=n
 e:∀ x:Int,0<=x->x<n->pF u x 0=tnB o x
structure SoP (sp od:af)(h p:Int)(o:af):Prop where
 e:o=spO sp od h p.toNat
 r:Rw [tI,tI] o
 l:(o.length:Int)<=h*p
structure SiP (sp od:af)(h p i:Int)(o q:af):Prop where
 e:q=Qu sp od h p i.toNat o
 r:Rw [tI,tI] q
 l:(q.length:Int)<=o.length+i
section
variable {sp od o q: af} {h p i: Int}
end
end Go.V
namespace Go.V
end Go.V
namespace Go.V
structure P2 (n:Int)(o:af):Prop where
 r:Rw [tI,tI] o
 i:∀ j:Nat,j<o.length->(0<=ag o (j:Int) 0/\ag o (j:Int) 0<n)/\(0<=ag o (j:Int) 1/\ag o (j:Int) 1<n)
def mtT (e s:af):af:=(msS e s).take 16
def mtP (e s:af)(d:Int):af:=sqL (mtT e s) d 3
def Ac (e s:af)(d:Int)(c j:Nat):Int:=ag (mtT e s) (ag (mtP e s d) 0 c) j
def mtK (e s:af)(d:Int):Int:=ppK (Ac e s d 0 0) (Ac e s d 0 1) (Ac e s d 0 2) (Ac e s d 1 0) (Ac e s d 1 1) (Ac e s d 1 2)
def mtM (e s:af)(d:Int):Int:=ppM (Ac e s d 0 0) (Ac e s d 0 1) (Ac e s d 0 2) (Ac e s d 1 0) (Ac e s d 1 1) (Ac e s d 1 2)
def mtC (e s:af)(d:Int):af:=ppC (Ac e s d 0 0) (Ac e s d 0 1) (Ac e s d 0 2) (Ac e s d 1 0) (Ac e s d 1 1) (Ac e s d 1 2)
def PN (k me:Bool):Bool:= !me&&k
def mtB (g:Bool)(e s:af)(d:Int):Bool:=g&&decide (0<(mtP e s d).length)
def mtD (g:Bool)(e s:af)(d:Int):Int:=if g=true then sqS (mtT e s) d 3 else d
def aed (g:Bool)(e s:af)(d x:Int):Int:=if mtB g e s d=true then ifZ (plOk (mtK e s d) (mtM e s d) (mtC e s d)) (mtK e s d)else x
def aee (g:Bool)(e s:af)(d x:Int):Int:=if mtB g e s d=true then ifZ (plOk (mtK e s d) (mtM e s d) (mtC e s d)) (mtM e s d)else x
def aec (g:Bool)(e s:af)(d:Int)(x:af):af:=if mtB g e s d=true then ifR (plOk (mtK e s d) (mtM e s d) (mtC e s d)) (mtC e s d) []else x
def aam (g:Bool)(e s:af)(d x:Int):Int:=if mtB g e s d=true then 0 else x
def mtO (g:Bool)(e s:af)(d:Int)(me:Bool):Bool:=if mtB g e s d=true then true else me
section
variable {g me k: Bool} {e s x: af} {d y: Int}
end
end Go.V
namespace Go.V
theorem NO {ls:af}(w:Rw [.sl [tI]] ls)(h:caOk ls=true):av ls<=36:=by
 have c:=RH h;have q:cP ls<=8*ls.length:=yx fun e he=>by
  obtain⟨i,hi,rfl⟩:=List.getElem_of_mem he;have a:=w.eta (i:=i) (by omega) (by omega);rw[Zn,ZJ,List.getElem?_eq_getElem hi,Option.getD_some]at a;rw[a];show gx [.s 1 (aO ls i 0)]<=8;have l:=c.2 i (by omega);have x:=(Rw.sub (fs:=[.sl [tI]]) (j:=0) (i:=(i:Int)) w (by omega) rfl).cnt rfl;have e:gx [.s 1 (aO ls i 0)]=av (aO ls i 0):=by simp only[gx,vg,av];omega
  rw[e,x];omega
 have:=c.1;unfold av;omega
def Jq (S:af)(a:Int):Int:=ag S (fU S a) 1
def Jp (S D:af)(t a:Int):Bool:=o6 (aO D t 0) (Jq S a) a
def rcD (S D:af)(t a:Int):af:=if Jp S D t a=true then D.set t.toNat [.s 1 (xE (aO D t 0) (Jq S a) a)]else D
structure RS where
 s:zY
 D:af
def r1 (me:Bool)(kp mv t:Int)(z:RS)(a:Int):RS:=⟨if Jp z.s.S z.D t a=true then z.s else f1 me kp mv z.s a,rcD z.s.S z.D t a⟩
def rN (me:Bool)(kp mv t:Int)(l:af)(z:RS):Nat->RS
 |0=>z
 |n+1=>r1 me kp mv t (rN me kp mv t l z n) (ag l n 0)
structure CdI (D:af)(n B:Nat):Prop where
 w:Rw [.sl [.sl [tI]]] D
 l:D.length=n
 c:av D<=B
structure ND (l:af)(n B i:Nat)(z:RS):Prop where
 fr:LK z.s
 q:∀ j:Nat,i<=j->j<l.length->∃ k,oZ z.s.S (ag l j 0) k
 d:CdI z.D n (B+40*i)
section
variable {S D l: af} {t a: Int} {n B i: Nat} {me: Bool} {kp mv: Int} {z: RS}
theorem abj (h:CdI D n B)(t0:0<=t)(t1:t<n)(ha: -9223372036854775808<=a/\a<=9223372036854775807):CdI (rcD S D t a) n (B+40):=by
 have hl:=h.l;have hc:=h.c;unfold rcD;split
 ·rename_i b;unfold Jp o6 at b;rw[Zc]at b;have gw:Rw [.sl [tI]] (aO D t 0):=sr h.w t0 (by omega);have u:=L5 gw b.1 ha;have k:=NO u.1 b.2;have q:=vf (es:=D) (n:=t.toNat) (e:=[.s 1 (xE (aO D t 0) (Jq S a) a)]);have e:gx [.s 1 (xE (aO D t 0) (Jq S a) a)]=av (xE (aO D t 0) (Jq S a) a):=by simp only[gx,vg,av];omega
  exact⟨Rw.set h.w (show bR [.sl [.sl [tI]]] [.s 1 (xE (aO D t 0) (Jq S a) a)]from⟨⟨rfl,u.1⟩,trivial⟩) _,by rw[Zw];exact hl,by omega⟩
 ·exact⟨h.w,hl,by omega⟩
theorem abm (d:F2 l)(h:ND l n B i z)(hi:i<l.length)(t0:0<=t)(t1:t<n):ND l n B (i+1) (r1 me kp mv t z (ag l i 0)):=by
 obtain⟨k,v⟩:=h.q i (Ze _) hi;have bd:=yT h.fr.g v;have e:B+40*(i+1)=B+40*i+40:=by omega
 have D':=abj (S:=z.s.S) (a:=ag l i 0) h.d t0 t1 (by omega);rw[<-e]at D';by_cases b:Jp z.s.S z.D t (ag l i 0)=true
 ·have r:r1 me kp mv t z (ag l i 0)=⟨z.s,rcD z.s.S z.D t (ag l i 0)⟩:=by unfold r1;rw[VL b]
  rw[r];exact⟨h.fr,fun j j0 j1=>h.q j (by omega) j1,D'⟩
 ·have r:r1 me kp mv t z (ag l i 0)=⟨f1 me kp mv z.s (ag l i 0),rcD z.s.S z.D t (ag l i 0)⟩:=by unfold r1;rw[VM b]
  rw[r];refine⟨Oo h.fr v,fun j j0 j1=>?_,D'⟩;obtain⟨k',v'⟩:=h.q j (by omega) j1;exact Sw h.fr v v' (d i j (by omega) j1)
theorem abl (d:F2 l)(h:ND l n B 0 z)(t0:0<=t)(t1:t<n):∀ m:Nat,m<=l.length->ND l n B m (rN me kp mv t l z m)
 |0,_=>h
 |m+1,hm=>abm d (abl d h t0 t1 m (by omega)) (by omega) t0 t1
end
def rcC (me:Bool)(kp mv:Int)(c u e f s x:af)(t a:Int):af:=(r1 me kp mv t ⟨⟨c,u,e,f,s⟩,x⟩ a).s.C
def rcU (me:Bool)(kp mv:Int)(c u e f s x:af)(t a:Int):af:=(r1 me kp mv t ⟨⟨c,u,e,f,s⟩,x⟩ a).s.U
def rcE (me:Bool)(kp mv:Int)(c u e f s x:af)(t a:Int):af:=(r1 me kp mv t ⟨⟨c,u,e,f,s⟩,x⟩ a).s.E
def rcF (me:Bool)(kp mv:Int)(c u e f s x:af)(t a:Int):af:=(r1 me kp mv t ⟨⟨c,u,e,f,s⟩,x⟩ a).s.F
def rcS (me:Bool)(kp mv:Int)(c u e f s x:af)(t a:Int):af:=(r1 me kp mv t ⟨⟨c,u,e,f,s⟩,x⟩ a).s.S
def raC (me:Bool)(kp mv:Int)(c u e f s x:af)(t:Int)(l:af):af:=(rN me kp mv t l ⟨⟨c,u,e,f,s⟩,x⟩ l.length).s.C
def raU (me:Bool)(kp mv:Int)(c u e f s x:af)(t:Int)(l:af):af:=(rN me kp mv t l ⟨⟨c,u,e,f,s⟩,x⟩ l.length).s.U
def raE (me:Bool)(kp mv:Int)(c u e f s x:af)(t:Int)(l:af):af:=(rN me kp mv t l ⟨⟨c,u,e,f,s⟩,x⟩ l.length).s.E
def raF (me:Bool)(kp mv:Int)(c u e f s x:af)(t:Int)(l:af):af:=(rN me kp mv t l ⟨⟨c,u,e,f,s⟩,x⟩ l.length).s.F
def raS (me:Bool)(kp mv:Int)(c u e f s x:af)(t:Int)(l:af):af:=(rN me kp mv t l ⟨⟨c,u,e,f,s⟩,x⟩ l.length).s.S
def raD (me:Bool)(kp mv:Int)(c u e f s x:af)(t:Int)(l:af):af:=(rN me kp mv t l ⟨⟨c,u,e,f,s⟩,x⟩ l.length).D
section
variable {me: Bool} {kp mv t a: Int} {c u e f s x: af}
theorem aeu (b:Jp s x t a=true):rcC me kp mv c u e f s x t a=c/\rcU me kp mv c u e f s x t a=u/\rcE me kp mv c u e f s x t a=e/\rcF me kp mv c u e f s x t a=f/\rcS me kp mv c u e f s x t a=s/\rcD s x t a=x.set t.toNat [.s 1 (xE (aO x t 0) (Jq s a) a)]:=by
 unfold rcC rcU rcE rcF rcS r1 rcD;simp only[b,if_true];exact⟨trivial,trivial,trivial,trivial,trivial,trivial⟩
theorem aet (b:Jp s x t a=false):rcC me kp mv c u e f s x t a=fzC me kp mv c u e f s a/\rcU me kp mv c u e f s x t a=fzU me kp mv c u e f s a/\rcE me kp mv c u e f s x t a=fzE me kp mv c u e f s a/\rcF me kp mv c u e f s x t a=fzF me kp mv c u e f s a/\rcS me kp mv c u e f s x t a=fzS me kp mv c u e f s a/\rcD s x t a=x:=by
 unfold rcC rcU rcE rcF rcS r1 rcD;simp only[b];exact⟨rfl,rfl,rfl,rfl,rfl,rfl⟩
end
structure LQ (me:Bool)(kp mv t:Int)(l:af)(z:RS)(i:Int)(c u e f s x:af):Prop where
 c:c=(rN me kp mv t l z i.toNat).s.C
 u:u=(rN me kp mv t l z i.toNat).s.U
 e:e=(rN me kp mv t l z i.toNat).s.E
 f:f=(rN me kp mv t l z i.toNat).s.F
 s:s=(rN me kp mv t l z i.toNat).s.S
 x:x=(rN me kp mv t l z i.toNat).D
section
variable {me: Bool} {kp mv t: Int} {l c u e f s x c0 u0 e0 f0 s0 x0: af} {z: RS} {i: Int}
theorem abh:LQ me kp mv t l ⟨⟨c,u,e,f,s⟩,x⟩ 0 c u e f s x:=⟨rfl,rfl,rfl,rfl,rfl,rfl⟩
theorem Qe (h:LQ me kp mv t l z i c u e f s x)(i0:0<=i):LQ me kp mv t l z (i+1) (rcC me kp mv c u e f s x t (ag l i 0)) (rcU me kp mv c u e f s x t (ag l i 0)) (rcE me kp mv c u e f s x t (ag l i 0)) (rcF me kp mv c u e f s x t (ag l i 0)) (rcS me kp mv c u e f s x t (ag l i 0)) (rcD s x t (ag l i 0)):=by
 have n:(i+1).toNat=i.toNat+1:=by omega
 have g:ag l i 0=ag l (i.toNat:Int) 0:=by rw[Zr i0]
 obtain⟨rfl,rfl,rfl,rfl,rfl,rfl⟩:=h;refine⟨?_,?_,?_,?_,?_,?_⟩<;>rw[n,g]<;>rfl
theorem abi (h:LQ me kp mv t l z i c u e f s x):(⟨⟨c,u,e,f,s⟩,x⟩:RS)=rN me kp mv t l z i.toNat:=by
 obtain⟨rfl,rfl,rfl,rfl,rfl,rfl⟩:=h;rfl
theorem K9 (h:LQ me kp mv t l ⟨⟨c0,u0,e0,f0,s0⟩,x0⟩ i c u e f s x)(e1:i=l.length):c=raC me kp mv c0 u0 e0 f0 s0 x0 t l/\u=raU me kp mv c0 u0 e0 f0 s0 x0 t l/\e=raE me kp mv c0 u0 e0 f0 s0 x0 t l/\f=raF me kp mv c0 u0 e0 f0 s0 x0 t l/\s=raS me kp mv c0 u0 e0 f0 s0 x0 t l/\x=raD me kp mv c0 u0 e0 f0 s0 x0 t l:=by
 obtain⟨rfl,rfl,rfl,rfl,rfl,rfl⟩:=h;have n:i.toNat=l.length:=by omega
 rw[n];exact⟨rfl,rfl,rfl,rfl,rfl,rfl⟩
end
section
variable {a0 a1 a2: af} {a3: Int} {a4 a5 a6 a7 a8 a9 aA aB: af} {aC: Int} {aD: af} {aE aF aG aH: Int} {aI: Bool} {aJ aK: Int} {aL: af} {aM aN t: Int}
end
end Go.V
namespace Go.V
def Jr (to a:Int):aP:=[.i to,.i a]
def sdU (b:af)(f to a:Int):af:=b.set f.toNat [.s 2 (aO b f 0++[Jr to a])]
def sdB (b x:af)(f to a:Int):Bool:=htB b x f&&mailOk (sdU b f to a) x
def sdL (b x:af)(f to a:Int):af:=if sdB b x f to a=true then sdU b f to a else b
def coX (b x:af)(t:Int):af:=if htB b x t=true then x.set t.toNat [.s 1 []]else x
def JX (b x:af)(t:Int):af:=if htB b x t=true then aO x t 0 else[]
section
variable {b x: af} {f t to a: Int}
theorem aeA (h:htB b x f=false):sdB b x f to a=false:=by unfold sdB;rw[h];rfl
theorem aeB (h:mailOk (sdU b f to a) x=false):sdB b x f to a=false:=by unfold sdB;rw[h];simp
theorem aeC (h:htB b x f=true)(g:mailOk (sdU b f to a) x=true):sdB b x f to a=true:=by unfold sdB;rw[h,g];rfl
theorem M6 (h:sdB b x f to a=false):sdL b x f to a=b:=by unfold sdL;rw[h];rfl
theorem M7 (h:sdB b x f to a=true):sdL b x f to a=sdU b f to a:=by unfold sdL;rw[VL h]
theorem Qr (hb:Rw [.sl [tI,tI]] b)(f0:0<=f)(f1:f<b.length)(cb:av b<=1073741824)(ht: -9223372036854775808<=to/\to<=9223372036854775807)(ha: -9223372036854775808<=a/\a<=9223372036854775807):Rw [.sl [tI,tI]] (sdU b f to a)/\av (sdU b f to a)<=2*av b+8:=by
 have rb:=Rw.sub (fs:=[.sl [tI,tI]]) (j:=0) (i:=f) hb (by omega) rfl;have gb:=iN (es:=b) (i:=f) (j:=0);have lb:(aO b f 0).length<=av (aO b f 0):=by unfold av;omega
 have r2:Rw [tI,tI] (aO b f 0++[Jr to a]):=Rw.append rb (Rw.one (show bR [tI,tI] (Jr to a)from⟨⟨rfl,ht⟩,⟨rfl,ha⟩,trivial⟩)) (by unfold maxLen;simp only[Zj,Zl];omega);refine⟨Rw.set hb (show bR [.sl [tI,tI]] [.s 2 (aO b f 0++[Jr to a])]from⟨⟨rfl,r2⟩,trivial⟩) _,?_⟩;unfold sdU;have s:=vf (es:=b) (n:=f.toNat) (e:=[.s 2 (aO b f 0++[Jr to a])]);have e:gx [.s 2 (aO b f 0++[Jr to a])]=av (aO b f 0++[Jr to a]):=by simp only[gx,vg,av];omega
 have p:=Aw (a:=aO b f 0) (b:=[Jr to a]);have o:av [Jr to a]<=8:=by simp[Jr,av,cP,gx,vg]
 omega
end
section
variable {a0 a1 a2: af} {a3: Int} {a4 a5 a6 a7 a8 a9 aA aB: af} {aC: Int} {aD: af} {aE aF aG aH: Int} {aI: Bool} {aJ aK: Int} {aL: af} {aM aN t i: Int} {c u e f s x: af}
structure CoI (a9 aA aB:af)(t:Int)(z:zY):Prop where
 h:htB aA aB t=true
 t0:0<=t
 t1:t<a9.length
 d:F2 (JX aA aB t)
 q:ND (JX aA aB t) a9.length 1000000000 0 ⟨z,a9⟩
 l:(JX aA aB t).length<=30
end
end Go.V
namespace Go.V
def ad9 (g:Bool)(a0 a1 a2:af)(a3:Int)(a4:af)(aJ aK:Int)(aL:af)(aM aN:Int):Int:=Jj g (mzN a0 a1 a2 a3 a4 aJ aK aL aM aN) aM
def aea (g:Bool)(a0 a1 a2:af)(a3:Int)(a4:af)(aJ aK:Int)(aL:af)(aM aN:Int):Int:=Jj g (myN a0 a1 a2 a3 a4 aJ aK aL aM aN) aN
section
variable {a0 a1 a2: af} {a3: Int} {a4: af} {aJ aK: Int} {aL: af} {aM aN: Int} {g k me j: Bool} {c x y: Int} {u v: af}
end
end Go.V
namespace Go.V
def feI (sp lg:af)(a:Int):Int:=if dzK sp lg a=0 then 3 else if dzO sp lg a≠0 then 1 else if dzK sp lg a=2 then 2 else 0
def Mq (sp lg:af)(a:Int):Int:=if feI sp lg a=3 then 2 else if feI sp lg a=1 then 3 else 4
section
variable {sp lg: af} {a: Int}
theorem acY (h:dzK sp lg a=0):feI sp lg a=3:=by unfold feI;rw[VL h]
theorem acZ (h:dzK sp lg a≠0)(g:dzO sp lg a≠0):feI sp lg a=1:=by unfold feI;rw[VM h,VL g]
theorem ac0 (h:dzK sp lg a=2)(g:dzO sp lg a=0):feI sp lg a=2:=by unfold feI;rw[VM (by omega),VM (fun n=>n g),VL h]
theorem ac1 (h:dzK sp lg a≠0)(g:dzO sp lg a=0)(k:dzK sp lg a≠2):feI sp lg a=0:=by unfold feI;rw[VM h,VM (fun n=>n g),VM k]
theorem adA (h:feI sp lg a=3):Mq sp lg a=2:=by unfold Mq;rw[VL h]
theorem adz (h:feI sp lg a=1):Mq sp lg a=3:=by unfold Mq;rw[VM (by omega),VL h]
theorem adB (h:feI sp lg a≠3)(g:feI sp lg a≠1):Mq sp lg a=4:=by unfold Mq;rw[VM h,VM g]
end
def foS (os:af)(ad:Int):Int:=ag os (obI os ad) 2
def foT (os:af)(ad:Int):Int:=ag os (obI os ad) 3
def kO (os:af)(ad:Int):Int:=clsOf (foS os ad)
def foO (os:af)(ad:Int):af:=delL os (obI os ad) (obI os ad+1)
def Ow (g:Bool)(os:af)(ad:Int):Bool:=g&&decide (0<=obI os ad)
def fbL (g:Bool)(os:af)(ad:Int):Bool:=Ow g os ad&&decide (kO os ad<0)
def Or (g:Bool)(es os:af)(ad:Int):Bool:=Ow g os ad&&(decide (0<=kO os ad)&&decide (peM es (ad/16)≠1))
def fbP (g:Bool)(es os b x:af)(t ad:Int):Bool:=Or g es os ad&&(decide (t≠foT os ad)&&sdB b x t (foT os ad) ad)
def fbQ (g:Bool)(es os:af)(t ad:Int):Bool:=Or g es os ad&&decide (t=foT os ad)
def fcC (cs es os:af)(ad:Int):af:=tcC cs es ad (clsSz (kO os ad))
def fqR (os:af)(rm:Int)(qs:af)(ck ad:Int):af:=qaR rm qs ad (kO os ad) ck
def fqL (os:af)(rm:Int)(qs:af)(ck ad:Int):af:=qaL rm qs ad (kO os ad) ck
def Jk (lg:af)(ad:Int):Int:=ag lg (lhI lg ad) 0
def KH (lg:af)(ad:Int):Int:=ag lg (lhI lg ad) 1
structure FoT (es sp lg os cs:af)(ad:Int):Prop where
 k0:0<=obI os ad
 k1:obI os ad<os.length
 e:ag os (obI os ad) 1=ad
 ok:okO sp lg ad (foS os ad)=true
 th:inR (foT os ad) 0 (cs.length-1)=true
 s0:1<=foS os ad
 s1:foS os ad<=1000
theorem H6 {sp lg:af}{a s:Int}(F:LO sp lg)(h:okO sp lg a s=true)(c:0<=clsOf s):hlB sp lg a (clsOf s)=true:=by
 unfold okO at h;simp only[Zc,Z6,VK]at h;obtain⟨o,⟨k,e⟩|⟨k,e⟩⟩:=h
 ·unfold hlB;rw[VI k,VI o,VI e];simp
 ·exfalso;have b:=L9 k;have q:=F.l (dnI sp lg a).toNat (by omega);rw[Zr b.1]at q;have r:=bi.1 (mL q).1;rw[e]at r;unfold clsOf at c;rw[VM (by omega),VM (by omega),VM (by omega),VM (by omega),VM (by omega)]at c;omega
section
variable {a0 a1 a2: af} {a3: Int} {a4 a5 a6 a7 a8 a9 aA aB: af} {aC: Int} {aD: af} {aE aF aG aH: Int} {aI: Bool} {aJ aK: Int} {aL: af} {aM aN t ad: Int}
theorem Ox (h:hpI a0 a1 a2 a3 a4 a5 a6 a7 a8 a9 aA aB aC aD aE aF aG aH aI aJ aK aL aM aN=true)(k:0<=obI a8 ad):FoT a2 a6 a7 a8 a9 ad:=by
 have T:=je h;have p:=fG (p:=fun j=>eqB (ag a8 j 1) ad) (n:=a8.length) k;have k1:obI a8 ad<a8.length:=p.1;have e:ag a8 (obI a8 ad) 1=ad:=VN p.2;have o:=ed.1 T.o (obI a8 ad) k k1;have b:=aaE T.o k k1;unfold yY at o;simp only[Zc]at o;have ok:=o.2.2.2.2;rw[e]at ok;exact⟨k,k1,e,ok,o.2.2.1,b.2.2.1,b.2.2.2⟩
structure Rp (a0 a1 a2 a6 a8:af)(ad:Int):Prop where
 lv:∃ i,oZ a6 ad i
 d0:0<=ad
 d1:ad<=511
 mp:peM a2 (ad/16)≠0
 n0:1<=clsSz (kO a8 ad)
 n1:ad%16+clsSz (kO a8 ad)<=16
 m:k9 (fcC a0 a2 a8 ad) a1 a2
 w:Rw [.sl [tI]] (fcC a0 a2 a8 ad)
theorem OG (hc:mZ a0 a1 a2 a4 a5 a6 a7 a8 a9 aA aB aD aL)(h:hpI a0 a1 a2 a3 a4 a5 a6 a7 a8 a9 aA aB aC aD aE aF aG aH aI aJ aK aL aM aN=true)(F:FoT a2 a6 a7 a8 a9 ad)(c:0<=kO a8 ad):Rp a0 a1 a2 a6 a8 ad:=by
 have T:=je h;have g:=IR (MB T.l);have hl:=H6 (MB T.l) F.ok c;have s0:=F.s0;have mp:=PV (i:=0) T.l T.p F.ok (Yn _) (by omega);rw[Int.add_zero]at mp;have K:=(jP T.k).1;obtain⟨i,v⟩:=Hk hl;have bd:=yT g v;have kk:ag a6 i 1=kO a8 ad:=by
  unfold hlB at hl;simp only[Zc,Z6,VK]at hl;have d:=CZ (L:=a7) g v;rcases hl.2.2 with q|q;exact absurd c (by unfold kO at c ⊢;omega)
  ·rw[d.2.1]at q;exact q
 have sp:=mg (g.s i v.l);have c4:=GM sp.2.2.1;rw[kk]at c4;have o:=v.o;rw[kk]at o;have p:=v.p;have fit:=Ef c4 (d:=ad-ag a6 i 0*16) (by omega) (by omega) o;have e16:ad-ag a6 i 0*16=ad%16:=by omega
 rw[e16]at fit;have n0:1<=clsSz (kO a8 ad):=by rcases c4 with q|q|q|q<;>omega
 have z:=E2 (f:=peF a2 (ad/16)) (k:=ad%16) (p:=ad/16) K hc.r0 mp.2.2 rfl (by omega) (clsSz (kO a8 ad)).toNat (by omega);exact⟨⟨i,v⟩,bd.1,bd.2.1,mp.2.2,n0,fit,z.m,z.w⟩
theorem Om {qs:af}{a c s:Int}(h:F2 qs)(n:qtB qs a=false):F2 (qs++[Bp a c s]):=fun i j ij hj=>by
 rw[Zf]at hj;rw[Eh (by simp only[Zj,Zl]at hj;omega)];by_cases q:j<qs.length
 ·rw[Eh q];exact h i j ij q
 ·have e:j=qs.length:=by simp only[Zj,Zl]at hj;omega
  subst e;rw[Hh];intro e;have z:=xK (VO n) (j:=i) ij;unfold tV at z;have e':ag qs i 0=a:=e;rw[e']at z;unfold eqB at z;exact absurd rfl (VO z)
theorem SL (hc:mZ a0 a1 a2 a4 a5 a6 a7 a8 a9 aA aB aD aL)(h9:av a9<=1000000000)(h:hpI a0 a1 a2 a3 a4 a5 a6 a7 a8 a9 aA aB aC aD aE aF aG aH aI aJ aK aL aM aN=true)(S:Rp a0 a1 a2 a6 a8 ad):
 F2 (fqR a8 aC aD aF ad)/\ND (fqR a8 aC aD aF ad) a9.length 1000000000 0 ⟨⟨fcC a0 a2 a8 ad,a1,a2,a5,a6⟩,a9⟩/\(fqR a8 aC aD aF ad).length<=aD.length+1:=by
 have T:=je h;have fr:=Tx hc h;have fr2:LK ⟨fcC a0 a2 a8 ad,a1,a2,a5,a6⟩:=⟨S.m,S.w,fr.ru,fr.re,fr.rf,fr.rs,fr.lf,fr.ls,fr.g⟩;unfold fqR;cases b:FI aC aD ad (kO a8 ad) aF with
 | false=>
   rw[(Io b).2];exact⟨fun i j _ hj=>absurd hj (by simp),⟨fr2,fun j _ hj=>absurd hj (by simp),⟨hc.r9,rfl,h9⟩⟩,by simp⟩
 | true=>
   rw[(K6 b).2];unfold FI stlOk at b;simp only[Zc,Ys]at b;have d:=Om (a:=ad) (c:=kO a8 ad) (s:=aF) (abd T.q) b.2.2.2.2.1;refine⟨J3 d,⟨fr2,fun j _ hj=>?_,⟨hc.r9,rfl,h9⟩⟩,by rw[Zg,Zf];simp only[Zj,Zl];omega⟩;rw[Zg]at hj;rw[OI (by omega)];by_cases q:j<aD.length
   ·rw[Eh q];exact Tz h j q
   ·have e:j=aD.length:=by simp only[Zf,Zj,Zl]at hj;omega
    subst e;rw[Hh];exact S.lv
end
end Go.V
namespace Go.V
section
variable {es rs xs: af} {c kp mv ph nx: Int} {k: Bool}
end
section
variable {a0 a1 a2: af} {a3: Int} {a4: af} {aJ aK: Int} {aL: af} {aM aN: Int}
end
end Go.V
namespace Go.V
theorem H1 {ls:af}(h:Rw [.sl [tI]] ls)(hc:av ls<=1099511627776):Nx ls:=by
 refine⟨h,by unfold av at hc;omega,fun i=>?_⟩;have:=iN (es:=ls) (i:=i) (j:=0);unfold av at this hc;omega
theorem aax {b x:af}(hb:Rw [.sl [tI,tI]] b)(hx:Rw [.sl [tI]] x)(cb:av b<=1099511627776)(cx:av x<=1099511627776):F7 b x:=by
 refine⟨hb,hx,by unfold av at cb;omega,by unfold av at cx;omega,fun i=>?_,fun i=>?_⟩
 ·have:=iN (es:=b) (i:=i) (j:=0);unfold av at this cb;omega
 ·have:=iN (es:=x) (i:=i) (j:=0);unfold av at this cx;omega
section
variable {ls: af} {k a: Int}
theorem RQ (h:inR k 0 3=false):clB ls k=false:=by unfold clB;rw[h];rfl
theorem RR (h:inR k 0 3=true):clB ls k=caOk ls:=by unfold clB;rw[h];rfl
theorem RU (h:caOk ls=false):clB ls k=false:=by unfold clB;rw[h];simp
theorem RV (h:caOk ls=true):clB ls k=inR k 0 3:=by unfold clB;rw[h];simp
theorem acF (h:clB ls k=false):o6 ls k a=false:=by unfold o6;rw[h];rfl
theorem acG (h:caOk (xE ls k a)=false):o6 ls k a=false:=by unfold o6;rw[h];simp
theorem acH (h:clB ls k=true)(g:caOk (xE ls k a)=true):o6 ls k a=true:=by unfold o6;rw[h,g];rfl
theorem acI (h:Rw [.sl [tI]] ls)(g:clB ls k=true):jS (.s 1 (jS (.s 1 ls) [(k.toNat,0)] [.g])) [(k.toNat,0)] [.s 1 (aO ls k 0++[[.i a]])]=xE ls k a:=by
 have c:=xx g;rw[acM h c.1 (by omega)];rfl
theorem HK {b b':af}{r r':Bool}(h1:b=b')(h3:r=r'):[DV.agg [.s 1 b],DV.k r]=[DV.agg [.s 1 b'],DV.k r']:=by rw[h1,h3]
theorem Ob (h:Rw [.sl [tI]] ls)(hc:av ls<=1073741824)(g:clB ls k=true)(ha: -9223372036854775808<=a/\a<=9223372036854775807):Rw [.sl [tI]] (xE ls k a)/\av (xE ls k a)<=1099511627776:=by
 have q:=L5 h g ha;exact⟨q.1,by omega⟩
theorem R8 (h:Rw [.sl [tI]] ls)(hc:av ls<=1073741824)(g:clB ls k=true):fT (.s 1 ls) [(k.toNat,0)]=some (1,aO ls k 0)/\bF (aO ls k 0)/\((aO ls k 0).length+1)*8<=70368744177664/\(aO ls k 0).length+1<=70368744177664:=by
 have c:=xx g;have q:=acL (r:=[[.i 0]]) h c.1 (by omega) hc rfl;simp only[iS,Zj,Zl]at q;exact q
end
section
variable {b x: af} {f to a t: Int}
theorem abr (h:Rw [.sl [tI,tI]] b)(f0:0<=f)(f1:f<b.length):jS (.s 1 (jS (.s 1 b) [(f.toNat,0)] [.g])) [(f.toNat,0)] [.s 2 (aO b f 0++[[.i to,.i a]])]=sdU b f to a:=by
 have q:jS (.s 1 b) [(f.toNat,0)] [.g]=b.set f.toNat [.g]:=eZ (by rw[h.eta f0 f1];rfl);rw[q,eZ (by rw[Zn,Xi (by omega)];rfl),Wi];rfl
theorem Ll (h:Rw [.sl [tI,tI]] b)(f0:0<=f)(f1:f<b.length):(jS (.s 1 b) [(f.toNat,0)] [.g]).length=b.length:=by
 have q:jS (.s 1 b) [(f.toNat,0)] [.g]=b.set f.toNat [.g]:=eZ (by rw[h.eta f0 f1];rfl);rw[q,Zw]
theorem Lk (h:Rw [.sl [tI,tI]] b)(f0:0<=f)(f1:f<b.length):∃ rec o,bQ (.s 1 (jS (.s 1 b) [(f.toNat,0)] [.g])) [(f.toNat,0)]=some (rec,o)/\o+1<=rec.length:=by
 have q:jS (.s 1 b) [(f.toNat,0)] [.g]=b.set f.toNat [.g]:=eZ (by rw[h.eta f0 f1];rfl);rw[q];exact eL (by rw[Zw];omega) (by rw[Zn,Xi (by omega)];exact Ze _)
theorem abq (h:Rw [.sl [tI,tI]] b)(hc:av b<=1073741824)(f0:0<=f)(f1:f<b.length):fT (.s 1 b) [(f.toNat,0)]=some (2,aO b f 0)/\bF (aO b f 0)/\((aO b f 0).length+1)*16<=70368744177664/\(aO b f 0).length+1<=70368744177664:=by
 obtain⟨es,e⟩:=Fp h f0 f1;have g:=iN (es:=b) (i:=f) (j:=0);have l:(aO b f 0).length<=av (aO b f 0):=by unfold av;omega
 have p:=L6 e;rw[iS]at p;exact⟨p,(sr h f0 f1).scal rfl,by omega,by omega⟩
end
section
variable {D s: af} {t ad: Int} {i: Nat}
theorem abR {b x:af}{i:Int}(h:Rw [.sl [.sl [tI]]] b)(h0:0<=i)(h1:i<b.length):jS (.s 1 b) [(i.toNat,0)] [.s 1 x]=b.set i.toNat [.s 1 x]:=eZ (by rw[h.eta h0 h1];rfl)
theorem AN {cs:af}{fr:Int}(h:Rw [.sl [.sl [tI]]] cs)(h0:0<=fr)(h1:fr<cs.length):∃ rec o,bQ (.s 1 cs) [(fr.toNat,0)]=some (rec,o)/\o+[L.s 1 []].length<=rec.length/\Z7 [L.s 1 []].length (Ym o rec)=jL am (.s 1 cs) [(fr.toNat,0)] 0 [L.s 1 []]:=by
 refine⟨[.s 1 (aO cs fr 0)],0,?_,Ze _,?_⟩
 ·show(cs[fr.toNat]?).map (·,0)=_;rw[ua h h0 h1];rfl
 ·show[L.s 1 (aO cs fr 0)]=[L.s 1 (ma (.s 1 cs) [(fr.toNat,0)])];rw[iS]
theorem xP {cs:af}{fr:Int}(h:Rw [.sl [.sl [tI]]] cs)(h0:0<=fr)(h1:fr<cs.length):fT (.s 1 cs) [(fr.toNat,0)]=some (1,aO cs fr 0):=by
 unfold fT;show(match(cs[fr.toNat]?).map (·,0)with
  | some (rec,o)=>match rec[o]? with
    |some (.s sz es)=>some (sz,es)
    |_=>none
  |none=>none)=_
 rw[ua h h0 h1];rfl
theorem aad {o:af}{n:Int}(h:Rw [tI,tI,tI,tI] o)(n0:0<=n)(n1:n<o.length):∃ rec o',bQ (L.s 4 o) [(n.toNat,0)]=some (rec,o')/\o'+[L.v (Zi Zt 0),L.v (Zi Zt 0),L.v (Zi Zt 0),L.v (Zi Zt 0)].length<=rec.length/\Z7 [L.v (Zi Zt 0),L.v (Zi Zt 0),L.v (Zi Zt 0),L.v (Zi Zt 0)].length (Ym o' rec)=jL am (L.s 4 o) [(n.toNat,0)] 0 [L.v (Zi Zt 0),L.v (Zi Zt 0),L.v (Zi Zt 0),L.v (Zi Zt 0)]:=
 d8 (z0:=[.i 0,.i 0,.i 0,.i 0]) (z:=[.i 0,.i 0,.i 0,.i 0]) h.wf (by omega) rfl (by decide)
theorem Mv {o:af}{n:Int}{j:Nat}(h:Rw [tI,tI,tI,tI] o)(n0:0<=n)(n1:n<o.length)(hj:j<4):∃ rec o',bQ (L.s 4 o) [(n.toNat,j)]=some (rec,o')/\o'+[L.v (Zi Zt 0)].length<=rec.length/\Z7 [L.v (Zi Zt 0)].length (Ym o' rec)=jL am (L.s 4 o) [(n.toNat,j)] 0 [L.v (Zi Zt 0)]:=by
 rcases(show j=0\/j=1\/j=2\/j=3 by omega)with rfl|rfl|rfl|rfl
 ·exact d8 (z0:=[.i 0,.i 0,.i 0,.i 0]) (z:=[.i 0]) h.wf (by omega) rfl (by decide)
 ·exact d8 (z0:=[.i 0,.i 0,.i 0,.i 0]) (z:=[.i 0]) h.wf (by omega) rfl (by decide)
 ·exact d8 (z0:=[.i 0,.i 0,.i 0,.i 0]) (z:=[.i 0]) h.wf (by omega) rfl (by decide)
 ·exact d8 (z0:=[.i 0,.i 0,.i 0,.i 0]) (z:=[.i 0]) h.wf (by omega) rfl (by decide)
theorem MS (g:q7 s)(v:oZ s ad i):Jq s ad=ag s i 1:=by unfold Jq;rw[(jQ g v).1]
theorem MR (g:q7 s)(v:oZ s ad i):Jp s D t ad=o6 (aO D t 0) (ag s i 1) ad:=by unfold Jp;rw[MS g v]
theorem abk (g:q7 s)(v:oZ s ad i)(h:Rw [.sl [.sl [tI]]] D)(t0:0<=t)(t1:t<D.length)(b:o6 (aO D t 0) (ag s i 1) ad=true):jS (.s 1 D) [(t.toNat,0)] [.s 1 (Ff (aO D t 0) (ag s i 1) ad)]=D.set t.toNat [.s 1 (xE (aO D t 0) (Jq s ad) ad)]:=by
 rw[abR h t0 t1,RZ b,MS g v]
end
section
variable {k: Bool} {c t: Int} {m: af}
theorem abD (h:inR t 0 (m.length-1)=false):t0B k c t m=false:=by unfold t0B;rw[h];simp
theorem abE (h:c=100000):t0B k c t m=false:=by unfold t0B;rw[VJ (p:=c≠100000) (fun n=>n h)];simp
theorem abF (h:inR t 0 (m.length-1)=true)(g:c≠100000):t0B k c t m=k:=by unfold t0B;rw[h,VI g];simp
theorem abG (h:k=false):t0B k c t m=false:=by unfold t0B;rw[h];rfl
end
section
variable {ls: af} {k n: Int}
end
end Go.V
namespace Go.V
section
variable {ls: af} {k n: Int}
end
section
variable {c: af}
end
def fxD (D:af)(t:Int):Nat->af
 |0=>D
 |n+1=>(fxD D t n).set t.toNat [.s 1 (clK (aO (fxD D t n) t 0) n 8)]
def SY (D:af)(t:Int):af:=Fl (aO D t 0) 4
section
variable {D: af} {t: Int} {n B: Nat}
end
section
variable {a0 a1 a2: af} {a3: Int} {a4 a5 a6 a7 a8 a9 aA aB: af} {aC: Int} {aD: af} {aE aF aG aH: Int} {aI: Bool} {aJ aK: Int} {aL: af} {aM aN t: Int}
structure FuT (a9:af)(t:Int)(z:zY):Prop where
 t0:0<=t
 t1:t<a9.length
 k:caOk (aO a9 t 0)=true
 d:F2 (SY a9 t)
 q:FqI (SY a9 t) 0 z
 l:(SY a9 t).length<=32
 c:CdI a9 a9.length 1000000000
end
structure FuO (me:Bool)(kp mv t:Int)(D:af)(s:zY)(k n:Int)(c u e f z x:af):Prop where
 en:n=(Fl (aO D t 0) k.toNat).length
 p:TkP me kp mv (SY D t) s n c u e f z
 x:x=fxD D t k.toNat
structure FuN (me:Bool)(kp mv t:Int)(D:af)(s:zY)(k i n:Int)(c u e f z:af):Prop where
 en:n=(Fl (aO D t 0) k.toNat).length+i
 p:TkP me kp mv (SY D t) s n c u e f z
section
variable {me: Bool} {kp mv t k n i: Int} {D c u e f z x c0 u0 e0 f0 z0: af} {s: zY}
end
section
variable {a0 a1 a2: af} {a3: Int} {a4 a5 a6 a7 a8 a9 aA aB: af} {aC: Int} {aD: af} {aE aF aG aH: Int} {aI: Bool} {aJ aK: Int} {aL: af} {aM aN t k i n m: Int} {c u e f s x c1 u1 e1 f1 s1: af}
end
end Go.V
namespace Go.V
theorem H5 {sp lg:af}{a s:Int}(h:okO sp lg a s=true)(c:clsOf s<0):0<=kN lg a/\kN lg a<lg.length/\ag lg (kN lg a) 0*16=a:=by
 unfold okO at h;simp only[Zc,Z6,VK]at h;obtain⟨o,⟨k,e⟩|⟨k,e⟩⟩:=h
 ·exfalso;obtain⟨d,q,l,t⟩:=GU k;have b:=bi.1 (mg (si.1 t).1).2.2.1;rw[d]at e;omega
 ·unfold dnK at k;by_cases z:0<=fU sp a
  ·rw[VL z]at k;split at k<;>omega
  ·rw[VM z]at k;by_cases y:0<=kN lg a
   ·have p:=fG (p:=xU lg a) (n:=lg.length) y;unfold dnO at o;rw[VM z,VL y]at o;unfold Re loI at o;have p2:lhB (ag lg (kN lg a) 0) (ag lg (kN lg a) 1) (ag lg (kN lg a) 2) a=true:=p.2;rw[VL p2]at o;exact⟨y,p.1,by omega⟩
   ·rw[VM y]at k;omega
structure LfT (a5 a7:af)(ad:Int):Prop where
 k0:0<=lhI a7 ad
 k1:lhI a7 ad<a7.length
 p:Jk a7 ad*16=ad
 p0:0<=Jk a7 ad
 n1:1<=KH a7 ad
 m:Jk a7 ad+KH a7 ad<=32
 f:a5.length<=32
section
variable {a0 a1 a2: af} {a3: Int} {a4 a5 a6 a7 a8 a9 aA aB: af} {aC: Int} {aD: af} {aE aF aG aH: Int} {aI: Bool} {aJ aK: Int} {aL: af} {aM aN t ad i: Int} {c u e f s x: af}
theorem Pj (h:hpI a0 a1 a2 a3 a4 a5 a6 a7 a8 a9 aA aB aC aD aE aF aG aH aI aJ aK aL aM aN=true)(F:FoT a2 a6 a7 a8 a9 ad)(c:kO a8 ad<0):LfT a5 a7 ad:=by
 have T:=je h;have L:=MB T.l;obtain⟨y,y1,ye⟩:=H5 F.ok c;have k0:0<=lhI a7 ad:=by
  have g:=mL (L.l (kN a7 ad).toNat (by omega));rw[Zr y]at g;have n:=o7 g.1;refine vt (p:=AW a7 ad) (i:=(kN a7 ad).toNat) (by omega) ?_;unfold AW pmB;rw[Zr y];have q:bO .mul Za (ag a7 (kN a7 ad) 0) 16=ag a7 (kN a7 ad) 0*16:=vL (by omega);rw[q,ye];exact VI rfl
 have kk:=ad3 k0;have g:=mL (L.l (lhI a7 ad).toNat (by omega));rw[Zr k0]at g;have n:=o7 g.1;have q:bO .mul Za (ag a7 (lhI a7 ad) 0) 16=ag a7 (lhI a7 ad) 0*16:=vL (by omega);exact⟨k0,kk.1,by unfold Jk;have:=kk.2;omega,g.2.2.1,by unfold KH;omega,by unfold Jk KH;omega,SI h⟩
theorem Mf (h:Rw [tI,tI,tI,tI] a8):Rw [tI,tI,tI,tI] (foO a8 ad)/\av (foO a8 ad)<=av a8:=by
 have d:=uc (i:=obI a8 ad) (j:=obI a8 ad+1) h (by omega);exact⟨d.1,by show av (delL _ _ _)<=_;rw[d.1.cnt rfl,h.cnt rfl];exact d.2⟩
theorem SD (hc:mZ a0 a1 a2 a4 a5 a6 a7 a8 a9 aA aB aD aL)(S:Rp a0 a1 a2 a6 a8 ad):mZ (fcC a0 a2 a8 ad) a1 a2 a4 a5 a6 a7 (foO a8 ad) a9 aA aB aD aL:=by
 have n:=uh S.m S.w hc.r1 hc.r2;have o:=Mf (ad:=ad) hc.r8;have c8:=hc.c8;exact {hc with r0:=S.w,c0:=by omega,r8:=o.1,c8:=by omega}
theorem abc {rm:Int}{qs:af}(h:quarOk rm qs=true):qs.length<=500:=by
 unfold quarOk at h;simp only[Zc,VK]at h;have r:=bi.1 h.2.1;have q:∀ n:Nat,n<=qs.length->(n:Int)<=Jo qs n:=fun n=>by
  induction n with
  |zero=>intro _;exact Yn _
  | succ n ih=>
    intro hn;have a:=ed.1 h.1 n (by omega) (by omega);unfold Qc stlOk at a;simp only[Zc]at a;have c:=GM a.1;have:=ih (by omega);rw[Jo];rcases c with c|c|c|c<;>omega
 have:=q qs.length (Ze _);have e:qcI qs=Jo qs qs.length:=rfl;omega
structure FqT (a8 a9:af)(aC:Int)(aD:af)(aF t ad:Int)(z:zY):Prop where
 t0:0<=t
 t1:t<a9.length
 d:F2 (fqR a8 aC aD aF ad)
 q:ND (fqR a8 aC aD aF ad) a9.length 1000000000 0 ⟨z,a9⟩
 l:(fqR a8 aC aD aF ad).length<=501
 w:Rw [tI,tI,tI] (fqL a8 aC aD aF ad)
 wl:(fqL a8 aC aD aF ad).length<=501
 r:Rw [tI,tI,tI] (fqR a8 aC aD aF ad)
theorem OA (hc:mZ a0 a1 a2 a4 a5 a6 a7 a8 a9 aA aB aD aL)(h9:av a9<=1000000000)(h:hpI a0 a1 a2 a3 a4 a5 a6 a7 a8 a9 aA aB aC aD aE aF aG aH aI aJ aK aL aM aN=true)(S:Rp a0 a1 a2 a6 a8 ad)(g:inR t 0 (a9.length-1)=true):FqT a8 a9 aC aD aF t ad ⟨fcC a0 a2 a8 ad,a1,a2,a5,a6⟩:=by
 have T:=je h;have r:=bi.1 g;have q:=SL hc h9 h S;have l:=abc T.q;have ck:=bi.1 T.t;have d0:=S.d0;have d1:=S.d1;have wk: -9223372036854775808<=kO a8 ad/\kO a8 ad<=9223372036854775807:=by
  unfold kO clsOf;repeat' split
  all_goals omega
 have wa:Rw [tI,tI,tI] (aD++[Bp ad (kO a8 ad) aF]):=Rw.append hc.r13 (Rw.one (show bR [tI,tI,tI] (Bp ad (kO a8 ad) aF)from⟨⟨rfl,show-9223372036854775808<=ad/\ad<=9223372036854775807 from by omega⟩,⟨rfl,wk⟩,⟨rfl,show-9223372036854775808<=aF/\aF<=9223372036854775807 from by omega⟩,trivial⟩)) (by unfold maxLen;simp only[Zj,Zl];omega);have w:Rw [tI,tI,tI] (fqL a8 aC aD aF ad)/\(fqL a8 aC aD aF ad).length<=501/\Rw [tI,tI,tI] (fqR a8 aC aD aF ad):=by
  unfold fqL fqR;cases b:FI aC aD ad (kO a8 ad) aF with
  |false=>rw[(Io b).1,(Io b).2];exact⟨hc.r13,by omega,Rw.nil⟩
  | true=>
    rw[(K6 b).1,(K6 b).2];exact⟨Rw.drop wa _,by rw[Zo,Zf];simp only[Zj,Zl];omega,Rw.take wa _⟩
 exact⟨r.1,by omega,q.1,q.2.1,by omega,w.1,w.2.1,w.2.2⟩
theorem Ha (hc:mZ a0 a1 a2 a4 a5 a6 a7 a8 a9 aA aB aD aL)(h:hpI a0 a1 a2 a3 a4 a5 a6 a7 a8 a9 aA aB aC aD aE aF aG aH aI aJ aK aL aM aN=true)(hn:a3≠100000)(S:Rp a0 a1 a2 a6 a8 ad)(T:FqT a8 a9 aC aD aF t ad ⟨fcC a0 a2 a8 ad,a1,a2,a5,a6⟩) 
 (P:LQ aI aJ aK t (fqR a8 aC aD aF ad) ⟨⟨fcC a0 a2 a8 ad,a1,a2,a5,a6⟩,a9⟩ i c u e f s x) (i0:0<=i) (i1:i<(fqR a8 aC aD aF ad).length):
 mZ c u e a4 f s a7 (foO a8 ad) x aA aB (fqL a8 aC aD aF ad) aL/\kerOk c u e a3 a4=true/\a3≠100000/\f.length<=65/\q7 s/\(∃ k,oZ s (ag (fqR a8 aC aD aF ad) i 0) k)/\0<=t/\t<x.length:=by
 have I:=abl (me:=aI) (kp:=aJ) (mv:=aK) T.d T.q T.t0 T.t1 i.toNat (by omega);rw[<-abi P]at I;have k:=jP (je h).k;have wl:=T.wl;have H:=SO (b13:=fqL a8 aC aD aF ad) (SD hc S) I.fr T.w (by omega);have D:=I.d;have dw:=D.w;have dl:=D.l;have dc:=D.c;have tl:=T.l;have t0:=T.t0;have t1:=T.t1;simp only at dw dl dc;obtain⟨j,v⟩:=I.q i.toNat (Ze _) (by omega);rw[Zr i0]at v;exact⟨{H with r9:=dw,c9:=by omega},yP I.fr.m k.2.1 k.2.2.1 k.2.2.2,hn,I.fr.lf,I.fr.g,⟨j,v⟩,t0,by omega⟩
end
def hfK (k:Bool)(c:Int)(es sp lg os m b x:af)(t ad:Int):Int:=
 if k=false\/c=100000 then 6 else if inR t 0 (m.length-1)=false then 1 else if obI os ad<0 then Mq sp lg ad else if kO os ad<0 then 0 else if peM es (ad/16)=1 then 5 else if t=foT os ad then 0 else if sdB b x t (foT os ad) ad=true then 0 else 5
section
variable {k g: Bool} {c t ad: Int} {es sp lg os m b x: af}
theorem Ot (h:g=false):fbL g os ad=false/\fbP g es os b x t ad=false/\fbQ g es os t ad=false:=by
 subst h;exact⟨rfl,rfl,rfl⟩
theorem J5 (h:obI os ad<0):fbL g os ad=false/\fbP g es os b x t ad=false/\fbQ g es os t ad=false:=by
 have q:Ow g os ad=false:=by unfold Ow;rw[VJ (p:=0<=obI os ad) (by omega)];simp
 unfold fbL fbP fbQ Or;rw[q];exact⟨rfl,rfl,rfl⟩
theorem acT (h:g=true)(o:0<=obI os ad)(c:kO os ad<0):fbL g os ad=true/\fbP g es os b x t ad=false/\fbQ g es os t ad=false:=by
 unfold fbL fbP fbQ Or Ow;rw[h,VI o,VI c,VJ (p:=0<=kO os ad) (by omega)];exact⟨rfl,rfl,rfl⟩
theorem acX (c:0<=kO os ad)(r:peM es (ad/16)=1):fbL g os ad=false/\fbP g es os b x t ad=false/\fbQ g es os t ad=false:=by
 unfold fbL fbP fbQ Or;rw[VJ (p:=kO os ad<0) (by omega),VJ (p:=peM es (ad/16)≠1) (fun n=>n r)];simp
theorem acU (c:0<=kO os ad)(n:t≠foT os ad)(s:sdB b x t (foT os ad) ad=false):fbL g os ad=false/\fbP g es os b x t ad=false/\fbQ g es os t ad=false:=by
 unfold fbL fbP fbQ;rw[VJ (p:=kO os ad<0) (by omega),VJ (p:=t=foT os ad) n,s];simp
theorem acV (h:g=true)(o:0<=obI os ad)(c:0<=kO os ad)(r:peM es (ad/16)≠1)(n:t≠foT os ad)(s:sdB b x t (foT os ad) ad=true):fbL g os ad=false/\fbP g es os b x t ad=true/\fbQ g es os t ad=false:=by
 unfold fbL fbP fbQ Or Ow;rw[h,VI o,VI c,VJ (p:=kO os ad<0) (by omega),VI r,VI n,VJ (p:=t=foT os ad) n,s];exact⟨rfl,rfl,rfl⟩
theorem acW (h:g=true)(o:0<=obI os ad)(c:0<=kO os ad)(r:peM es (ad/16)≠1)(n:t=foT os ad):fbL g os ad=false/\fbP g es os b x t ad=false/\fbQ g es os t ad=true:=by
 unfold fbL fbP fbQ Or Ow;rw[h,VI o,VI c,VJ (p:=kO os ad<0) (by omega),VI r,VI n,VJ (p:=t≠foT os ad) (fun z=>z n)];exact⟨rfl,rfl,rfl⟩
theorem Mo (h:k=false\/c=100000):hfK k c es sp lg os m b x t ad=6:=by unfold hfK;rw[VL h]
theorem Cz (h:k=true)(n:c≠100000):¬ (k=false\/c=100000):=by rw[h];rintro(q|q);cases q;exact n q
theorem Tg (h:k=true)(n:c≠100000)(i:inR t 0 (m.length-1)=false):hfK k c es sp lg os m b x t ad=1:=by unfold hfK;rw[VM (Cz h n),VL i]
theorem Fq (i:inR t 0 (m.length-1)=true):¬ inR t 0 (m.length-1)=false:=by rw[i];exact Xj
theorem Ei (h:k=true)(n:c≠100000)(i:inR t 0 (m.length-1)=true)(o:obI os ad<0):hfK k c es sp lg os m b x t ad=Mq sp lg ad:=by unfold hfK;rw[VM (Cz h n),VM (Fq i),VL o]
theorem Ti (h:k=true)(n:c≠100000)(i:inR t 0 (m.length-1)=true)(o:0<=obI os ad)(l:kO os ad<0):hfK k c es sp lg os m b x t ad=0:=by unfold hfK;rw[VM (Cz h n),VM (Fq i),VM (by omega),VL l]
theorem Tn (h:k=true)(n:c≠100000)(i:inR t 0 (m.length-1)=true)(o:0<=obI os ad)(l:0<=kO os ad)(r:peM es (ad/16)=1):hfK k c es sp lg os m b x t ad=5:=by unfold hfK;rw[VM (Cz h n),VM (Fq i),VM (by omega),VM (by omega),VL r]
theorem Tm (h:k=true)(n:c≠100000)(i:inR t 0 (m.length-1)=true)(o:0<=obI os ad)(l:0<=kO os ad)(r:peM es (ad/16)≠1)(q:t=foT os ad):hfK k c es sp lg os m b x t ad=0:=by unfold hfK;rw[VM (Cz h n),VM (Fq i),VM (by omega),VM (by omega),VM r,VL q]
theorem Tl (h:k=true)(n:c≠100000)(i:inR t 0 (m.length-1)=true)(o:0<=obI os ad)(l:0<=kO os ad)(r:peM es (ad/16)≠1)(q:t≠foT os ad)(s:sdB b x t (foT os ad) ad=true):hfK k c es sp lg os m b x t ad=0:=by unfold hfK;rw[VM (Cz h n),VM (Fq i),VM (by omega),VM (by omega),VM r,VM q,VL s]
theorem Tj (h:k=true)(n:c≠100000)(i:inR t 0 (m.length-1)=true)(o:0<=obI os ad)(l:0<=kO os ad)(r:peM es (ad/16)≠1)(q:t≠foT os ad)(s:sdB b x t (foT os ad) ad=false):hfK k c es sp lg os m b x t ad=5:=by unfold hfK;rw[VM (Cz h n),VM (Fq i),VM (by omega),VM (by omega),VM r,VM q,VM (by rw[s];exact Xj)]
end
end Go.V
namespace Go.V
section
variable {rm a c s i: Int} {qs: af}
theorem aa4 (h:quarOk rm qs=false):FI rm qs a c s=false:=by unfold FI;rw[h];rfl
theorem aa5 (h:stlOk qs a c s=false):FI rm qs a c s=false:=by unfold FI;rw[h];simp
theorem aa6 (h:quarOk rm qs=true)(g:stlOk qs a c s=true):FI rm qs a c s=true:=by unfold FI;rw[h,g];rfl
theorem P7:((qs++[Bp a c s]).length:Int)=qs.length+1:=by rw[Zf];rfl
theorem aa3 (w:Rw [tI,tI,tI] qs)(l:qs.length<=1073741823)(ha: -9223372036854775808<=a/\a<=9223372036854775807)(hc: -9223372036854775808<=c/\c<=9223372036854775807)(hs: -9223372036854775808<=s/\s<=9223372036854775807):Rw [tI,tI,tI] (qs++[Bp a c s]):=
 Rw.append w (Rw.one (show bR [tI,tI,tI] (Bp a c s)from⟨⟨rfl,ha⟩,⟨rfl,hc⟩,⟨rfl,hs⟩,trivial⟩)) (by unfold maxLen;simp only[Zj,Zl];omega)
end
theorem aer {rm:Int}{qs:af}(h:quarOk rm qs=true):inR rm 0 500=true:=by
 unfold quarOk at h;simp only[Zc]at h;exact h.2.1
def gi1 (l:af)(i:Int):Int:=ag l i 1
def lgC (c u e l:af)(ad:Int):af:=duC c u e (Jk l ad) (KH l ad)
def lgU (c u e l:af)(ad:Int):af:=duU c u e (Jk l ad) (KH l ad)
def lgE (c u e l:af)(ad:Int):af:=duE c u e (Jk l ad) (KH l ad)
def lgF (c u e f l:af)(ad:Int):af:=rpL (zlI (lgE c u e l ad)) f (Jk l ad) (KH l ad)
def lgL (l:af)(ad:Int):af:=delL l (lhI l ad) (lhI l ad+1)
end Go.V
namespace Go.V
section
variable {a0 a1 a2: af} {a3: Int} {a4 a5 a6 a7 a8 a9 aA aB: af} {aC: Int} {aD: af} {aE aF aG aH: Int} {aI: Bool} {aJ aK: Int} {aL: af} {aM aN t ad: Int}
theorem HM (hc:mZ a0 a1 a2 a4 a5 a6 a7 a8 a9 aA aB aD aL):mZ a0 a1 a2 a4 a5 a6 (lgL a7 ad) (foO a8 ad) a9 aA aB aD aL:=by
 have l:=uc (i:=lhI a7 ad) (j:=lhI a7 ad+1) hc.r7 (by omega);have o:=Mf (ad:=ad) hc.r8;have c7:=hc.c7;have c8:=hc.c8;exact {hc with r7:=l.1,c7:=by show av (delL _ _ _)<=_;rw[l.1.cnt rfl];rw[hc.r7.cnt rfl]at c7;omega,r8:=o.1,c8:=by omega}
theorem SK (h:Rw [tI,tI,tI,tI] a8)(k0:0<=obI a8 ad)(k1:obI a8 ad<a8.length):(-9223372036854775808<=foT a8 ad/\foT a8 ad<=9223372036854775807)/\ -9223372036854775808<=kO a8 ad/\kO a8 ad<=9223372036854775807:=by
 refine⟨AP h (j:=3) rfl (by omega),?_⟩;unfold kO clsOf;repeat' split
 all_goals omega
theorem aaF (k0:0<=obI a8 ad):obI a8 ad<a8.length:=(fG (p:=AX a8 ad) (n:=a8.length) k0).1
end
end Go.V
namespace Go.V
theorem Ku {us es rs:af}{c p:Int}:(Er us es c rs p).length=us.length:=by unfold Er;split<;>simp
theorem Ep {us es rs:af}{c p:Int}:(CO us es c rs p).length=es.length:=by
 unfold CO;split;exact qN;rfl
theorem adR {us es rs:af}{c p:Int}(h:sU us es c rs p=false):Er us es c rs p=us/\CO us es c rs p=es:=by unfold Er CO;rw[h];exact⟨rfl,rfl⟩
theorem adS {us es rs:af}{c p:Int}(h:sU us es c rs p=true):Er us es c rs p=us.set (dH us).toNat [.v (.bool true)]/\CO us es c rs p=wR es p 2 (dH us):=by unfold Er CO;rw[VL h,VL h];exact⟨rfl,rfl⟩
theorem adN {us es rs:af}{c p:Int}(h:hasB rs c=true):sU us es c rs p=false:=by unfold sU;rw[h];rfl
theorem adO {us es rs:af}{c p:Int}(h:dH us<0):sU us es c rs p=false:=by unfold sU;rw[VJ (p:=0<=dH us) (by omega)];simp
theorem adP {us es rs:af}{c p:Int}(h:inR p 0 (es.length-1)=false):sU us es c rs p=false:=by unfold sU;rw[h];simp
theorem adQ {us es rs:af}{c p:Int}(h:peM es p≠0):sU us es c rs p=false:=by unfold sU;rw[VJ h];simp
theorem adT {us es rs:af}{c p:Int}(h1:hasB rs c=false)(h2:0<=dH us)(h3:inR p 0 (es.length-1)=true)(h4:peM es p=0):sU us es c rs p=true:=by unfold sU;rw[h1,h3,VI h2,VI h4];rfl
structure U2 where
 u:af
 e:af
def zX (a1 a2:af)(c:Int)(rs:af)(t:Int):Nat->U2
 |0=>⟨a1,a2⟩
 |n+1=>⟨Er (zX a1 a2 c rs t n).u (zX a1 a2 c rs t n).e (c+n) rs (t+n),CO (zX a1 a2 c rs t n).u (zX a1 a2 c rs t n).e (c+n) rs (t+n)⟩
theorem Je {a1 a2 rs:af}{c t:Int}{n:Nat}:zX a1 a2 c rs t (n+1)=⟨Er (zX a1 a2 c rs t n).u (zX a1 a2 c rs t n).e (c+n) rs (t+n),CO (zX a1 a2 c rs t n).u (zX a1 a2 c rs t n).e (c+n) rs (t+n)⟩:=rfl
def xqB (a1 a2:af)(c:Int)(rs:af)(t i:Int):Bool:=sU (zX a1 a2 c rs t i.toNat).u (zX a1 a2 c rs t i.toNat).e (c+i) rs (t+i)
def xqF (a1 a2:af)(c:Int)(rs:af)(t n:Int):Int:=cQ (cK (xqB a1 a2 c rs t)) n.toNat
structure Al (a0 a1 a2:af)(c:Int)(rs:af)(t i:Int)(u e:af):Prop where
 m:k9 a0 u e
 ru:Rw [tB] u
 re:Rw [tI,tI] e
 l:e.length=a2.length
 lu:u.length=a1.length
 eu:u=(zX a1 a2 c rs t i.toNat).u
 ee:e=(zX a1 a2 c rs t i.toNat).e
 g:upto (cK (cK (xqB a1 a2 c rs t))) i
section
variable {a0 a1 a2 rs u e: af} {c t i n: Int}
theorem acr (m:k9 a0 a1 a2)(ru:Rw [tB] a1)(re:Rw [tI,tI] a2):Al a0 a1 a2 c rs t 0 a1 a2:=⟨m,ru,re,rfl,rfl,rfl,rfl,bV⟩
theorem No (h:Al a0 a1 a2 c rs t i u e):sU u e (c+i) rs (t+i)=xqB a1 a2 c rs t i:=by unfold xqB;rw[<-h.eu, <-h.ee]
theorem QR (h:Al a0 a1 a2 c rs t i u e)(i0:0<=i)(b:sU u e (c+i) rs (t+i)=true):Al a0 a1 a2 c rs t (i+1) (Er u e (c+i) rs (t+i)) (CO u e (c+i) rs (t+i)):=by
 have k:=(h.m).u;have k2:=h.m.n1;have w:=Ms (c:=c+i) (rs:=rs) (p:=t+i) h.ru h.re (by omega);have s:(i+1).toNat=i.toNat+1:=by omega
 have q:((i.toNat:Nat):Int)=i:=by omega
 refine⟨TZ h.m,w.1,w.2,by rw[Ep];exact h.l,by rw[Ku];exact h.lu,?_,?_,bN h.g (ft ?_)⟩
 ·rw[s,Je,q, <-h.eu, <-h.ee]
 ·rw[s,Je,q, <-h.eu, <-h.ee]
 ·show cK (xqB a1 a2 c rs t) i=false;unfold cK;rw[<-No h,b];rfl
theorem QQ (h:Al a0 a1 a2 c rs t i u e)(i0:0<=i)(i1:i<n)(b:sU u e (c+i) rs (t+i)=false):xqF a1 a2 c rs t n=i:=
 du h.g i0 (by omega) (ft (by rw[<-No h];exact b))
theorem LJ (h:Al a0 a1 a2 c rs t i u e)(i1:n<=i)(i0:0<=i):xqF a1 a2 c rs t n= -1:=d7 h.g (by omega)
theorem E8 (m:k9 a0 a1 a2)(ru:Rw [tB] a1)(re:Rw [tI,tI] a2):∀ k:Nat,k9 a0 (zX a1 a2 c rs t k).u (zX a1 a2 c rs t k).e/\Rw [tB] (zX a1 a2 c rs t k).u/\Rw [tI,tI] (zX a1 a2 c rs t k).e/\(zX a1 a2 c rs t k).e.length=a2.length
 |0=>⟨m,ru,re,rfl⟩
 | k+1=>by
   obtain⟨q1,q2,q3,q4⟩:=E8 m ru re k;have k1:=q1.u;have k2:=q1.n1;have w:=Ms (c:=c+k) (rs:=rs) (p:=t+k) q2 q3 (by omega);exact⟨TZ q1,w.1,w.2,by rw[Je];show(CO _ _ _ _ _).length=_;rw[Ep];exact q4⟩
end
def wP (a2 a5:af)(n:Int):Int:=tkA (zlI a2) a5 n
def LI (a1 a2:af)(a3:Int)(a4 a5:af)(n:Int):Int:=xqF a1 a2 a3 a4 (wP a2 a5 n) n
def Nk (a1 a2:af)(a3:Int)(a4 a5:af)(n:Int):Int:=if tkB (zlI a2) a5 n=true then(if LI a1 a2 a3 a4 a5 n<0 then n else LI a1 a2 a3 a4 a5 n)else 0
def Js (a1 a2:af)(a3:Int)(a4 a5:af)(n:Int):Int:=if tkB (zlI a2) a5 n=true then(if LI a1 a2 a3 a4 a5 n<0 then 0 else LI a1 a2 a3 a4 a5 n)else 0
def xpB (a1 a2:af)(a3:Int)(a4 a5:af)(n:Int):Bool:=tkB (zlI a2) a5 n&&decide (LI a1 a2 a3 a4 a5 n<0)
def Gd (a1 a2:af)(a3:Int)(a4 a5:af)(n:Int):U2:=zX a1 a2 a3 a4 (wP a2 a5 n) (Nk a1 a2 a3 a4 a5 n).toNat
def xpC (a0 a1 a2:af)(a3:Int)(a4 a5:af)(n:Int):af:=duC a0 (Gd a1 a2 a3 a4 a5 n).u (Gd a1 a2 a3 a4 a5 n).e (wP a2 a5 n) (Js a1 a2 a3 a4 a5 n)
def xpU (a0 a1 a2:af)(a3:Int)(a4 a5:af)(n:Int):af:=duU a0 (Gd a1 a2 a3 a4 a5 n).u (Gd a1 a2 a3 a4 a5 n).e (wP a2 a5 n) (Js a1 a2 a3 a4 a5 n)
def xpE (a0 a1 a2:af)(a3:Int)(a4 a5:af)(n:Int):af:=duE a0 (Gd a1 a2 a3 a4 a5 n).u (Gd a1 a2 a3 a4 a5 n).e (wP a2 a5 n) (Js a1 a2 a3 a4 a5 n)
def xpK (a1 a2:af)(a3:Int)(a4 a5:af)(n:Int):Int:=if tkB (zlI a2) a5 n=true then(if LI a1 a2 a3 a4 a5 n<0 then a3+n else a3+LI a1 a2 a3 a4 a5 n+1)else a3
def xpF (a1 a2:af)(a3:Int)(a4 a5:af)(n:Int):af:=if xpB a1 a2 a3 a4 a5 n=true then tkL (zlI a2) a5 n else a5
def xpA (a1 a2:af)(a3:Int)(a4 a5:af)(n:Int):Int:=if xpB a1 a2 a3 a4 a5 n=true then wP a2 a5 n else-1
section
variable {a0 a1 a2: af} {a3: Int} {a4 a5 u e c' u' e': af} {n i: Int}
theorem acn (h:tkB (zlI a2) a5 n=false):xpC a0 a1 a2 a3 a4 a5 n=a0/\xpU a0 a1 a2 a3 a4 a5 n=a1/\xpE a0 a1 a2 a3 a4 a5 n=a2/\xpK a1 a2 a3 a4 a5 n=a3/\xpF a1 a2 a3 a4 a5 n=a5/\xpA a1 a2 a3 a4 a5 n= -1/\xpB a1 a2 a3 a4 a5 n=false:=by
 have d:Js a1 a2 a3 a4 a5 n=0:=by unfold Js;rw[h];rfl
 have j:Nk a1 a2 a3 a4 a5 n=0:=by unfold Nk;rw[h];rfl
 have b:xpB a1 a2 a3 a4 a5 n=false:=by unfold xpB;rw[h];rfl
 have v:Gd a1 a2 a3 a4 a5 n=⟨a1,a2⟩:=by unfold Gd;rw[j];rfl
 refine⟨?_,?_,?_,?_,?_,?_,b⟩
 ·unfold xpC;rw[d,v];exact Fh.1
 ·unfold xpU;rw[d,v];exact(Fh (c:=a0)).2.1
 ·unfold xpE;rw[d,v];exact(Fh (c:=a0) (u:=a1)).2.2
 ·unfold xpK;rw[h];rfl
 ·unfold xpF;rw[b];rfl
 ·unfold xpA;rw[b];rfl
theorem aeY (h:tkB (zlI a2) a5 n=true)(p:Al a0 a1 a2 a3 a4 (wP a2 a5 n) i u e)(i0:0<=i)(i1:n<=i)(i2:i<=n):xpC a0 a1 a2 a3 a4 a5 n=a0/\xpU a0 a1 a2 a3 a4 a5 n=u/\xpE a0 a1 a2 a3 a4 a5 n=e/\xpK a1 a2 a3 a4 a5 n=a3+n/\xpF a1 a2 a3 a4 a5 n=tkL (zlI a2) a5 n/\xpA a1 a2 a3 a4 a5 n=wP a2 a5 n/\xpB a1 a2 a3 a4 a5 n=true:=by
 have f:LI a1 a2 a3 a4 a5 n= -1:=LJ p i1 i0;have d:Js a1 a2 a3 a4 a5 n=0:=by unfold Js;rw[VL h,f];rfl
 have j:Nk a1 a2 a3 a4 a5 n=n:=by unfold Nk;rw[VL h,f];rfl
 have b:xpB a1 a2 a3 a4 a5 n=true:=by unfold xpB;rw[h,f];rfl
 have v:Gd a1 a2 a3 a4 a5 n=⟨u,e⟩:=by
  unfold Gd;rw[j,p.eu,p.ee,show i=n by omega]
 refine⟨?_,?_,?_,?_,?_,?_,b⟩
 ·unfold xpC;rw[d,v];exact Fh.1
 ·unfold xpU;rw[d,v];exact(Fh (c:=a0)).2.1
 ·unfold xpE;rw[d,v];exact(Fh (c:=a0) (u:=u)).2.2
 ·unfold xpK;rw[VL h,f];rfl
 ·unfold xpF;rw[VL b]
 ·unfold xpA;rw[VL b]
theorem aeX (h:tkB (zlI a2) a5 n=true)(p:Al a0 a1 a2 a3 a4 (wP a2 a5 n) i u e)(i0:0<=i)(i1:i<n)(g:sU u e (a3+i) a4 (wP a2 a5 n+i)=false):xpC a0 a1 a2 a3 a4 a5 n=duC a0 u e (wP a2 a5 n) i/\xpU a0 a1 a2 a3 a4 a5 n=duU a0 u e (wP a2 a5 n) i/\xpE a0 a1 a2 a3 a4 a5 n=duE a0 u e (wP a2 a5 n) i/\xpK a1 a2 a3 a4 a5 n=a3+i+1/\xpF a1 a2 a3 a4 a5 n=a5/\xpA a1 a2 a3 a4 a5 n= -1/\xpB a1 a2 a3 a4 a5 n=false:=by
 have f:LI a1 a2 a3 a4 a5 n=i:=QQ p i0 i1 g;have d:Js a1 a2 a3 a4 a5 n=i:=by unfold Js;rw[VL h,f,VM (by omega)]
 have j:Nk a1 a2 a3 a4 a5 n=i:=by unfold Nk;rw[VL h,f,VM (by omega)]
 have b:xpB a1 a2 a3 a4 a5 n=false:=by unfold xpB;rw[h,f,VJ (by omega)];rfl
 have v:Gd a1 a2 a3 a4 a5 n=⟨u,e⟩:=by unfold Gd;rw[j,p.eu,p.ee]
 refine⟨?_,?_,?_,?_,?_,?_,b⟩
 ·unfold xpC;rw[d,v]
 ·unfold xpU;rw[d,v]
 ·unfold xpE;rw[d,v]
 ·unfold xpK;rw[VL h,f,VM (by omega)]
 ·unfold xpF;rw[b];rfl
 ·unfold xpA;rw[b];rfl
theorem aeW (m:k9 a0 a1 a2)(rc:Rw [.sl [tI]] a0)(ru:Rw [tB] a1)(re:Rw [tI,tI] a2):k9 (xpC a0 a1 a2 a3 a4 a5 n) (xpU a0 a1 a2 a3 a4 a5 n) (xpE a0 a1 a2 a3 a4 a5 n)/\Rw [.sl [tI]] (xpC a0 a1 a2 a3 a4 a5 n)/\Rw [tB] (xpU a0 a1 a2 a3 a4 a5 n)/\Rw [tI,tI] (xpE a0 a1 a2 a3 a4 a5 n)/\(xpE a0 a1 a2 a3 a4 a5 n).length=a2.length/\av (xpC a0 a1 a2 a3 a4 a5 n)<=1024/\av (xpU a0 a1 a2 a3 a4 a5 n)<=64/\av (xpE a0 a1 a2 a3 a4 a5 n)<=64:=by
 have v:=E8 (c:=a3) (rs:=a4) (t:=wP a2 a5 n) m ru re (Nk a1 a2 a3 a4 a5 n).toNat;have d:=Si (t:=wP a2 a5 n) (l:=Js a1 a2 a3 a4 a5 n) v.1 rc v.2.1 v.2.2.1;exact⟨d.1,d.2.1,d.2.2.1,d.2.2.2.1,d.2.2.2.2.1.trans v.2.2.2,d.2.2.2.2.2⟩
theorem QO (h:Rw [tI,tI] a5):Rw [tI,tI] (xpF a1 a2 a3 a4 a5 n)/\(xpF a1 a2 a3 a4 a5 n).length<=a5.length:=by
 unfold xpF;split;exact abJ h;exact⟨h,Ze _⟩
theorem acm (h:xpB a1 a2 a3 a4 a5 n=true):tkB (zlI a2) a5 n=true/\xpA a1 a2 a3 a4 a5 n=wP a2 a5 n/\TkT (zlI a2) a5 n:=by
 have q:=h;unfold xpB at q;rw[Zc]at q;exact⟨q.1,by unfold xpA;rw[VL h],zx q.1⟩
theorem Jc (h:tkB (zlI a2) a5 n=true):0<=wP a2 a5 n/\wP a2 a5 n+n<=a2.length/\1<=n/\(a2.length:Int)<=32:=by
 have T:=zx h;have e:wP a2 a5 n=ag a5 (dQ a5 n) 0:=by unfold wP tkA;rw[VL h]
 have q1:=T.a0;have q2:=T.l0;have q3:=T.e;have q4:=T.p0;have q5:=T.n0;unfold zlI at q3 q4;omega
end
end Go.V
namespace Go.V
def kwU (k:Bool)(us es:af)(c:Int)(rs:af)(p:Int):af:=if k=true then Er us es c rs p else us
def kwE (k:Bool)(us es:af)(c:Int)(rs:af)(p:Int):af:=if k=true then CO us es c rs p else es
def kwB (k:Bool)(us es:af)(c:Int)(rs:af)(p:Int):Bool:=k&&sU us es c rs p
section
variable {cs us es rs: af} {c p n: Int}
theorem rU (h:sU us es c rs p=false):us=kwU true us es c rs p/\es=kwE true us es c rs p/\false=kwB true us es c rs p:=by
 have q:=adR h;refine⟨?_,?_,?_⟩
 ·unfold kwU;rw[VL rfl,q.1]
 ·unfold kwE;rw[VL rfl,q.2]
 ·unfold kwB;rw[h];rfl
theorem Pg (h:sU us es c rs p=true):us.set (dH us).toNat [.v (.bool true)]=kwU true us es c rs p/\wR es p 2 (dH us)=kwE true us es c rs p/\true=kwB true us es c rs p:=by
 have q:=adS h;refine⟨?_,?_,?_⟩
 ·unfold kwU;rw[VL rfl,q.1]
 ·unfold kwE;rw[VL rfl,q.2]
 ·unfold kwB;rw[h];rfl
theorem Pd (h:kerOk cs us es c rs=true):framesOk cs us=true:=by
 unfold kerOk at h;simp only[Zc]at h;exact(MD h.1.1).1
theorem SV (f:framesOk cs us=true)(h:ftB cs us=true):ftU cs us=us.set (dH us).toNat [.v (.bool true)]/\ftI cs us=dH us/\0<=dH us/\dH us<us.length:=by
 have q:=SU h;have b:=uf (us:=us);exact⟨q.2.2.2,q.2.2.1,by omega,by omega⟩
theorem SX (f:framesOk cs us=true)(h:ftB cs us=false):dH us<0:=by
 unfold ftB at h;rw[f,Yx]at h;have:=VO h;omega
theorem aar (h:nhR rs c=false):hasB rs c=true:=by unfold nhR at h;simpa using h
theorem aas (h:nhR rs c=true):hasB rs c=false:=by unfold nhR at h;simpa using h
theorem ad8 (h:mapB es p=false):peM es p=0:=by unfold mapB at h;have:=VO h;omega
theorem abv {m f:Int}(h:Rw [tI,tI] es)(p0:0<=p)(p1:p<es.length):jS (.s 2 es) [(p.toNat,0)] [.i m,.i f]=wR es p m f:=by
 unfold wR;exact eZ (by rw[h.eta p0 p1];rfl)
theorem pN {rs o:af}{a:Int}{b:Bool}(h1:tkL p rs n=o/\tkA p rs n=a)(h2:tkB p rs n=b):[DV.one (.s 2 o),DV.j a,DV.k b]=[DV.one (.s 2 (tkL p rs n)),DV.j (tkA p rs n),DV.k (tkB p rs n)]:=by rw[h1.1,h1.2,h2]
theorem Na {o:af}{n:Int}(h:Rw [tI,tI] o)(n0:0<=n)(n1:n<o.length):∃ rec o',bQ (.s 2 o) [(n.toNat,0)]=some (rec,o')/\o'+2<=rec.length:=eL (by omega) (by
 rw[h.eta n0 n1];exact Ze _)
theorem abu {x y:Int}(h:Rw [tI,tI] rs)(p0:0<=p)(p1:p<rs.length):jS (.s 2 rs) [(p.toNat,0)] [.i x,.i y]=rs.set p.toNat [.i x,.i y]:=abv h p0 p1
theorem abK {b x y z:Int}{rs:af}(h:Rw [tI,tI] rs)(b0:0<=b)(b1:b<rs.length)(e:ag rs b 1=y)(hx: -9223372036854775808<=x/\x<=9223372036854775807):jS (.s 2 (jS (.s 2 rs) [(b.toNat,0)] [.i x])) [(b.toNat,1)] [.i z]=rs.set b.toNat [.i x,.i z]/\ag (jS (.s 2 rs) [(b.toNat,0)] [.i x]) b 1=y/\jS (.s 2 rs) [(b.toNat,0)] [.i x]=rs.set b.toNat [.i x,.i y]:=by
 have u:=abP (x:=.int Za x) h b0 b1;rw[e]at u;have yb: -9223372036854775808<=y/\y<=9223372036854775807:=e▸AP h (j:=1) rfl (by omega);have r:Rw [tI,tI] (rs.set b.toNat [.i x,.i y]):=Rw.set h (show bR [tI,tI] [.i x,.i y]from⟨⟨rfl,hx⟩,⟨rfl,yb⟩,trivial⟩) _;have g:(rs.set b.toNat [.i x,.i y]).getD b.toNat []=[.i x,.i y]:=by rw[lV (by omega),VL rfl]
 have g0:ag (rs.set b.toNat [.i x,.i y]) b 0=x:=by unfold ag;rw[g];rfl
 have g1:ag (rs.set b.toNat [.i x,.i y]) b 1=y:=by unfold ag;rw[g];rfl
 rw[u];refine⟨?_,g1,rfl⟩;rw[abQ r b0 (by rw[Zw];exact b1),g0,Wi]
structure TkU (rs:af)(n:Int):Prop where
 g0:Ad (.s 2 rs) [((dQ rs n).toNat,0)]=ag rs (dQ rs n) 0
 u1:jS (.s 2 rs) [((dQ rs n).toNat,0)] [.i (ag rs (dQ rs n) 0+n)]=rs.set (dQ rs n).toNat [.i (ag rs (dQ rs n) 0+n),.i (ag rs (dQ rs n) 1)]
 g1:Ad (.s 2 (rs.set (dQ rs n).toNat [.i (ag rs (dQ rs n) 0+n),.i (ag rs (dQ rs n) 1)])) [((dQ rs n).toNat,1)]=ag rs (dQ rs n) 1
 u2:jS (.s 2 (rs.set (dQ rs n).toNat [.i (ag rs (dQ rs n) 0+n),.i (ag rs (dQ rs n) 1)])) [((dQ rs n).toNat,1)] [.i (ag rs (dQ rs n) 1-n)]=rs.set (dQ rs n).toNat [.i (ag rs (dQ rs n) 0+n),.i (ag rs (dQ rs n) 1-n)]
 g2:Ad (.s 2 (rs.set (dQ rs n).toNat [.i (ag rs (dQ rs n) 0+n),.i (ag rs (dQ rs n) 1-n)])) [((dQ rs n).toNat,1)]=ag rs (dQ rs n) 1-n
 w1:Rw [tI,tI] (rs.set (dQ rs n).toNat [.i (ag rs (dQ rs n) 0+n),.i (ag rs (dQ rs n) 1)])
 w2:Rw [tI,tI] (rs.set (dQ rs n).toNat [.i (ag rs (dQ rs n) 0+n),.i (ag rs (dQ rs n) 1-n)])
 l:dQ rs n<(rs.set (dQ rs n).toNat [.i (ag rs (dQ rs n) 0+n),.i (ag rs (dQ rs n) 1)]).length
 l2:dQ rs n<(rs.set (dQ rs n).toNat [.i (ag rs (dQ rs n) 0+n),.i (ag rs (dQ rs n) 1-n)]).length
theorem aeK (h:Rw [tI,tI] rs)(T:TkT p rs n):TkU rs n:=by
 have t0:=T.i0;have t1:=T.i1;have a:=T.a0;have b:=T.l0;have c:=T.e;have d:=T.p0;have e:=T.n0;have hx: -9223372036854775808<=ag rs (dQ rs n) 0+n/\ag rs (dQ rs n) 0+n<=9223372036854775807:=⟨by omega,by omega⟩;have q:=abK (x:=ag rs (dQ rs n) 0+n) (z:=ag rs (dQ rs n) 1-n) h t0 t1 rfl hx;have w:∀ y:Int,-9223372036854775808<=y->y<=9223372036854775807->Rw [tI,tI] (rs.set (dQ rs n).toNat [.i (ag rs (dQ rs n) 0+n),.i y]):=fun y y0 y1=>Rw.set h (show bR [tI,tI] [.i (ag rs (dQ rs n) 0+n),.i y]from⟨⟨rfl,hx⟩,⟨rfl,⟨y0,y1⟩⟩,trivial⟩) _
 refine⟨hZ t0,q.2.2,?_,?_,?_,w _ (by omega) (by omega),w _ (by omega) (by omega),by rw[Zw];exact t1,by rw[Zw];exact t1⟩
 ·rw[hZ t0, <-q.2.2];exact q.2.1
 ·rw[<-q.2.2];exact q.1
 ·rw[hZ t0];unfold ag;rw[lV (by omega),VL rfl];rfl
theorem QD {b x y:Int}{rs:af}(b0:0<=b):delL (rs.set b.toNat [.i x,.i y]) b (b+1)=xh rs b:=J1 (rs:=rs) b0
end
end Go.V
namespace Go.V
def Fz (rs:af)(j:Nat)(x i:Int):Bool:=decide (x<=ag rs i j)
def Fy (rs:af)(j:Nat)(x:Int):Int:=if cQ (Fz rs j x) rs.length<0 then rs.length else cQ (Fz rs j x) rs.length
section
variable {rs: af} {j: Nat} {x i: Int}
theorem HJ:0<=Fy rs j x/\Fy rs j x<=rs.length:=by
 have h:=qq (p:=Fz rs j x) (n:=rs.length);unfold Fy;split;omega;omega
theorem Pi (h:upto (cK (Fz rs j x)) i)(c:ag rs i j<x):upto (cK (Fz rs j x)) (i+1):=bN h (ft (VJ (by omega)))
theorem Et (h:upto (cK (Fz rs j x)) i)(i0:0<=i)(i1:i<rs.length)(c:x<=ag rs i j):i=Fy rs j x:=by
 have e:=du (n:=rs.length) h i0 (by omega) (VI c);unfold Fy;rw[e,VM (by omega)]
theorem yS (h:upto (cK (Fz rs j x)) i)(i1:i<=rs.length)(i2:(rs.length:Int)<=i):i=Fy rs j x:=by
 have e:=d7 (n:=rs.length) h (by omega);unfold Fy;rw[e,VL (by omega)];omega
end
def inL (es:af)(i:Int)(x:af):af:=es.take i.toNat++(x++es.drop i.toNat)
section
variable {es x: af} {i: Int} {fs: List Ty}
theorem CG:(inL es i x).length=es.length+x.length:=by unfold inL;simp only[Zf,Zg,Zo];omega
theorem TQ (h:Rw fs es)(hx:Rw fs x)(b:es.length+x.length<=maxLen):Rw fs (inL es i x):=by
 refine⟨by rw[CG];exact b,fun e he=>?_⟩;unfold inL at he;rcases Zh.1 he with q|q;exact h.2 e (Xh q)
 ·rcases Zh.1 q with q|q;exact hx.2 e q;exact h.2 e (Yt q)
theorem TP:[]++es.take i.toNat++x++es.drop i.toNat=inL es i x:=by unfold inL;simp
theorem O6 (i0:0<=i)(i1:i<=es.length):[]++mi es (YX 0) (BS i 0)++x++mi es i.toNat (BS (es.length:Int) i)=inL es i x:=by rw[qM,zn i0 i1];exact TP
end
def wiN (b i:Int):Int:=if slB b i=true then bO .or Za b (IN .shl Za 1 i)else b
theorem abW {n b i:Int}(h:bmOk n b=true)(i0:0<=i)(i1:i<n):bmOk n (wiN b i)=true:=by
 unfold bmOk at h;rw[Zc]at h;have q1:=bi.1 h.1;have q2:=bi.1 h.2;have p:(2:Int)^n.toNat=((2^n.toNat:Nat):Int):=by rw[Int.natCast_pow];rfl
 have p16:2^n.toNat<=2^16:=Nat.pow_le_pow_right (by omega) (by omega);obtain⟨N,hN⟩:∃ N:Nat,N=2^n.toNat:=⟨_,rfl⟩;rw[<-hN]at p p16;rw[p]at q2;obtain⟨m,rfl⟩:=Z8 q2.1;obtain⟨k,rfl⟩:=Z8 i0;have w:wiN (m:Int) (k:Int)=bO .or Za (m:Int) ((2^k:Nat):Int):=by unfold wiN;rw[VL (Bm.2 ⟨q2.1,i0,by omega⟩),M8 (by omega)]
 have e:q8 (m:Int)|||q8 ((2^k:Nat):Int)=BitVec.ofNat 64 (m|||2^k):=by
  unfold q8;rw[Xg,Xg,BitVec.ofNat_or]
 have l:m|||2^k<N:=by rw[hN];exact Nat.or_lt_two_pow (by rw[<-hN];omega) (Nat.pow_lt_pow_right (by omega) (by omega))
 have v:wiN (m:Int) (k:Int)=((m|||2^k:Nat):Int):=by
  rw[w,aaL,e,Wd (by rw[Y2];omega),Y2];omega
 unfold bmOk;rw[h.1,v,p,Yx];exact bi.2 (show(0:Int)<=((m|||2^k:Nat):Int)/\((m|||2^k:Nat):Int)<=(N:Int)-1 from⟨by omega,by omega⟩)
theorem Cv {b:Int}:∀ {k:Nat} {j:Int},0<=j->j<(AG b k).length->0<=ag (AG b k) j 0/\ag (AG b k) j 0<k
 |0,j,h0,h1=>absurd h1 (by show¬ j<((0:Nat):Int);omega)
 | k+1,j,h0,h1=>by
   unfold AG at h1 ⊢;split at h1<;>rename_i c
   ·rw[VL c];have:=Cv h0 h1;omega
   ·rw[VM c];rw[Zf]at h1;simp only[Zj,Zl]at h1;by_cases q:j<(AG b k).length
    ·have:=Cv h0 q;obtain⟨m,rfl⟩:=Z8 h0;rw[Eh (by omega)];omega
    ·obtain rfl:j=((AG b k).length:Int):=by omega
     rw[Hh];show 0<=(k:Int)/\(k:Int)<((k+1:Nat):Int);omega
def oY (a2 a6:af)(i:Int):af:=frL (slN (ag a6 i 1)) (ubB a2 a6 i)
def xcB (a2 a6:af)(i:Int):Bool:=decide (0<(oY a2 a6 i).length)
def oK (a2 a6:af)(s i:Int):Int:=ag (oY a2 a6 i) (cuI s (oY a2 a6 i).length) 0
def xcS (a2 a6:af)(s i:Int):af:=if xcB a2 a6 i=true then a6.set i.toNat [.i (ag a6 i 0),.i (ag a6 i 1),.i (wiN (ag a6 i 2) (oK a2 a6 s i))]else a6
def xcD (a2 a6:af)(s i:Int):Int:=if xcB a2 a6 i=true then cuS s (oY a2 a6 i).length else s
def xcA (a2 a6:af)(s i:Int):Int:=if xcB a2 a6 i=true then aaI (ag a6 i 0) (ag a6 i 1) (ag a6 i 2) (oK a2 a6 s i)else-1
section
variable {a2 a6: af} {s i: Int}
theorem LG (h:(oY a2 a6 i).length=0):xcB a2 a6 i=false/\xcS a2 a6 s i=a6/\xcD a2 a6 s i=s/\xcA a2 a6 s i= -1:=by
 have b:xcB a2 a6 i=false:=VJ (by omega);refine⟨b,?_,?_,?_⟩
 ·unfold xcS;rw[b];rfl
 ·unfold xcD;rw[b];rfl
 ·unfold xcA;rw[b];rfl
theorem LH (h:¬ (oY a2 a6 i).length=0):xcB a2 a6 i=true/\xcS a2 a6 s i=a6.set i.toNat [.i (ag a6 i 0),.i (ag a6 i 1),.i (wiN (ag a6 i 2) (oK a2 a6 s i))]/\xcD a2 a6 s i=cuS s (oY a2 a6 i).length/\xcA a2 a6 s i=aaI (ag a6 i 0) (ag a6 i 1) (ag a6 i 2) (oK a2 a6 s i):=by
 have b:xcB a2 a6 i=true:=VI (by omega);refine⟨b,?_,?_,?_⟩
 ·unfold xcS;rw[VL b]
 ·unfold xcD;rw[VL b]
 ·unfold xcA;rw[VL b]
structure XcT (a2 a6:af)(s i:Int):Prop where
 l0:1<=(oY a2 a6 i).length
 l1:(oY a2 a6 i).length<=16
 k0:0<=cuI s (oY a2 a6 i).length
 k1:cuI s (oY a2 a6 i).length<(oY a2 a6 i).length
 t0:0<=oK a2 a6 s i
 t1:oK a2 a6 s i<slN (ag a6 i 1)
 n:slN (ag a6 i 1)<=16
 sp:spOk (ag a6 i 0) (ag a6 i 1) (wiN (ag a6 i 2) (oK a2 a6 s i))=true
 a0:0<=aaI (ag a6 i 0) (ag a6 i 1) (ag a6 i 2) (oK a2 a6 s i)
 a1:aaI (ag a6 i 0) (ag a6 i 1) (ag a6 i 2) (oK a2 a6 s i)<=511
 aa:aaI (ag a6 i 0) (ag a6 i 1) (wiN (ag a6 i 2) (oK a2 a6 s i)) (oK a2 a6 s i)=aaI (ag a6 i 0) (ag a6 i 1) (ag a6 i 2) (oK a2 a6 s i)
 w: -9223372036854775808<=wiN (ag a6 i 2) (oK a2 a6 s i)/\wiN (ag a6 i 2) (oK a2 a6 s i)<=9223372036854775807
 d:inR (cuS s (oY a2 a6 i).length) 0 1073741823=true
theorem E5 (hs:spOk (ag a6 i 0) (ag a6 i 1) (ag a6 i 2)=true)(hd:inR s 0 1073741823=true)(h:¬ (oY a2 a6 i).length=0):XcT a2 a6 s i:=by
 have t:=mg hs;have c:=lT t.2.2.1;have l:(oY a2 a6 i).length<=16:=by
  unfold oY frL;split
  ·have:=ue (b:=ubB a2 a6 i) (slN (ag a6 i 1)).toNat;omega
  ·simp
 have k:=R9 (n:=(oY a2 a6 i).length) hd (by omega) (by omega);have g:0<=oK a2 a6 s i/\oK a2 a6 s i<slN (ag a6 i 1):=by
  have e:oY a2 a6 i=AG (ubB a2 a6 i) (slN (ag a6 i 1)).toNat:=by
   have q:bmOk (slN (ag a6 i 1)) (ubB a2 a6 i)=true:=by
    cases q:bmOk (slN (ag a6 i 1)) (ubB a2 a6 i)with
    |true=>rfl
    |false=>exact absurd (by unfold oY frL;rw[q];rfl) h
   unfold oY frL;rw[VL q]
  have q:=Cv (b:=ubB a2 a6 i) (k:=(slN (ag a6 i 1)).toNat) (j:=cuI s (oY a2 a6 i).length) k.1 (by rw[<-e];exact k.2.1);rw[<-e]at q;unfold oK;omega
 have w:=abW t.2.2.2 g.1 g.2;have sp:spOk (ag a6 i 0) (ag a6 i 1) (wiN (ag a6 i 2) (oK a2 a6 s i))=true:=by unfold spOk;rw[bi.2 ⟨t.1,t.2.1⟩,w];rfl
 have r:inR (oK a2 a6 s i) 0 (slN (ag a6 i 1)-1)=true:=bi.2 ⟨g.1,by omega⟩;have bb:=acw w;have m1:0<=oK a2 a6 s i*clsSz (ag a6 i 1):=Int.mul_nonneg g.1 (by omega);have m2:oK a2 a6 s i*clsSz (ag a6 i 1)<=(slN (ag a6 i 1)-1)*clsSz (ag a6 i 1):=Int.mul_le_mul_of_nonneg_right (by omega) (by omega);have m3:(slN (ag a6 i 1)-1)*clsSz (ag a6 i 1)=16-clsSz (ag a6 i 1):=by rw[Int.sub_mul,c.2.2.2.2,Wa]
 have e1:aaI (ag a6 i 0) (ag a6 i 1) (ag a6 i 2) (oK a2 a6 s i)=ag a6 i 0*16+oK a2 a6 s i*clsSz (ag a6 i 1):=by unfold aaI JA;rw[hs,r];rfl
 have e2:aaI (ag a6 i 0) (ag a6 i 1) (wiN (ag a6 i 2) (oK a2 a6 s i)) (oK a2 a6 s i)=ag a6 i 0*16+oK a2 a6 s i*clsSz (ag a6 i 1):=by unfold aaI JA;rw[sp,r];rfl
 exact⟨by omega,l,k.1,k.2.1,g.1,g.2,c.2.2.2.1,sp,by omega,by omega,by rw[e1,e2],⟨by omega,by omega⟩,k.2.2⟩
end
end Go.V
namespace Go.V
def isL (a6:af)(p k b:Int):af:=inL a6 (Fy a6 0 p) [[.i p,.i k,.i b]]
def isI (a6:af)(p:Int):Int:=Fy a6 0 p
def xsL (a1 a2:af)(a3:Int)(a4 a5 a6:af)(k:Int):af:=if xpB a1 a2 a3 a4 a5 1=true then isL a6 (xpA a1 a2 a3 a4 a5 1) k 0 else a6
def Np (a1 a2:af)(a3:Int)(a4 a5 a6:af)(k:Int):Int:=if xpB a1 a2 a3 a4 a5 1=true then isI a6 (xpA a1 a2 a3 a4 a5 1)else-1
theorem zg {o o':af}(h:o=o'):[DV.one (.s 1 o)]=[DV.one (.s 1 o')]:=by rw[h]
theorem Rz {n b:Int}(h:bmOk n b=true):1<=n/\n<=16/\0<=b:=by
 unfold bmOk at h;rw[Zc]at h;have q1:=bi.1 h.1;have q2:=bi.1 h.2;omega
theorem OF {b i:Int}{o:af}(h:Jh b i o)(i1:i<=16):Rw [tI] o:=by rw[h.e];exact yI _ (by omega)
theorem L3 {ls:af}{k:Int}(h:clB ls k=false):ctB ls k=false:=by unfold ctB;rw[h];rfl
theorem L4 {ls:af}{k:Int}(h:(aO ls k 0).length=0):ctB ls k=false:=by unfold ctB;rw[VJ (by omega),Yf]
theorem R5 {ls:af}{k:Int}(h:clB ls k=true)(n:¬ (aO ls k 0).length=0):ctL ls k=ls.set k.toNat [.s 1 ((aO ls k 0).take ((aO ls k 0).length-1))]/\ctA ls k=ag (aO ls k 0) ((aO ls k 0).length-1) 0/\ctB ls k=true:=by
 have b:ctB ls k=true:=by unfold ctB;rw[h,VI (by omega)];rfl
 have q:=R4 b;exact⟨q.1,q.2,b⟩
theorem II {l:af}{i:Int}:mi l 0 (BS i 0)=l.take i.toNat:=qM
theorem aeL {n:Nat}:((n:Int)-1).toNat=n-1:=by omega
end Go.V
namespace Go.V
section
variable {a0 a1 a2 a4 a5 a6 u e: af} {a3 t i k s n: Int}
theorem acq (hk:kerOk a0 a1 a2 a3 a4=true)(P:Al a0 a1 a2 a3 a4 t i u e)(c0:0<=a3)(c1:a3<=90000)(i0:0<=i)(i1:i<=32):ccB a0 u e (a3+i) a4=true:=by
 rw[GH (by omega)];exact yP P.m (by omega) (by omega) (jP hk).2.2.2
theorem QP (rc:Rw [.sl [tI]] a0)(P:Al a0 a1 a2 a3 a4 t i u e):av a0<=1024/\av u<=64/\av e<=64:=uh P.m rc P.ru P.re
theorem adV {c:Int}:kqN true c=c+1:=by unfold kqN;rw[VL rfl]
theorem abC {o:af}{n:Int}{j:Nat}(h:Rw [tI,tI,tI] o)(n0:0<=n)(n1:n<o.length)(hj:j<3):∃ rec o',bQ (.s 3 o) [(n.toNat,j)]=some (rec,o')/\o'+1<=rec.length:=eL (by omega) (by
 rw[h.eta n0 n1];show j+1<=3;omega)
theorem aac {o:af}{n:Int}(h:Rw [tI] o)(n0:0<=n)(n1:n<o.length):∃ rec o',bQ (L.s 1 o) [(n.toNat,0)]=some (rec,o')/\o'+[L.v (Zi Zt 0)].length<=rec.length/\Z7 [L.v (Zi Zt 0)].length (Ym o' rec)=jL am (L.s 1 o) [(n.toNat,0)] 0 [L.v (Zi Zt 0)]:=
 d8 (z0:=[.i 0]) (z:=[.i 0]) h.wf (by omega) rfl (by decide)
theorem OB {n b:Int}:Rw [tI] (frL n b):=by
 unfold frL;split
 ·rename_i c;have:=Rz c;exact yI _ (by omega)
 ·exact Rw.nil
theorem XcT.r (_:XcT a2 a6 s i):Rw [tI] (oY a2 a6 i):=OB
structure XcU (a2 a6:af)(s i:Int):Prop where
 u:jS (.s 3 a6) [(i.toNat,2)] [.i (wiN (ag a6 i 2) (oK a2 a6 s i))]=a6.set i.toNat [.i (ag a6 i 0),.i (ag a6 i 1),.i (wiN (ag a6 i 2) (oK a2 a6 s i))]
 g0:Ad (.s 3 (a6.set i.toNat [.i (ag a6 i 0),.i (ag a6 i 1),.i (wiN (ag a6 i 2) (oK a2 a6 s i))])) [(i.toNat,0)]=ag a6 i 0
 g1:Ad (.s 3 (a6.set i.toNat [.i (ag a6 i 0),.i (ag a6 i 1),.i (wiN (ag a6 i 2) (oK a2 a6 s i))])) [(i.toNat,1)]=ag a6 i 1
 g2:Ad (.s 3 (a6.set i.toNat [.i (ag a6 i 0),.i (ag a6 i 1),.i (wiN (ag a6 i 2) (oK a2 a6 s i))])) [(i.toNat,2)]=wiN (ag a6 i 2) (oK a2 a6 s i)
 w:Rw [tI,tI,tI] (a6.set i.toNat [.i (ag a6 i 0),.i (ag a6 i 1),.i (wiN (ag a6 i 2) (oK a2 a6 s i))])
 l:i<(a6.set i.toNat [.i (ag a6 i 0),.i (ag a6 i 1),.i (wiN (ag a6 i 2) (oK a2 a6 s i))]).length
theorem aeS (h:Rw [tI,tI,tI] a6)(i0:0<=i)(i1:i<a6.length)(X:XcT a2 a6 s i):XcU a2 a6 s i:=by
 have g:∀ r:aP,(a6.set i.toNat r).getD i.toNat []=r:=fun r=>by rw[lV (by omega),VL rfl]
 refine⟨?_,?_,?_,?_,aey h (AP h (j:=0) rfl (by omega)) (AP h (j:=1) rfl (by omega)) X.w,by rw[Zw];exact i1⟩
 ·unfold jS jM rowOf;rw[h.eta i0 i1];rfl
 ·rw[hZ i0];unfold ag;rw[g];rfl
 ·rw[hZ i0];unfold ag;rw[g];rfl
 ·rw[hZ i0];unfold ag;rw[g];rfl
theorem Nn (ht:wP a2 a5 n=t)(h:tkB (zlI a2) a5 n=true)(p:Al a0 a1 a2 a3 a4 t i u e)(i0:0<=i)(i1:n<=i)(i2:i<=n):xpC a0 a1 a2 a3 a4 a5 n=a0/\xpU a0 a1 a2 a3 a4 a5 n=u/\xpE a0 a1 a2 a3 a4 a5 n=e/\xpK a1 a2 a3 a4 a5 n=a3+i/\xpF a1 a2 a3 a4 a5 n=tkL (zlI a2) a5 n/\xpA a1 a2 a3 a4 a5 n=t/\xpB a1 a2 a3 a4 a5 n=true:=by
 subst ht;have q:=aeY h p i0 i1 i2;rw[show a3+n=a3+i by omega]at q;exact q
theorem Nl {p:Int}{v w x:af}(ht:wP a2 a5 n=t)(h:tkB (zlI a2) a5 n=true)(P:Al a0 a1 a2 a3 a4 t i u e)(i0:0<=i)(i1:i<n)(g:sU u e (a3+i) a4 (t+i)=false)(D:F3 a0 u e t p v w x)(p1:p<=t+i)(p2:t+i<=p):xpC a0 a1 a2 a3 a4 a5 n=v/\xpU a0 a1 a2 a3 a4 a5 n=w/\xpE a0 a1 a2 a3 a4 a5 n=x/\xpK a1 a2 a3 a4 a5 n=a3+i+1/\xpF a1 a2 a3 a4 a5 n=a5/\xpA a1 a2 a3 a4 a5 n= -1/\xpB a1 a2 a3 a4 a5 n=false:=by
 subst ht;have q:=aeX h P i0 i1 g;have d:=Eb (l:=i) D p2 p1;rw[<-d.1, <-d.2.1, <-d.2.2]at q;exact q
theorem acp {v w x:af}{c:Int}(hk:kerOk a0 a1 a2 a3 a4=true)(m:k9 v w x)(c0:0<=c)(c1:c<100000):ccB v w x c a4=true:=by
 rw[GH (by omega)];exact yP m (by omega) (by omega) (jP hk).2.2.2
theorem ae0 (P:Al a0 a1 a2 a3 a4 t i u e)(i0:0<=i)(g:kwB true u e (a3+i) a4 (t+i)=true):Al a0 a1 a2 a3 a4 t (i+1) (kwU true u e (a3+i) a4 (t+i)) (kwE true u e (a3+i) a4 (t+i)):=QR P i0 g
theorem aeZ (rc:Rw [.sl [tI]] a0)(P:Al a0 a1 a2 a3 a4 t i u e)(g:kwB true u e (a3+i) a4 (t+i)=false):F3 a0 u e t t a0 (kwU true u e (a3+i) a4 (t+i)) (kwE true u e (a3+i) a4 (t+i)):=by
 have w:=rU (show sU u e (a3+i) a4 (t+i)=false from g);rw[<-w.1, <-w.2.1];exact GX P.m rc P.ru P.re
end
end Go.V
namespace Go.V
def BN (a2 a6:af)(aI:Bool)(aJ aK k i:Int):Bool:=eqB (ag a6 i 1) k&&(!bsB aI aJ aK (ag a6 i 0)&&xcB a2 a6 i)
def E6 (a2 a6:af)(aI:Bool)(aJ aK k:Int):Int:=cQ (BN a2 a6 aI aJ aK k) a6.length
def uy (a1 a2:af)(a3:Int)(a4 a5 a6 a9:af)(aI:Bool)(aJ aK t k:Int):Nat:=if ctB (aO a9 t 0) k=true then 0 else if 0<=E6 a2 a6 aI aJ aK k then 1 else if xpB a1 a2 a3 a4 a5 1=true then 3 else 2
def xmC (a0 a1 a2:af)(a3:Int)(a4 a5 a6 a9:af)(aE:Int)(aI:Bool)(aJ aK t k:Int):af:=if 2<=uy a1 a2 a3 a4 a5 a6 a9 aI aJ aK t k then xpC a0 a1 a2 a3 a4 a5 1 else a0
def xmU (a0 a1 a2:af)(a3:Int)(a4 a5 a6 a9:af)(aE:Int)(aI:Bool)(aJ aK t k:Int):af:=if 2<=uy a1 a2 a3 a4 a5 a6 a9 aI aJ aK t k then xpU a0 a1 a2 a3 a4 a5 1 else a1
def xmE (a0 a1 a2:af)(a3:Int)(a4 a5 a6 a9:af)(aE:Int)(aI:Bool)(aJ aK t k:Int):af:=if 2<=uy a1 a2 a3 a4 a5 a6 a9 aI aJ aK t k then xpE a0 a1 a2 a3 a4 a5 1 else a2
def xmF (a0 a1 a2:af)(a3:Int)(a4 a5 a6 a9:af)(aE:Int)(aI:Bool)(aJ aK t k:Int):af:=if 2<=uy a1 a2 a3 a4 a5 a6 a9 aI aJ aK t k then xpF a1 a2 a3 a4 a5 1 else a5
def xmK (a0 a1 a2:af)(a3:Int)(a4 a5 a6 a9:af)(aE:Int)(aI:Bool)(aJ aK t k:Int):Int:=if 2<=uy a1 a2 a3 a4 a5 a6 a9 aI aJ aK t k then xpK a1 a2 a3 a4 a5 1 else a3
def xmS (a0 a1 a2:af)(a3:Int)(a4 a5 a6 a9:af)(aE:Int)(aI:Bool)(aJ aK t k:Int):af:=if uy a1 a2 a3 a4 a5 a6 a9 aI aJ aK t k=1 then xcS a2 a6 aE (E6 a2 a6 aI aJ aK k)else if uy a1 a2 a3 a4 a5 a6 a9 aI aJ aK t k=3 then xcS (xpE a0 a1 a2 a3 a4 a5 1) (isL a6 (xpA a1 a2 a3 a4 a5 1) k 0) aE (isI a6 (xpA a1 a2 a3 a4 a5 1))else a6
def xmD (a0 a1 a2:af)(a3:Int)(a4 a5 a6 a9:af)(aE:Int)(aI:Bool)(aJ aK t k:Int):Int:=if uy a1 a2 a3 a4 a5 a6 a9 aI aJ aK t k=1 then xcD a2 a6 aE (E6 a2 a6 aI aJ aK k)else if uy a1 a2 a3 a4 a5 a6 a9 aI aJ aK t k=3 then xcD (xpE a0 a1 a2 a3 a4 a5 1) (isL a6 (xpA a1 a2 a3 a4 a5 1) k 0) aE (isI a6 (xpA a1 a2 a3 a4 a5 1))else aE
def xmX (a0 a1 a2:af)(a3:Int)(a4 a5 a6 a9:af)(aE:Int)(aI:Bool)(aJ aK t k:Int):af:=if uy a1 a2 a3 a4 a5 a6 a9 aI aJ aK t k=0 then a9.set t.toNat [.s 1 (ctL (aO a9 t 0) k)]else a9
def xmA (a0 a1 a2:af)(a3:Int)(a4 a5 a6 a9:af)(aE:Int)(aI:Bool)(aJ aK t k:Int):Int:=if uy a1 a2 a3 a4 a5 a6 a9 aI aJ aK t k=0 then ctA (aO a9 t 0) k else if uy a1 a2 a3 a4 a5 a6 a9 aI aJ aK t k=1 then xcA a2 a6 aE (E6 a2 a6 aI aJ aK k)else if uy a1 a2 a3 a4 a5 a6 a9 aI aJ aK t k=3 then xcA (xpE a0 a1 a2 a3 a4 a5 1) (isL a6 (xpA a1 a2 a3 a4 a5 1) k 0) aE (isI a6 (xpA a1 a2 a3 a4 a5 1))else-1
def xmB (a0 a1 a2:af)(a3:Int)(a4 a5 a6 a9:af)(aE:Int)(aI:Bool)(aJ aK t k:Int):Bool:=if uy a1 a2 a3 a4 a5 a6 a9 aI aJ aK t k=0 then true else if uy a1 a2 a3 a4 a5 a6 a9 aI aJ aK t k=1 then true else if uy a1 a2 a3 a4 a5 a6 a9 aI aJ aK t k=3 then xcB (xpE a0 a1 a2 a3 a4 a5 1) (isL a6 (xpA a1 a2 a3 a4 a5 1) k 0) (isI a6 (xpA a1 a2 a3 a4 a5 1))else false
section
variable {a0 a1 a2: af} {a3: Int} {a4 a5 a6 a7 a8 a9 aA aB aD aL: af} {aC aE aF aG aH: Int} {aI: Bool} {aJ aK aM aN t k i z: Int}
theorem acd (h:ctB (aO a9 t 0) k=true):xmC a0 a1 a2 a3 a4 a5 a6 a9 aE aI aJ aK t k=a0/\xmU a0 a1 a2 a3 a4 a5 a6 a9 aE aI aJ aK t k=a1/\xmE a0 a1 a2 a3 a4 a5 a6 a9 aE aI aJ aK t k=a2/\xmK a0 a1 a2 a3 a4 a5 a6 a9 aE aI aJ aK t k=a3/\xmF a0 a1 a2 a3 a4 a5 a6 a9 aE aI aJ aK t k=a5/\xmS a0 a1 a2 a3 a4 a5 a6 a9 aE aI aJ aK t k=a6/\xmX a0 a1 a2 a3 a4 a5 a6 a9 aE aI aJ aK t k=a9.set t.toNat [.s 1 (ctL (aO a9 t 0) k)]/\xmD a0 a1 a2 a3 a4 a5 a6 a9 aE aI aJ aK t k=aE/\xmA a0 a1 a2 a3 a4 a5 a6 a9 aE aI aJ aK t k=ctA (aO a9 t 0) k/\xmB a0 a1 a2 a3 a4 a5 a6 a9 aE aI aJ aK t k=true:=by
 have q:uy a1 a2 a3 a4 a5 a6 a9 aI aJ aK t k=0:=by unfold uy;rw[VL h]
 refine⟨?_,?_,?_,?_,?_,?_,?_,?_,?_,?_⟩
 ·unfold xmC;rw[q];rfl
 ·unfold xmU;rw[q];rfl
 ·unfold xmE;rw[q];rfl
 ·unfold xmK;rw[q];rfl
 ·unfold xmF;rw[q];rfl
 ·unfold xmS;rw[q];rfl
 ·unfold xmX;rw[q];rfl
 ·unfold xmD;rw[q];rfl
 ·unfold xmA;rw[q];rfl
 ·unfold xmB;rw[q];rfl
theorem ace (h:ctB (aO a9 t 0) k=false)(i0:0<=i)(e:E6 a2 a6 aI aJ aK k=i):xmC a0 a1 a2 a3 a4 a5 a6 a9 aE aI aJ aK t k=a0/\xmU a0 a1 a2 a3 a4 a5 a6 a9 aE aI aJ aK t k=a1/\xmE a0 a1 a2 a3 a4 a5 a6 a9 aE aI aJ aK t k=a2/\xmK a0 a1 a2 a3 a4 a5 a6 a9 aE aI aJ aK t k=a3/\xmF a0 a1 a2 a3 a4 a5 a6 a9 aE aI aJ aK t k=a5/\xmS a0 a1 a2 a3 a4 a5 a6 a9 aE aI aJ aK t k=xcS a2 a6 aE i/\xmX a0 a1 a2 a3 a4 a5 a6 a9 aE aI aJ aK t k=a9/\xmD a0 a1 a2 a3 a4 a5 a6 a9 aE aI aJ aK t k=xcD a2 a6 aE i/\xmA a0 a1 a2 a3 a4 a5 a6 a9 aE aI aJ aK t k=xcA a2 a6 aE i/\xmB a0 a1 a2 a3 a4 a5 a6 a9 aE aI aJ aK t k=true:=by
 have q:uy a1 a2 a3 a4 a5 a6 a9 aI aJ aK t k=1:=by unfold uy;rw[h,VM (by decide),VL (by omega)]
 refine⟨?_,?_,?_,?_,?_,?_,?_,?_,?_,?_⟩
 ·unfold xmC;rw[q];rfl
 ·unfold xmU;rw[q];rfl
 ·unfold xmE;rw[q];rfl
 ·unfold xmK;rw[q];rfl
 ·unfold xmF;rw[q];rfl
 ·unfold xmS;rw[q,e];rfl
 ·unfold xmX;rw[q];rfl
 ·unfold xmD;rw[q,e];rfl
 ·unfold xmA;rw[q,e];rfl
 ·unfold xmB;rw[q];rfl
theorem acf (h:ctB (aO a9 t 0) k=false)(i0:E6 a2 a6 aI aJ aK k<0)(b:xpB a1 a2 a3 a4 a5 1=false):xmC a0 a1 a2 a3 a4 a5 a6 a9 aE aI aJ aK t k=xpC a0 a1 a2 a3 a4 a5 1/\xmU a0 a1 a2 a3 a4 a5 a6 a9 aE aI aJ aK t k=xpU a0 a1 a2 a3 a4 a5 1/\xmE a0 a1 a2 a3 a4 a5 a6 a9 aE aI aJ aK t k=xpE a0 a1 a2 a3 a4 a5 1/\xmK a0 a1 a2 a3 a4 a5 a6 a9 aE aI aJ aK t k=xpK a1 a2 a3 a4 a5 1/\xmF a0 a1 a2 a3 a4 a5 a6 a9 aE aI aJ aK t k=xpF a1 a2 a3 a4 a5 1/\xmS a0 a1 a2 a3 a4 a5 a6 a9 aE aI aJ aK t k=a6/\xmX a0 a1 a2 a3 a4 a5 a6 a9 aE aI aJ aK t k=a9/\xmD a0 a1 a2 a3 a4 a5 a6 a9 aE aI aJ aK t k=aE/\xmA a0 a1 a2 a3 a4 a5 a6 a9 aE aI aJ aK t k= -1/\xmB a0 a1 a2 a3 a4 a5 a6 a9 aE aI aJ aK t k=false:=by
 have q:uy a1 a2 a3 a4 a5 a6 a9 aI aJ aK t k=2:=by unfold uy;rw[h,VM (by decide),VM (by omega),b];rfl
 refine⟨?_,?_,?_,?_,?_,?_,?_,?_,?_,?_⟩
 ·unfold xmC;rw[q];rfl
 ·unfold xmU;rw[q];rfl
 ·unfold xmE;rw[q];rfl
 ·unfold xmK;rw[q];rfl
 ·unfold xmF;rw[q];rfl
 ·unfold xmS;rw[q];rfl
 ·unfold xmX;rw[q];rfl
 ·unfold xmD;rw[q];rfl
 ·unfold xmA;rw[q];rfl
 ·unfold xmB;rw[q];rfl
theorem acg (h:ctB (aO a9 t 0) k=false)(i0:E6 a2 a6 aI aJ aK k<0)(b:xpB a1 a2 a3 a4 a5 1=true):xmC a0 a1 a2 a3 a4 a5 a6 a9 aE aI aJ aK t k=xpC a0 a1 a2 a3 a4 a5 1/\xmU a0 a1 a2 a3 a4 a5 a6 a9 aE aI aJ aK t k=xpU a0 a1 a2 a3 a4 a5 1/\xmE a0 a1 a2 a3 a4 a5 a6 a9 aE aI aJ aK t k=xpE a0 a1 a2 a3 a4 a5 1/\xmK a0 a1 a2 a3 a4 a5 a6 a9 aE aI aJ aK t k=xpK a1 a2 a3 a4 a5 1/\xmF a0 a1 a2 a3 a4 a5 a6 a9 aE aI aJ aK t k=xpF a1 a2 a3 a4 a5 1/\xmS a0 a1 a2 a3 a4 a5 a6 a9 aE aI aJ aK t k=xcS (xpE a0 a1 a2 a3 a4 a5 1) (isL a6 (xpA a1 a2 a3 a4 a5 1) k 0) aE (isI a6 (xpA a1 a2 a3 a4 a5 1))/\xmX a0 a1 a2 a3 a4 a5 a6 a9 aE aI aJ aK t k=a9/\xmD a0 a1 a2 a3 a4 a5 a6 a9 aE aI aJ aK t k=xcD (xpE a0 a1 a2 a3 a4 a5 1) (isL a6 (xpA a1 a2 a3 a4 a5 1) k 0) aE (isI a6 (xpA a1 a2 a3 a4 a5 1))/\xmA a0 a1 a2 a3 a4 a5 a6 a9 aE aI aJ aK t k=xcA (xpE a0 a1 a2 a3 a4 a5 1) (isL a6 (xpA a1 a2 a3 a4 a5 1) k 0) aE (isI a6 (xpA a1 a2 a3 a4 a5 1))/\xmB a0 a1 a2 a3 a4 a5 a6 a9 aE aI aJ aK t k=xcB (xpE a0 a1 a2 a3 a4 a5 1) (isL a6 (xpA a1 a2 a3 a4 a5 1) k 0) (isI a6 (xpA a1 a2 a3 a4 a5 1)):=by
 have q:uy a1 a2 a3 a4 a5 a6 a9 aI aJ aK t k=3:=by unfold uy;rw[h,VM (by decide),VM (by omega),VL b]
 refine⟨?_,?_,?_,?_,?_,?_,?_,?_,?_,?_⟩
 ·unfold xmC;rw[q];rfl
 ·unfold xmU;rw[q];rfl
 ·unfold xmE;rw[q];rfl
 ·unfold xmK;rw[q];rfl
 ·unfold xmF;rw[q];rfl
 ·unfold xmS;rw[q];rfl
 ·unfold xmX;rw[q];rfl
 ·unfold xmD;rw[q];rfl
 ·unfold xmA;rw[q];rfl
 ·unfold xmB;rw[q];rfl
end
def xlL (a1 a2:af)(a3:Int)(a4 a5 a7:af)(z:Int):af:=if xpB a1 a2 a3 a4 a5 (pfN z)=true then inL a7 (Fy a7 0 (xpA a1 a2 a3 a4 a5 (pfN z))) [[.i (xpA a1 a2 a3 a4 a5 (pfN z)),.i (pfN z),.i z]]else a7
def xlA (a1 a2:af)(a3:Int)(a4 a5:af)(z:Int):Int:=if xpB a1 a2 a3 a4 a5 (pfN z)=true then xpA a1 a2 a3 a4 a5 (pfN z)*16 else-1
def xaG (h:Bool)(a3:Int)(a8 a9:af)(aG aH t z:Int):Int:=if h=false\/aH=1000000\/90000<a3 then 5 else if inR t 0 (a9.length-1)=false then 1 else if inR z 1 1000=false then 2 else if aG<bO .add Za (lsI a8) z then 3 else 0
def xaO (h:Bool)(a3:Int)(a8 a9:af)(aG aH t z:Int):Bool:=decide (xaG h a3 a8 a9 aG aH t z=0)
def xaC (g:Bool)(a0 a1 a2:af)(a3:Int)(a4 a5 a6 a7 a9:af)(aE:Int)(aI:Bool)(aJ aK t z:Int):af:=if g=true then(if 0<=clsOf z then xmC a0 a1 a2 a3 a4 a5 a6 a9 aE aI aJ aK t (clsOf z)else xpC a0 a1 a2 a3 a4 a5 (pfN z))else a0
def xaU (g:Bool)(a0 a1 a2:af)(a3:Int)(a4 a5 a6 a7 a9:af)(aE:Int)(aI:Bool)(aJ aK t z:Int):af:=if g=true then(if 0<=clsOf z then xmU a0 a1 a2 a3 a4 a5 a6 a9 aE aI aJ aK t (clsOf z)else xpU a0 a1 a2 a3 a4 a5 (pfN z))else a1
def xaE (g:Bool)(a0 a1 a2:af)(a3:Int)(a4 a5 a6 a7 a9:af)(aE:Int)(aI:Bool)(aJ aK t z:Int):af:=if g=true then(if 0<=clsOf z then xmE a0 a1 a2 a3 a4 a5 a6 a9 aE aI aJ aK t (clsOf z)else xpE a0 a1 a2 a3 a4 a5 (pfN z))else a2
def xaK (g:Bool)(a0 a1 a2:af)(a3:Int)(a4 a5 a6 a7 a9:af)(aE:Int)(aI:Bool)(aJ aK t z:Int):Int:=if g=true then(if 0<=clsOf z then xmK a0 a1 a2 a3 a4 a5 a6 a9 aE aI aJ aK t (clsOf z)else xpK a1 a2 a3 a4 a5 (pfN z))else a3
def xaF (g:Bool)(a0 a1 a2:af)(a3:Int)(a4 a5 a6 a7 a9:af)(aE:Int)(aI:Bool)(aJ aK t z:Int):af:=if g=true then(if 0<=clsOf z then xmF a0 a1 a2 a3 a4 a5 a6 a9 aE aI aJ aK t (clsOf z)else xpF a1 a2 a3 a4 a5 (pfN z))else a5
def xaS (g:Bool)(a0 a1 a2:af)(a3:Int)(a4 a5 a6 a7 a9:af)(aE:Int)(aI:Bool)(aJ aK t z:Int):af:=if g=true then(if 0<=clsOf z then xmS a0 a1 a2 a3 a4 a5 a6 a9 aE aI aJ aK t (clsOf z)else a6)else a6
def xaL (g:Bool)(a0 a1 a2:af)(a3:Int)(a4 a5 a6 a7 a9:af)(aE:Int)(aI:Bool)(aJ aK t z:Int):af:=if g=true then(if 0<=clsOf z then a7 else xlL a1 a2 a3 a4 a5 a7 z)else a7
def xaX (g:Bool)(a0 a1 a2:af)(a3:Int)(a4 a5 a6 a7 a9:af)(aE:Int)(aI:Bool)(aJ aK t z:Int):af:=if g=true then(if 0<=clsOf z then xmX a0 a1 a2 a3 a4 a5 a6 a9 aE aI aJ aK t (clsOf z)else a9)else a9
def xaD (g:Bool)(a0 a1 a2:af)(a3:Int)(a4 a5 a6 a7 a9:af)(aE:Int)(aI:Bool)(aJ aK t z:Int):Int:=if g=true then(if 0<=clsOf z then xmD a0 a1 a2 a3 a4 a5 a6 a9 aE aI aJ aK t (clsOf z)else aE)else aE
def xaA (g:Bool)(a0 a1 a2:af)(a3:Int)(a4 a5 a6 a7 a9:af)(aE:Int)(aI:Bool)(aJ aK t z:Int):Int:=if g=true then(if 0<=clsOf z then xmA a0 a1 a2 a3 a4 a5 a6 a9 aE aI aJ aK t (clsOf z)else xlA a1 a2 a3 a4 a5 z)else-1
section
variable {g: Bool}
variable {a0 a1 a2: af} {a3: Int} {a4 a5 a6 a7 a8 a9 aA aB aD aL: af} {aC aE aF aG aH: Int} {aI: Bool} {aJ aK aM aN t k i z: Int}
theorem aeQ (h:g=false):xaC g a0 a1 a2 a3 a4 a5 a6 a7 a9 aE aI aJ aK t z=a0/\xaU g a0 a1 a2 a3 a4 a5 a6 a7 a9 aE aI aJ aK t z=a1/\xaE g a0 a1 a2 a3 a4 a5 a6 a7 a9 aE aI aJ aK t z=a2/\xaK g a0 a1 a2 a3 a4 a5 a6 a7 a9 aE aI aJ aK t z=a3/\xaF g a0 a1 a2 a3 a4 a5 a6 a7 a9 aE aI aJ aK t z=a5/\xaS g a0 a1 a2 a3 a4 a5 a6 a7 a9 aE aI aJ aK t z=a6/\xaL g a0 a1 a2 a3 a4 a5 a6 a7 a9 aE aI aJ aK t z=a7/\xaX g a0 a1 a2 a3 a4 a5 a6 a7 a9 aE aI aJ aK t z=a9/\xaD g a0 a1 a2 a3 a4 a5 a6 a7 a9 aE aI aJ aK t z=aE/\xaA g a0 a1 a2 a3 a4 a5 a6 a7 a9 aE aI aJ aK t z= -1:=by
 refine⟨?_,?_,?_,?_,?_,?_,?_,?_,?_,?_⟩
 ·unfold xaC;rw[h];rfl
 ·unfold xaU;rw[h];rfl
 ·unfold xaE;rw[h];rfl
 ·unfold xaK;rw[h];rfl
 ·unfold xaF;rw[h];rfl
 ·unfold xaS;rw[h];rfl
 ·unfold xaL;rw[h];rfl
 ·unfold xaX;rw[h];rfl
 ·unfold xaD;rw[h];rfl
 ·unfold xaA;rw[h];rfl
theorem aeR (h:g=true)(c:0<=clsOf z):xaC g a0 a1 a2 a3 a4 a5 a6 a7 a9 aE aI aJ aK t z=xmC a0 a1 a2 a3 a4 a5 a6 a9 aE aI aJ aK t (clsOf z)/\xaU g a0 a1 a2 a3 a4 a5 a6 a7 a9 aE aI aJ aK t z=xmU a0 a1 a2 a3 a4 a5 a6 a9 aE aI aJ aK t (clsOf z)/\xaE g a0 a1 a2 a3 a4 a5 a6 a7 a9 aE aI aJ aK t z=xmE a0 a1 a2 a3 a4 a5 a6 a9 aE aI aJ aK t (clsOf z)/\xaK g a0 a1 a2 a3 a4 a5 a6 a7 a9 aE aI aJ aK t z=xmK a0 a1 a2 a3 a4 a5 a6 a9 aE aI aJ aK t (clsOf z)/\xaF g a0 a1 a2 a3 a4 a5 a6 a7 a9 aE aI aJ aK t z=xmF a0 a1 a2 a3 a4 a5 a6 a9 aE aI aJ aK t (clsOf z)/\xaS g a0 a1 a2 a3 a4 a5 a6 a7 a9 aE aI aJ aK t z=xmS a0 a1 a2 a3 a4 a5 a6 a9 aE aI aJ aK t (clsOf z)/\xaL g a0 a1 a2 a3 a4 a5 a6 a7 a9 aE aI aJ aK t z=a7/\xaX g a0 a1 a2 a3 a4 a5 a6 a7 a9 aE aI aJ aK t z=xmX a0 a1 a2 a3 a4 a5 a6 a9 aE aI aJ aK t (clsOf z)/\xaD g a0 a1 a2 a3 a4 a5 a6 a7 a9 aE aI aJ aK t z=xmD a0 a1 a2 a3 a4 a5 a6 a9 aE aI aJ aK t (clsOf z)/\xaA g a0 a1 a2 a3 a4 a5 a6 a7 a9 aE aI aJ aK t z=xmA a0 a1 a2 a3 a4 a5 a6 a9 aE aI aJ aK t (clsOf z):=by
 refine⟨?_,?_,?_,?_,?_,?_,?_,?_,?_,?_⟩
 ·unfold xaC;rw[VL h,VL c]
 ·unfold xaU;rw[VL h,VL c]
 ·unfold xaE;rw[VL h,VL c]
 ·unfold xaK;rw[VL h,VL c]
 ·unfold xaF;rw[VL h,VL c]
 ·unfold xaS;rw[VL h,VL c]
 ·unfold xaL;rw[VL h,VL c]
 ·unfold xaX;rw[VL h,VL c]
 ·unfold xaD;rw[VL h,VL c]
 ·unfold xaA;rw[VL h,VL c]
theorem aeP (h:g=true)(c:clsOf z<0):xaC g a0 a1 a2 a3 a4 a5 a6 a7 a9 aE aI aJ aK t z=xpC a0 a1 a2 a3 a4 a5 (pfN z)/\xaU g a0 a1 a2 a3 a4 a5 a6 a7 a9 aE aI aJ aK t z=xpU a0 a1 a2 a3 a4 a5 (pfN z)/\xaE g a0 a1 a2 a3 a4 a5 a6 a7 a9 aE aI aJ aK t z=xpE a0 a1 a2 a3 a4 a5 (pfN z)/\xaK g a0 a1 a2 a3 a4 a5 a6 a7 a9 aE aI aJ aK t z=xpK a1 a2 a3 a4 a5 (pfN z)/\xaF g a0 a1 a2 a3 a4 a5 a6 a7 a9 aE aI aJ aK t z=xpF a1 a2 a3 a4 a5 (pfN z)/\xaS g a0 a1 a2 a3 a4 a5 a6 a7 a9 aE aI aJ aK t z=a6/\xaL g a0 a1 a2 a3 a4 a5 a6 a7 a9 aE aI aJ aK t z=xlL a1 a2 a3 a4 a5 a7 z/\xaX g a0 a1 a2 a3 a4 a5 a6 a7 a9 aE aI aJ aK t z=a9/\xaD g a0 a1 a2 a3 a4 a5 a6 a7 a9 aE aI aJ aK t z=aE/\xaA g a0 a1 a2 a3 a4 a5 a6 a7 a9 aE aI aJ aK t z=xlA a1 a2 a3 a4 a5 z:=by
 refine⟨?_,?_,?_,?_,?_,?_,?_,?_,?_,?_⟩
 ·unfold xaC;rw[VL h,VM (by omega)]
 ·unfold xaU;rw[VL h,VM (by omega)]
 ·unfold xaE;rw[VL h,VM (by omega)]
 ·unfold xaK;rw[VL h,VM (by omega)]
 ·unfold xaF;rw[VL h,VM (by omega)]
 ·unfold xaS;rw[VL h,VM (by omega)]
 ·unfold xaL;rw[VL h,VM (by omega)]
 ·unfold xaX;rw[VL h,VM (by omega)]
 ·unfold xaD;rw[VL h,VM (by omega)]
 ·unfold xaA;rw[VL h,VM (by omega)]
end
def xaP (a8:af)(aH t z w:Int):af:=if 0<=w then inL a8 (Fy a8 1 w) [[.i aH,.i w,.i z,.i t]]else a8
def xaN (aH w:Int):Int:=if 0<=w then aH+1 else aH
def xaR (c w:Int):Int:=if c≠0 then c else if w<0 then 4 else 0
end Go.V
namespace Go.V
theorem aek {A B:Prop}(b:Bool)(h1:b=true->A)(h2:b=false->B):A\/B:=by
 cases b with
 |true=>exact .inl (h1 rfl)
 |false=>exact .inr (h2 rfl)
theorem R2 {ls:af}{k:Int}(h:ctB ls k=true):0<=ctA ls k/\ctA ls k<=511:=by
 have e:=(R4 h).2;unfold ctB clB at h;simp only[Zc,VK]at h;obtain⟨⟨r,ca⟩,l⟩:=h;have q:=bi.1 r;unfold caOk at ca;simp only[Zc]at ca;have a:=ed.1 ca.2.1 k q.1 (by omega);unfold JQ at a;rw[Zc]at a;have b:=ed.1 a.2 ((aO ls k 0).length-1) (by omega) (by omega);unfold JR at b;rw[Zc]at b;rw[e];exact bi.1 b.1
theorem Hy {es:af}{i:Int}{r:aP}{j:Nat}(i0:0<=i)(i1:i<=es.length):ag (inL es i [r]) i j=KG (r.getD j .g):=by
 have h:(inL es i [r]).getD i.toNat []=r:=by
  unfold inL;rw[Zn,ZP (by rw[Zg];omega),Zg,show i.toNat-min i.toNat es.length=0 by omega];rfl
 unfold ag;rw[h]
section
variable {a0 a1 a2: af} {a3: Int} {a4 a5 a6 a7 a8 a9 aA aB aD aL: af} {aC aE aF aG aH: Int} {aI: Bool} {aJ aK aM aN t k i z n p b w: Int} {g: Bool}
theorem aco (hc:mZ a0 a1 a2 a4 a5 a6 a7 a8 a9 aA aB aD aL)(km:k9 a0 a1 a2):mZ (xpC a0 a1 a2 a3 a4 a5 n) (xpU a0 a1 a2 a3 a4 a5 n) (xpE a0 a1 a2 a3 a4 a5 n) a4 (xpF a1 a2 a3 a4 a5 n) a6 a7 a8 a9 aA aB aD aL:=by
 have m:=aeW (a3:=a3) (a4:=a4) (a5:=a5) (n:=n) km hc.r0 hc.r1 hc.r2;have f:=QO (a1:=a1) (a2:=a2) (a3:=a3) (a4:=a4) (n:=n) hc.r5;have c5:=hc.c5;rw[hc.r5.cnt rfl]at c5;exact {hc with r0:=m.2.1,r1:=m.2.2.1,r2:=m.2.2.2.1,r5:=f.1,c0:=ZI m.2.2.2.2.2.1 (by decide),c1:=ZI m.2.2.2.2.2.2.1 (by decide),c2:=ZI m.2.2.2.2.2.2.2 (by decide),c5:=by rw[f.1.cnt rfl];omega}
theorem O8 (h:Rw [tI,tI,tI] a6)(l:a6.length<=1073741824)(hp: -9223372036854775808<=p/\p<=9223372036854775807)(hk: -9223372036854775808<=k/\k<=9223372036854775807)(hb: -9223372036854775808<=b/\b<=9223372036854775807):Rw [tI,tI,tI] (isL a6 p k b)/\(isL a6 p k b).length=a6.length+1:=by
 unfold isL;refine⟨TQ h (Rw.one (show bR [tI,tI,tI] [.i p,.i k,.i b]from⟨⟨rfl,hp⟩,⟨rfl,hk⟩,⟨rfl,hb⟩,trivial⟩)) (by unfold maxLen;simp only[Zj,Zl];omega),CG⟩
theorem TS (hc:mZ a0 a1 a2 a4 a5 a6 a7 a8 a9 aA aB aD aL)(c6:av a6<=1000000000)(hp: -9223372036854775808<=p/\p<=9223372036854775807)(hk: -9223372036854775808<=k/\k<=9223372036854775807)(hb: -9223372036854775808<=b/\b<=9223372036854775807):mZ a0 a1 a2 a4 a5 (isL a6 p k b) a7 a8 a9 aA aB aD aL:=by
 have l:=aS (es:=a6);have s:=O8 (p:=p) (k:=k) (b:=b) hc.r6 (by omega) hp hk hb;rw[hc.r6.cnt rfl]at c6;exact {hc with r6:=s.1,c6:=by rw[s.1.cnt rfl,s.2];omega}
theorem Nm (h:xpB a1 a2 a3 a4 a5 1=true)(hk:inR k 0 3=true):spOk (ag (isL a6 (xpA a1 a2 a3 a4 a5 1) k 0) (isI a6 (xpA a1 a2 a3 a4 a5 1)) 0) (ag (isL a6 (xpA a1 a2 a3 a4 a5 1) k 0) (isI a6 (xpA a1 a2 a3 a4 a5 1)) 1) (ag (isL a6 (xpA a1 a2 a3 a4 a5 1) k 0) (isI a6 (xpA a1 a2 a3 a4 a5 1)) 2)=true:=by
 obtain⟨h1,h2,_⟩:=acm h;have q:=Jc h1;have lb:=HJ (rs:=a6) (j:=0) (x:=xpA a1 a2 a3 a4 a5 1);unfold isL isI;rw[Hy lb.1 lb.2,Hy lb.1 lb.2,Hy lb.1 lb.2];show spOk (xpA a1 a2 a3 a4 a5 1) k 0=true;unfold spOk;rw[h2,bi.2 ⟨q.1,by omega⟩,Yx];rcases N8 hk with rfl|rfl|rfl|rfl<;>decide
theorem Jd (h:xpB a1 a2 a3 a4 a5 n=true):0<=xpA a1 a2 a3 a4 a5 n/\xpA a1 a2 a3 a4 a5 n<=31/\xpA a1 a2 a3 a4 a5 n+n<=a2.length/\1<=n/\n<=32:=by
 obtain⟨h1,h2,_⟩:=acm h;have q:=Jc h1;rw[h2];omega
theorem adM (h6:Rw [tI,tI,tI] a6):0<=isI a6 p/\isI a6 p<(isL a6 p k b).length:=by
 have lb:=HJ (rs:=a6) (j:=0) (x:=p);unfold isI isL;rw[CG];simp only[Zj,Zl];omega
theorem E7 (hk:hpI a0 a1 a2 a3 a4 a5 a6 a7 a8 a9 aA aB aC aD aE aF aG aH aI aJ aK aL aM aN=true)(i0:0<=i)(i1:i<a6.length):spOk (ag a6 i 0) (ag a6 i 1) (ag a6 i 2)=true:=by
 have s:=(MB (je hk).l).s i.toNat (by omega)
 rwa [Zr i0]at s
theorem ve (c:0<=clsOf z):inR (clsOf z) 0 3=true:=by
 refine bi.2 ⟨c,?_⟩;unfold clsOf;repeat' split
 all_goals omega
theorem QM (hk:hpI a0 a1 a2 a3 a4 a5 a6 a7 a8 a9 aA aB aC aD aE aF aG aH aI aJ aK aL aM aN=true)(kk:inR k 0 3=true):(xmB a0 a1 a2 a3 a4 a5 a6 a9 aE aI aJ aK t k=true/\0<=xmA a0 a1 a2 a3 a4 a5 a6 a9 aE aI aJ aK t k/\xmA a0 a1 a2 a3 a4 a5 a6 a9 aE aI aJ aK t k<=511)\/(xmB a0 a1 a2 a3 a4 a5 a6 a9 aE aI aJ aK t k=false/\xmA a0 a1 a2 a3 a4 a5 a6 a9 aE aI aJ aK t k= -1):=by
 have H:=je hk;cases c:ctB (aO a9 t 0) k with
 | true=>
   obtain⟨_,_,_,_,_,_,_,_,q9,q10⟩:=acd (a0:=a0) (a1:=a1) (a2:=a2) (a3:=a3) (a4:=a4) (a5:=a5) (a6:=a6) (aE:=aE) (aI:=aI) (aJ:=aJ) (aK:=aK) c;rw[q9,q10];exact .inl ⟨rfl,R2 c⟩
 | false=>
   by_cases i:0<=E6 a2 a6 aI aJ aK k
   ·obtain⟨_,_,_,_,_,_,_,_,q9,q10⟩:=ace (a0:=a0) (a1:=a1) (a3:=a3) (a4:=a4) (a5:=a5) (aE:=aE) c i rfl;rw[q9,q10];have il:=fG i;change E6 a2 a6 aI aJ aK k<a6.length/\BN a2 a6 aI aJ aK k (E6 a2 a6 aI aJ aK k)=true at il;have y:=il.2;unfold BN at y;simp only[Zc]at y;have n:¬ (oY a2 a6 (E6 a2 a6 aI aJ aK k)).length=0:=by have:=VN y.2.2;omega
    have X:=E5 (a2:=a2) (E7 hk i il.1) H.s n;rw[(LH n).2.2.2];exact .inl ⟨rfl,X.a0,X.a1⟩
   ·cases d:xpB a1 a2 a3 a4 a5 1 with
    | false=>
      obtain⟨_,_,_,_,_,_,_,_,q9,q10⟩:=acf (a0:=a0) (aE:=aE) c (WR.1 i) d;rw[q9,q10];exact .inr ⟨rfl,rfl⟩
    | true=>
      obtain⟨_,_,_,_,_,_,_,_,q9,q10⟩:=acg (a0:=a0) (aE:=aE) c (WR.1 i) d;rw[q9,q10];by_cases n:(oY (xpE a0 a1 a2 a3 a4 a5 1) (isL a6 (xpA a1 a2 a3 a4 a5 1) k 0) (isI a6 (xpA a1 a2 a3 a4 a5 1))).length=0
      ·have q:=LG (s:=aE) n;rw[q.1,q.2.2.2];exact .inr ⟨rfl,rfl⟩
      ·have q:=LH (s:=aE) n;have X:=E5 (Nm d kk) H.s n;rw[q.1,q.2.2.2];exact .inl ⟨rfl,X.a0,X.a1⟩
theorem ab7:(xpB a1 a2 a3 a4 a5 (pfN z)=true/\0<=xlA a1 a2 a3 a4 a5 z/\xlA a1 a2 a3 a4 a5 z<=511)\/(xpB a1 a2 a3 a4 a5 (pfN z)=false/\xlA a1 a2 a3 a4 a5 z= -1):=by
 unfold xlA;cases d:xpB a1 a2 a3 a4 a5 (pfN z)with
 |true=>have:=Jd d;exact .inl ⟨rfl,by rw[VL rfl];omega,by rw[VL rfl];omega⟩
 |false=>exact .inr ⟨rfl,rfl⟩
theorem ach (h:upto (cK (BN a2 a6 aI aJ aK k)) i)(i0:0<=i)(i1:i<a6.length)(e:ag a6 i 1=k)(f:bsB aI aJ aK (ag a6 i 0)=false)(x:xcB a2 a6 i=true):E6 a2 a6 aI aJ aK k=i:=
 du h i0 i1 (by unfold BN;rw[vm e,f,x];rfl)
theorem Nj (h:upto (cK (BN a2 a6 aI aJ aK k)) i)(i1:(a6.length:Int)<=i):E6 a2 a6 aI aJ aK k<0:=by
 unfold E6;rw[d7 h i1];omega
theorem acj (h:upto (cK (BN a2 a6 aI aJ aK k)) i)(e:ag a6 i 1≠k):upto (cK (BN a2 a6 aI aJ aK k)) (i+1):=bN h (ft (by unfold BN;rw[xH e];rfl))
theorem ack (h:upto (cK (BN a2 a6 aI aJ aK k)) i)(f:bsB aI aJ aK (ag a6 i 0)=true):upto (cK (BN a2 a6 aI aJ aK k)) (i+1):=bN h (ft (by unfold BN;rw[f];simp))
theorem acl (h:upto (cK (BN a2 a6 aI aJ aK k)) i)(x:xcB a2 a6 i=false):upto (cK (BN a2 a6 aI aJ aK k)) (i+1):=bN h (ft (by unfold BN;rw[x];simp))
theorem QS (h:Np a1 a2 a3 a4 a5 a6 k<0):xpB a1 a2 a3 a4 a5 1=false:=by
 cases c:xpB a1 a2 a3 a4 a5 1 with
 |false=>rfl
 | true=>
   unfold Np isI at h;rw[VL c]at h;have:=HJ (rs:=a6) (j:=0) (x:=xpA a1 a2 a3 a4 a5 1);omega
theorem QU (h:0<=Np a1 a2 a3 a4 a5 a6 k):xpB a1 a2 a3 a4 a5 1=true:=by
 cases c:xpB a1 a2 a3 a4 a5 1 with
 |true=>rfl
 | false=>
   unfold Np at h;rw[c]at h;exact absurd (show(0:Int)<= -1 from h) (by omega)
theorem acs (c:xpB a1 a2 a3 a4 a5 1=true):Np a1 a2 a3 a4 a5 a6 k=isI a6 (xpA a1 a2 a3 a4 a5 1)/\xsL a1 a2 a3 a4 a5 a6 k=isL a6 (xpA a1 a2 a3 a4 a5 1) k 0:=by
 unfold Np xsL;rw[VL c,VL c];exact⟨rfl,rfl⟩
theorem ae2 (c:xpB a1 a2 a3 a4 a5 1=false):xsL a1 a2 a3 a4 a5 a6 k=a6:=by unfold xsL;rw[c];rfl
theorem ab6 (hs:spOk (ag a6 i 0) (ag a6 i 1) (ag a6 i 2)=true)(hd:inR aE 0 1073741823=true)(x:xcB a2 a6 i=true):0<=xcA a2 a6 aE i:=by
 have n:¬ (oY a2 a6 i).length=0:=by have:=VN x;omega
 rw[(LH n).2.2.2];exact(E5 hs hd n).a0
theorem Nc {x:af}(h:Rw [.sl [.sl [tI]]] a9)(t0:0<=t)(t1:t<a9.length):jS (.s 1 a9) [(t.toNat,0)] [.s 1 x]=a9.set t.toNat [.s 1 x]:=eZ (by rw[h.eta t0 t1];rfl)
theorem QN (hc:mZ a0 a1 a2 a4 a5 a6 a7 a8 a9 aA aB aD aL)(km:k9 a0 a1 a2)(c6:av a6<=1000000000)(kk:inR k 0 3=true)(hd:inR aE 0 1073741823=true)(c:xpB a1 a2 a3 a4 a5 1=true):
 mZ (xpC a0 a1 a2 a3 a4 a5 1) (xpU a0 a1 a2 a3 a4 a5 1) (xpE a0 a1 a2 a3 a4 a5 1) a4 (xpF a1 a2 a3 a4 a5 1) (isL a6 (xpA a1 a2 a3 a4 a5 1) k 0) a7 a8 a9 aA aB aD aL/\0<=isI a6 (xpA a1 a2 a3 a4 a5 1)/\isI a6 (xpA a1 a2 a3 a4 a5 1)<(isL a6 (xpA a1 a2 a3 a4 a5 1) k 0).length/\spOk (ag (isL a6 (xpA a1 a2 a3 a4 a5 1) k 0) (isI a6 (xpA a1 a2 a3 a4 a5 1)) 0) (ag (isL a6 (xpA a1 a2 a3 a4 a5 1) k 0) (isI a6 (xpA a1 a2 a3 a4 a5 1)) 1) (ag (isL a6 (xpA a1 a2 a3 a4 a5 1) k 0) (isI a6 (xpA a1 a2 a3 a4 a5 1)) 2)=true/\inR aE 0 1073741823=true:=by
 have pg:=Jd c;have kr:=bi.1 kk;have ii:=adM (p:=xpA a1 a2 a3 a4 a5 1) (k:=k) (b:=0) hc.r6;exact⟨TS (aco hc km) c6 (by omega) (by omega) (by omega),ii.1,ii.2,Nm c kk,hd⟩
end
end Go.V
namespace Go.V
section
variable {a0 a1 a2: af} {a3: Int} {a4 a5 a6 a7 a8 a9: af} {z: Int}
theorem aem (_: -9223372036854775808<=z)(_:z<=9223372036854775807): -9223372036854775808<=pfN z/\pfN z<=9223372036854775807:=by
 unfold pfN;split
 ·rename_i h;have:=bi.1 h;omega
 ·omega
theorem aeT (c:xpB a1 a2 a3 a4 a5 (pfN z)=true):xlL a1 a2 a3 a4 a5 a7 z=inL a7 (Fy a7 0 (xpA a1 a2 a3 a4 a5 (pfN z))) [[.i (xpA a1 a2 a3 a4 a5 (pfN z)),.i (pfN z),.i z]]/\xlA a1 a2 a3 a4 a5 z=xpA a1 a2 a3 a4 a5 (pfN z)*16:=by
 unfold xlL xlA;rw[VL c,VL c];exact⟨rfl,rfl⟩
theorem ab9 (c:xpB a1 a2 a3 a4 a5 (pfN z)=false):xlL a1 a2 a3 a4 a5 a7 z=a7/\xlA a1 a2 a3 a4 a5 z= -1:=by
 unfold xlL xlA;rw[c];exact⟨rfl,rfl⟩
end
theorem Jb {h:Bool}{a3:Int}{a8 a9:af}{aG aH t z:Int}(e:h=false\/aH=1000000\/90000<a3):xaG h a3 a8 a9 aG aH t z=5:=by unfold xaG;rw[VL e]
theorem abX {h:Bool}{a3:Int}{a8 a9:af}{aG aH t z:Int}(e1:h=true)(e2:aH≠1000000)(e3:a3<=90000)(e4:inR t 0 (a9.length-1)=false):xaG h a3 a8 a9 aG aH t z=1:=by unfold xaG;rw[VM (by rintro(q|q|q);(rw[e1]at q;cases q);(exact e2 q);omega),VL e4]
theorem abY {h:Bool}{a3:Int}{a8 a9:af}{aG aH t z:Int}(e1:h=true)(e2:aH≠1000000)(e3:a3<=90000)(e4:inR t 0 (a9.length-1)=true)(e5:inR z 1 1000=false):xaG h a3 a8 a9 aG aH t z=2:=by unfold xaG;rw[VM (by rintro(q|q|q);(rw[e1]at q;cases q);(exact e2 q);omega),VM (by rw[e4];decide),VL e5]
theorem abZ {h:Bool}{a3:Int}{a8 a9:af}{aG aH t z:Int}(e1:h=true)(e2:aH≠1000000)(e3:a3<=90000)(e4:inR t 0 (a9.length-1)=true)(e5:inR z 1 1000=true)(e6:aG<bO .add Za (lsI a8) z):xaG h a3 a8 a9 aG aH t z=3:=by unfold xaG;rw[VM (by rintro(q|q|q);(rw[e1]at q;cases q);(exact e2 q);omega),VM (by rw[e4];decide),VM (by rw[e5];decide),VL e6]
theorem ab0 {h:Bool}{a3:Int}{a8 a9:af}{aG aH t z:Int}(e1:h=true)(e2:aH≠1000000)(e3:a3<=90000)(e4:inR t 0 (a9.length-1)=true)(e5:inR z 1 1000=true)(e6:bO .add Za (lsI a8) z<=aG):xaG h a3 a8 a9 aG aH t z=0:=by unfold xaG;rw[VM (by rintro(q|q|q);(rw[e1]at q;cases q);(exact e2 q);omega),VM (by rw[e4];decide),VM (by rw[e5];decide),VM (by omega)]
theorem ab1 {h:Bool}{a3:Int}{a8 a9:af}{aG aH t z c:Int}(e:xaG h a3 a8 a9 aG aH t z=c)(n:c≠0):xaO h a3 a8 a9 aG aH t z=false:=VJ (by rw[e];exact n)
theorem Ni {h:Bool}{a3:Int}{a8 a9:af}{aG aH t z:Int}(e:xaG h a3 a8 a9 aG aH t z=0):xaO h a3 a8 a9 aG aH t z=true:=VI e
theorem ab5 {c w:Int}(h:c=0)(n:w<0):xaR c w=4:=by unfold xaR;rw[VM (fun q=>q h),VL n]
theorem ab4 {c w:Int}(h:c=0)(n:0<=w):xaR c w=0:=by unfold xaR;rw[VM (fun q=>q h),VM (by omega)]
theorem ab2 {a8:af}{aH t z w:Int}(n:w<0):xaP a8 aH t z w=a8/\xaN aH w=aH:=⟨VM (by omega),VM (by omega)⟩
theorem ab3 {a8:af}{aH t z w:Int}(n:0<=w):xaP a8 aH t z w=inL a8 (Fy a8 1 w) [[.i aH,.i w,.i z,.i t]]/\xaN aH w=aH+1:=⟨VL n,VL n⟩
section
variable {g: Bool}
variable {a0 a1 a2: af} {a3: Int} {a4 a5 a6 a7 a8 a9 aA aB aD aL: af} {aC aE aF aG aH: Int} {aI: Bool} {aJ aK aM aN t k i z: Int}
theorem aeU {w:Int}(hk:hpI a0 a1 a2 a3 a4 a5 a6 a7 a8 a9 aA aB aC aD aE aF aG aH aI aJ aK aL aM aN=true)(kk:inR k 0 3=true)(b:xmB a0 a1 a2 a3 a4 a5 a6 a9 aE aI aJ aK t k=false)(hw:xmA a0 a1 a2 a3 a4 a5 a6 a9 aE aI aJ aK t k=w):w<0:=by
 rcases QM (t:=t) hk kk with q|q
 ·rw[b]at q;cases q.1
 ·omega
theorem aeV {w:Int}(hk:hpI a0 a1 a2 a3 a4 a5 a6 a7 a8 a9 aA aB aC aD aE aF aG aH aI aJ aK aL aM aN=true)(kk:inR k 0 3=true)(b:xmB a0 a1 a2 a3 a4 a5 a6 a9 aE aI aJ aK t k=true)(hw:xmA a0 a1 a2 a3 a4 a5 a6 a9 aE aI aJ aK t k=w):0<=w:=by
 rcases QM (t:=t) hk kk with q|q;omega
 ·rw[b]at q;cases q.1
theorem aca {w:Int}(b:xpB a1 a2 a3 a4 a5 (pfN z)=false)(hw:xlA a1 a2 a3 a4 a5 z=w):w<0:=by
 have:=(ab9 (a7:=([]:af)) b).2;omega
theorem acb {w:Int}(b:xpB a1 a2 a3 a4 a5 (pfN z)=true)(hw:xlA a1 a2 a3 a4 a5 z=w):0<=w:=by
 rcases ab7 (a1:=a1) (a2:=a2) (a3:=a3) (a4:=a4) (a5:=a5) (z:=z)with q|q;omega
 ·rw[b]at q;cases q.1
theorem aci {w:Int}(hk:hpI a0 a1 a2 a3 a4 a5 a6 a7 a8 a9 aA aB aC aD aE aF aG aH aI aJ aK aL aM aN=true)(kk:inR k 0 3=true)(hw:xmA a0 a1 a2 a3 a4 a5 a6 a9 aE aI aJ aK t k=w)(h:w<0):w= -1:=by
 rcases QM (t:=t) hk kk with q|q<;>omega
theorem ab8 {w:Int}(hw:xlA a1 a2 a3 a4 a5 z=w)(h:w<0):w= -1:=by
 rcases ab7 (a1:=a1) (a2:=a2) (a3:=a3) (a4:=a4) (a5:=a5) (z:=z)with q|q<;>omega
end
end Go.V
namespace Go.V
theorem rL {cs:af}{i i' h h':Int}(a:i=i')(b:h=h'):[H.ro (.s 1 cs),H.own (.i i),H.own (.i h)]=[H.ro (.s 1 cs),H.own (.i i'),H.own (.i h')]:=by rw[a,b]
def bgB (cs:af):Bool:=decide ((cs.length:Int)>1048576)
theorem Ry {cs:af}(h:bgB cs=false):cs.length<=1048576:=by
 unfold bgB at h;simp only[decide_eq_false_iff_not]at h;omega
theorem aaU {w:Nat}{l:af}{i:Int}{j:Nat}(h0:0<=i):Ad (.s w l) [(i.toNat,j)]=ag l i j:=by
 rw[za];unfold ag;rw[ZJ]
theorem cm0 {x c:Int}(h:x=c):cT .eql x c=true:=by subst h;simp[cT]
theorem no0 {x c:Int}(h:x=c)(q:cT .eql x c=false):False:=by rw[cm0 h]at q;cases q
theorem tf0 {b:Bool}(h:b=true)(q:b=false):False:=by rw[h]at q;cases q
theorem dbt {a:Bool}(h:a=true):[DV.k a]=[DV.k true]:=by rw[h]
end Go.V
namespace Go.V
structure HV where
 (a0 a1 a2:af) (a3:Int) (a4 a5 a6 a7 a8 a9 aA aB:af) (aC:Int) (aD:af) (aE aF aG aH:Int) (aI:Bool) (aJ aK:Int) (aL:af) (aM aN:Int)
def hvN (p f t l:Int)(rs:af):HV:=⟨hnC p f t l rs,hnU p f t l rs,hnE p f t l rs,0,hnR p f t l rs,hnF p f t l rs,[],[],[],hnK p f t l rs,hnM p f t l rs,hnI p f t l rs,hnQ p f t l rs,[],0,0,hnL p f t l rs,hnN p f t l rs,false,0,0,[],0,0⟩
def HV.hp (h:HV):Bool:=hpI h.a0 h.a1 h.a2 h.a3 h.a4 h.a5 h.a6 h.a7 h.a8 h.a9 h.aA h.aB h.aC h.aD h.aE h.aF h.aG h.aH h.aI h.aJ h.aK h.aL h.aM h.aN
def HV.ao (h:HV)(t z:Int):Bool:=xaO h.hp h.a3 h.a8 h.a9 h.aG h.aH t z
def HV.aQ (h:HV)(t z:Int):Int:=xaA (h.ao t z) h.a0 h.a1 h.a2 h.a3 h.a4 h.a5 h.a6 h.a7 h.a9 h.aE h.aI h.aJ h.aK t z
def HV.aR (h:HV)(t z:Int):Int:=xaR (xaG h.hp h.a3 h.a8 h.a9 h.aG h.aH t z) (h.aQ t z)
def HV.al (h:HV)(t z:Int):HV:=
 let g:=h.ao t z
 ⟨xaC g h.a0 h.a1 h.a2 h.a3 h.a4 h.a5 h.a6 h.a7 h.a9 h.aE h.aI h.aJ h.aK t z,xaU g h.a0 h.a1 h.a2 h.a3 h.a4 h.a5 h.a6 h.a7 h.a9 h.aE h.aI h.aJ h.aK t z,
  xaE g h.a0 h.a1 h.a2 h.a3 h.a4 h.a5 h.a6 h.a7 h.a9 h.aE h.aI h.aJ h.aK t z,xaK g h.a0 h.a1 h.a2 h.a3 h.a4 h.a5 h.a6 h.a7 h.a9 h.aE h.aI h.aJ h.aK t z,
  h.a4,xaF g h.a0 h.a1 h.a2 h.a3 h.a4 h.a5 h.a6 h.a7 h.a9 h.aE h.aI h.aJ h.aK t z,xaS g h.a0 h.a1 h.a2 h.a3 h.a4 h.a5 h.a6 h.a7 h.a9 h.aE h.aI h.aJ h.aK t z,
  xaL g h.a0 h.a1 h.a2 h.a3 h.a4 h.a5 h.a6 h.a7 h.a9 h.aE h.aI h.aJ h.aK t z,xaP h.a8 h.aH t z (h.aQ t z),xaX g h.a0 h.a1 h.a2 h.a3 h.a4 h.a5 h.a6 h.a7 h.a9 h.aE h.aI h.aJ h.aK t z,
  h.aA,h.aB,h.aC,h.aD,xaD g h.a0 h.a1 h.a2 h.a3 h.a4 h.a5 h.a6 h.a7 h.a9 h.aE h.aI h.aJ h.aK t z,h.aF,h.aG,xaN h.aH (h.aQ t z),h.aI,h.aJ,h.aK,h.aL,h.aM,h.aN⟩
def HV.lv (h:HV)(a:Int):Int:=hlV (ooI h.hp h.a8 a) (ldV h.a0 h.a1 h.a2 a)
def HV.lk (h:HV)(a:Int):Int:=hlK (ooI h.hp h.a8 a)
def NX:Nat->Ty->L->Bool
 |_,.int k,.v (.int k' n)=>decide (k'=k)&&(decide (k.min<=n)&&decide (n<=k.max))
 |_,.bool,.v (.bool _)=>true
 |k+1,.sl fs,.s sz es=>decide (sz=fs.length)&&(decide (es.length<=maxLen)&&es.all fun e=>decide (e.length=fs.length)&&(fs.zip e).all fun p=>NX k p.1 p.2)
 |_,_,_=>false
theorem Jg {k:Nat}(ih:∀ {t:Ty} {l:L},NX k t l=true->dj t l):∀ {fs:List Ty} {e:aP},e.length=fs.length->((fs.zip e).all fun p=>NX k p.1 p.2)=true->bR fs e
 |[],[],_,_=>by simp[bR]
 |[],_::_,h,_=>by cases h
 |_::_,[],h,_=>by cases h
 | t::fs,l::e,h,q=>by
   simp only[List.zip_cons_cons,List.all_cons,Zc]at q;simp only[bR];exact⟨ih q.1,Jg ih (by simpa using h) q.2⟩
theorem NY:∀ {k:Nat} {t:Ty} {l:L},NX k t l=true->dj t l:=by
 intro k
 induction k with
 | zero=>
   intro t l h;unfold NX at h;split at h
   ·simp only[Zc,VK]at h;simp only[dj];exact⟨h.1,h.2⟩
   ·simp only[dj]
   ·rename_i e;cases e
   ·cases h
 | succ k ih=>
   intro t l h;unfold NX at h;split at h
   ·simp only[Zc,VK]at h;simp only[dj];exact⟨h.1,h.2⟩
   ·simp only[dj]
   ·rename_i e;cases e;simp only[Zc,VK]at h;simp only[dj];refine⟨h.1,h.2.1,fun e he=>?_⟩;have q:=List.all_eq_true.1 h.2.2 e he;simp only[Zc,VK]at q;exact Jg ih q.1 q.2
   ·cases h
def EY (fs:List Ty)(es:af):Bool:=NX 4 (.sl fs) (.s fs.length es)
theorem iT {fs:List Ty}{es:af}(h:EY fs es=true):Rw fs es:=by
 have q:=NY h;simp only[dj]at q;exact q.2
def HV.wf (h:HV):Bool:=
 EY [.sl [tI]] h.a0&&(EY [tB] h.a1&&(EY [tI,tI] h.a2&&(EY [tI] h.a4&&(EY [tI,tI] h.a5&&(EY [tI,tI,tI] h.a6&&(EY [tI,tI,tI] h.a7&&(EY [tI,tI,tI,tI] h.a8&&(EY [.sl [.sl [tI]]] h.a9&&
 (EY [.sl [tI,tI]] h.aA&&(EY [.sl [tI]] h.aB&&(EY [tI,tI,tI] h.aD&&(EY [tI] h.aL&&decide (xz [h.a0,h.a1,h.a2,h.a4,h.a5,h.a6,h.a7,h.a8,h.a9,h.aA,h.aB,h.aD,h.aL]<=1048576)))))))))))))
theorem HV.wf_hc {h:HV}(w:h.wf=true):mZ h.a0 h.a1 h.a2 h.a4 h.a5 h.a6 h.a7 h.a8 h.a9 h.aA h.aB h.aD h.aL/\av h.a6<=1000000000/\av h.a7<=1000000000/\av h.a8<=1000000000/\av h.a9<=300000000/\av h.aA<=500000000/\av h.aB<=1000000000:=by
 simp only[HV.wf,Zc,VK]at w;obtain⟨h0,h1,h2,h4,h5,h6,h7,h8,h9,h10,h11,h13,h21,hs⟩:=w;have c:=L1 hs;exact⟨OK (iT h0) (iT h1) (iT h2) (iT h4) (iT h5) (iT h6) (iT h7) (iT h8) (iT h9) (iT h10) (iT h11) (iT h13) (iT h21) hs,by have:=c.2.2.2.2.2.1;omega,by have:=c.2.2.2.2.2.2.1;omega,by have:=c.2.2.2.2.2.2.2.1;omega,by have:=c.2.2.2.2.2.2.2.2.1;omega,by have:=c.2.2.2.2.2.2.2.2.2.1;omega,by have:=c.2.2.2.2.2.2.2.2.2.2.1;omega⟩
end Go.V
namespace Go.V
def HV.fr (h:HV)(t ad:Int):HV:=⟨(ifR (fbL (t0B h.hp h.a3 t h.a9) h.a8 ad) (lgC h.a0 h.a1 h.a2 h.a7 ad) (ifR (fbP (t0B h.hp h.a3 t h.a9) h.a2 h.a8 h.aA h.aB t ad) (fcC h.a0 h.a2 h.a8 ad) (ifR (fbQ (t0B h.hp h.a3 t h.a9) h.a2 h.a8 t ad) (raC h.aI h.aJ h.aK (fcC h.a0 h.a2 h.a8 ad) h.a1 h.a2 h.a5 h.a6 h.a9 t (fqR h.a8 h.aC h.aD h.aF ad)) h.a0))),(ifR (fbL (t0B h.hp h.a3 t h.a9) h.a8 ad) (lgU h.a0 h.a1 h.a2 h.a7 ad) (ifR (fbQ (t0B h.hp h.a3 t h.a9) h.a2 h.a8 t ad) (raU h.aI h.aJ h.aK (fcC h.a0 h.a2 h.a8 ad) h.a1 h.a2 h.a5 h.a6 h.a9 t (fqR h.a8 h.aC h.aD h.aF ad)) h.a1)),(ifR (fbL (t0B h.hp h.a3 t h.a9) h.a8 ad) (lgE h.a0 h.a1 h.a2 h.a7 ad) (ifR (fbQ (t0B h.hp h.a3 t h.a9) h.a2 h.a8 t ad) (raE h.aI h.aJ h.aK (fcC h.a0 h.a2 h.a8 ad) h.a1 h.a2 h.a5 h.a6 h.a9 t (fqR h.a8 h.aC h.aD h.aF ad)) h.a2)),h.a3,h.a4,(ifR (fbL (t0B h.hp h.a3 t h.a9) h.a8 ad) (lgF h.a0 h.a1 h.a2 h.a5 h.a7 ad) (ifR (fbQ (t0B h.hp h.a3 t h.a9) h.a2 h.a8 t ad) (raF h.aI h.aJ h.aK (fcC h.a0 h.a2 h.a8 ad) h.a1 h.a2 h.a5 h.a6 h.a9 t (fqR h.a8 h.aC h.aD h.aF ad)) h.a5)),(ifR (fbQ (t0B h.hp h.a3 t h.a9) h.a2 h.a8 t ad) (raS h.aI h.aJ h.aK (fcC h.a0 h.a2 h.a8 ad) h.a1 h.a2 h.a5 h.a6 h.a9 t (fqR h.a8 h.aC h.aD h.aF ad)) h.a6),(ifR (fbL (t0B h.hp h.a3 t h.a9) h.a8 ad) (lgL h.a7 ad) h.a7),(ifR (fbL (t0B h.hp h.a3 t h.a9) h.a8 ad) (foO h.a8 ad) (ifR (fbP (t0B h.hp h.a3 t h.a9) h.a2 h.a8 h.aA h.aB t ad) (foO h.a8 ad) (ifR (fbQ (t0B h.hp h.a3 t h.a9) h.a2 h.a8 t ad) (foO h.a8 ad) h.a8))),(ifR (fbQ (t0B h.hp h.a3 t h.a9) h.a2 h.a8 t ad) (raD h.aI h.aJ h.aK (fcC h.a0 h.a2 h.a8 ad) h.a1 h.a2 h.a5 h.a6 h.a9 t (fqR h.a8 h.aC h.aD h.aF ad)) h.a9),(ifR (fbP (t0B h.hp h.a3 t h.a9) h.a2 h.a8 h.aA h.aB t ad) (sdU h.aA t (foT h.a8 ad) ad) h.aA),h.aB,h.aC,(ifR (fbQ (t0B h.hp h.a3 t h.a9) h.a2 h.a8 t ad) (fqL h.a8 h.aC h.aD h.aF ad) h.aD),h.aE,h.aF,h.aG,h.aH,h.aI,h.aJ,h.aK,h.aL,h.aM,h.aN⟩
def HV.fr1 (h:HV)(t ad:Int):Int:=(hfK h.hp h.a3 h.a2 h.a6 h.a7 h.a8 h.a9 h.aA h.aB t ad)
def HV.co (h:HV)(t:Int):HV:=⟨(ifR (t0B h.hp h.a3 t h.a9) (raC h.aI h.aJ h.aK h.a0 h.a1 h.a2 h.a5 h.a6 h.a9 t (JX h.aA h.aB t)) h.a0),(ifR (t0B h.hp h.a3 t h.a9) (raU h.aI h.aJ h.aK h.a0 h.a1 h.a2 h.a5 h.a6 h.a9 t (JX h.aA h.aB t)) h.a1),(ifR (t0B h.hp h.a3 t h.a9) (raE h.aI h.aJ h.aK h.a0 h.a1 h.a2 h.a5 h.a6 h.a9 t (JX h.aA h.aB t)) h.a2),h.a3,h.a4,(ifR (t0B h.hp h.a3 t h.a9) (raF h.aI h.aJ h.aK h.a0 h.a1 h.a2 h.a5 h.a6 h.a9 t (JX h.aA h.aB t)) h.a5),(ifR (t0B h.hp h.a3 t h.a9) (raS h.aI h.aJ h.aK h.a0 h.a1 h.a2 h.a5 h.a6 h.a9 t (JX h.aA h.aB t)) h.a6),h.a7,h.a8,(ifR (t0B h.hp h.a3 t h.a9) (raD h.aI h.aJ h.aK h.a0 h.a1 h.a2 h.a5 h.a6 h.a9 t (JX h.aA h.aB t)) h.a9),h.aA,(ifR (t0B h.hp h.a3 t h.a9) (coX h.aA h.aB t) h.aB),h.aC,h.aD,h.aE,h.aF,h.aG,h.aH,h.aI,h.aJ,h.aK,h.aL,h.aM,h.aN⟩
def HV.tk (h:HV)(n:Int):HV:=⟨(ifR (QA h.hp h.a3 n h.aF) (tkC h.aI h.aJ h.aK h.a0 h.a1 h.a2 h.a5 h.a6 (K8 h.aC h.aD (D2 h.aF n) 100)) h.a0),(ifR (QA h.hp h.a3 n h.aF) (tkU h.aI h.aJ h.aK h.a0 h.a1 h.a2 h.a5 h.a6 (K8 h.aC h.aD (D2 h.aF n) 100)) h.a1),(ifR (QA h.hp h.a3 n h.aF) (tkE h.aI h.aJ h.aK h.a0 h.a1 h.a2 h.a5 h.a6 (K8 h.aC h.aD (D2 h.aF n) 100)) h.a2),h.a3,h.a4,(ifR (QA h.hp h.a3 n h.aF) (tkF h.aI h.aJ h.aK h.a0 h.a1 h.a2 h.a5 h.a6 (K8 h.aC h.aD (D2 h.aF n) 100)) h.a5),(ifR (QA h.hp h.a3 n h.aF) (tkS h.aI h.aJ h.aK h.a0 h.a1 h.a2 h.a5 h.a6 (K8 h.aC h.aD (D2 h.aF n) 100)) h.a6),h.a7,h.a8,h.a9,h.aA,h.aB,h.aC,(ifR (QA h.hp h.a3 n h.aF) (qeL h.aC h.aD (D2 h.aF n) 100) h.aD),h.aE,(Jj (QA h.hp h.a3 n h.aF) (D2 h.aF n) h.aF),h.aG,h.aH,h.aI,h.aJ,h.aK,h.aL,h.aM,h.aN⟩
def HV.mt (h:HV)  :HV:=⟨h.a0,h.a1,h.a2,h.a3,h.a4,h.a5,h.a6,h.a7,h.a8,h.a9,h.aA,h.aB,h.aC,h.aD,(mtD (PN h.hp h.aI) h.a2 h.a6 h.aE),h.aF,h.aG,h.aH,(mtO (PN h.hp h.aI) h.a2 h.a6 h.aE h.aI),(aed (PN h.hp h.aI) h.a2 h.a6 h.aE h.aJ),(aee (PN h.hp h.aI) h.a2 h.a6 h.aE h.aK),(aec (PN h.hp h.aI) h.a2 h.a6 h.aE h.aL),(aam (PN h.hp h.aI) h.a2 h.a6 h.aE h.aM),(aam (PN h.hp h.aI) h.a2 h.a6 h.aE h.aN)⟩
def HV.ms (h:HV)  :HV:=⟨(mcC (Gc h.hp h.a3 h.aI) h.a0 h.a1 h.a2 h.a3 h.a4 h.aJ h.aK h.aL h.aM h.aN),(mcU (Gc h.hp h.a3 h.aI) h.a0 h.a1 h.a2 h.a3 h.a4 h.aJ h.aK h.aL h.aM h.aN),(mcE (Gc h.hp h.a3 h.aI) h.a0 h.a1 h.a2 h.a3 h.a4 h.aJ h.aK h.aL h.aM h.aN),(mcN (Gc h.hp h.a3 h.aI) h.a0 h.a1 h.a2 h.a3 h.a4 h.aJ h.aK h.aL h.aM h.aN),h.a4,h.a5,h.a6,h.a7,h.a8,h.a9,h.aA,h.aB,h.aC,h.aD,h.aE,h.aF,h.aG,h.aH,(meB (Rh (Gc h.hp h.a3 h.aI) h.a0 h.a1 h.a2 h.a3 h.a4 h.aJ h.aK h.aL h.aM h.aN) h.aI),(Jj (Rh (Gc h.hp h.a3 h.aI) h.a0 h.a1 h.a2 h.a3 h.a4 h.aJ h.aK h.aL h.aM h.aN) 0 h.aJ),(Jj (Rh (Gc h.hp h.a3 h.aI) h.a0 h.a1 h.a2 h.a3 h.a4 h.aJ h.aK h.aL h.aM h.aN) 0 h.aK),(ifR (Rh (Gc h.hp h.a3 h.aI) h.a0 h.a1 h.a2 h.a3 h.a4 h.aJ h.aK h.aL h.aM h.aN) [] h.aL),(Jj (Rh (Gc h.hp h.a3 h.aI) h.a0 h.a1 h.a2 h.a3 h.a4 h.aJ h.aK h.aL h.aM h.aN) 0 (ad9 (Gc h.hp h.a3 h.aI) h.a0 h.a1 h.a2 h.a3 h.a4 h.aJ h.aK h.aL h.aM h.aN)),(Jj (Rh (Gc h.hp h.a3 h.aI) h.a0 h.a1 h.a2 h.a3 h.a4 h.aJ h.aK h.aL h.aM h.aN) 0 (aea (Gc h.hp h.a3 h.aI) h.a0 h.a1 h.a2 h.a3 h.a4 h.aJ h.aK h.aL h.aM h.aN))⟩
end Go.V
namespace Go.V
structure HvW (h:HV):Prop where
 w:h.wf=true
theorem Ho (h:HV):HV.mk h.a0 h.a1 h.a2 h.a3 h.a4 h.a5 h.a6 h.a7 h.a8 h.a9 h.aA h.aB h.aC h.aD h.aE h.aF h.aG h.aH h.aI h.aJ h.aK h.aL h.aM h.aN=h:=rfl
def hvD (h:HV):DV:=.agg (OR h.a0 h.a1 h.a2 h.a3 h.a4 h.a5 h.a6 h.a7 h.a8 h.a9 h.aA h.aB h.aC h.aD h.aE h.aF h.aG h.aH h.aI h.aJ h.aK h.aL h.aM h.aN)
def hvV (r:Nat)(h:HV):List W:=[.leaf r 0 ⟨0,0,none,.own (.s 1 h.a0)⟩,.leaf r 1 ⟨0,0,none,.own (.s 1 h.a1)⟩,.leaf r 2 ⟨0,0,none,.own (.s 2 h.a2)⟩,.leaf r 3 ⟨0,0,none,.own (.i h.a3)⟩,.leaf r 4 ⟨0,0,none,.own (.s 1 h.a4)⟩,.leaf r 5 ⟨0,0,none,.own (.s 2 h.a5)⟩,.leaf r 6 ⟨0,0,none,.own (.s 3 h.a6)⟩,.leaf r 7 ⟨0,0,none,.own (.s 3 h.a7)⟩,.leaf r 8 ⟨0,0,none,.own (.s 4 h.a8)⟩,.leaf r 9 ⟨0,0,none,.own (.s 1 h.a9)⟩,.leaf r 10 ⟨0,0,none,.own (.s 1 h.aA)⟩,.leaf r 11 ⟨0,0,none,.own (.s 1 h.aB)⟩,.leaf r 12 ⟨0,0,none,.own (.i h.aC)⟩,.leaf r 13 ⟨0,0,none,.own (.s 3 h.aD)⟩,.leaf r 14 ⟨0,0,none,.own (.i h.aE)⟩,.leaf r 15 ⟨0,0,none,.own (.i h.aF)⟩,.leaf r 16 ⟨0,0,none,.own (.i h.aG)⟩,.leaf r 17 ⟨0,0,none,.own (.i h.aH)⟩,.leaf r 18 ⟨0,0,none,.own (.v (.bool h.aI))⟩,.leaf r 19 ⟨0,0,none,.own (.i h.aJ)⟩,.leaf r 20 ⟨0,0,none,.own (.i h.aK)⟩,.leaf r 21 ⟨0,0,none,.own (.s 1 h.aL)⟩,.leaf r 22 ⟨0,0,none,.own (.i h.aM)⟩,.leaf r 23 ⟨0,0,none,.own (.i h.aN)⟩]
def hvS (O:BQ)(h:HV):HV:=⟨O.sub h.a0 0 (O.ln h.a0),O.sub h.a1 0 (O.ln h.a1),O.sub h.a2 0 (O.ln h.a2),h.a3,O.sub h.a4 0 (O.ln h.a4),O.sub h.a5 0 (O.ln h.a5),O.sub h.a6 0 (O.ln h.a6),O.sub h.a7 0 (O.ln h.a7),O.sub h.a8 0 (O.ln h.a8),O.sub h.a9 0 (O.ln h.a9),O.sub h.aA 0 (O.ln h.aA),O.sub h.aB 0 (O.ln h.aB),h.aC,O.sub h.aD 0 (O.ln h.aD),h.aE,h.aF,h.aG,h.aH,h.aI,h.aJ,h.aK,O.sub h.aL 0 (O.ln h.aL),h.aM,h.aN⟩
def hvE (h:HV):HV:=⟨h.a0,h.a1,h.a2,h.a3,h.a4,h.a5,h.a6,h.a7,h.a8,h.a9,h.aA,h.aB,h.aC,h.aD,h.aE,h.aF,h.aG,h.aH,h.aI,h.aJ,h.aK,h.aL,h.aM,h.aN⟩
end Go.V
namespace Go.V
theorem cmn {x c:Int}(h:x≠c)(q:cT .eql x c=true):False:=by simp[cT]at q;exact h q
theorem cmz {x c:Int}(h:x=c)(q:cT .neq x c=true):False:=by subst h;simp[cT]at q
section
variable {α β : Type}
def fI (i:Int)(k:Int->β):β:=
 match i with
 | .ofNat n=>(match n with
   |0=>k 0
   |m+1=>k (.ofNat (m+1)))
 | .negSucc n=>k (.negSucc n)
theorem G3 {i:Int}{k:Int->β}:fI i k=k i:=by
 unfold fI;split
 ·split<;>rfl
 ·rfl
def fB (b:Bool)(k:Bool->β):β:=
 match b with
 |true=>k true
 |false=>k false
theorem Mb {b:Bool}{k:Bool->β}:fB b k=k b:=by cases b<;>rfl
def Oq (f:α->(α->β)->β):List α->(List α->β)->β
 |[],k=>k []
 |a::l,k=>f a fun a'=>Oq f l fun l'=>k (a'::l')
theorem vq {f:α->(α->β)->β}(h:∀ a k,f a k=k a):∀ {l:List α} {k:List α->β},Oq f l k=k l
 |[],_=>rfl
 | a::l,k=>by
   show f a (fun a'=>Oq f l fun l'=>k (a'::l'))=k (a::l);rw[h,vq h]
def fL:Nat->L->(L->β)->β
 |0,x,k=>k x
 | n+1,x,k=>match x with
   | .v (.int t i)=>fI i fun j=>k (.v (.int t j))
   | .v (.bool b)=>fB b fun c=>k (.v (.bool c))
   | .s z es=>Oq (Oq (fL n)) es fun es'=>k (.s z es')
   |x=>k x
theorem SB:∀ {n:Nat} {x:L} {k:L->β},fL n x k=k x:=by
 intro n
 induction n with
 |zero=>intros;rfl
 | succ n ih=>
   intro x k;unfold fL;split;exact G3;exact Mb;exact vq (fun a k=>vq (fun a k=>ih));rfl
def fR (l:af)(k:af->β):β:=Oq (Oq (fL 4)) l k
theorem SC {l:af}{k:af->β}:fR l k=k l:=vq (fun _ _=>vq (fun _ _=>SB))
def fH (h:HV)(k:HV->β):β:=
 fR h.a0 fun b0=>fR h.a1 fun b1=>fR h.a2 fun b2=>fI h.a3 fun b3=>fR h.a4 fun b4=>fR h.a5 fun b5=>fR h.a6 fun b6=>fR h.a7 fun b7=>fR h.a8 fun b8=>fR h.a9 fun b9=>fR h.aA fun b10=>fR h.aB fun b11=>fI h.aC fun b12=>fR h.aD fun b13=>fI h.aE fun b14=>fI h.aF fun b15=>fI h.aG fun b16=>fI h.aH fun b17=>fB h.aI fun b18=>fI h.aJ fun b19=>fI h.aK fun b20=>fR h.aL fun b21=>fI h.aM fun b22=>fI h.aN fun b23=>
 k ⟨b0,b1,b2,b3,b4,b5,b6,b7,b8,b9,b10,b11,b12,b13,b14,b15,b16,b17,b18,b19,b20,b21,b22,b23⟩
theorem Mc {h:HV}{k:HV->β}:fH h k=k h:=by
 simp only[fH,SC,G3,Mb]
end
end Go.V
namespace Go.V
def Ah:HV:=hvN 12 12 1 300 []
def d36 (s:Int):Nat->HV
 |0=>(Ah.al 0 s).fr 0 (Ah.aQ 0 s)
 |n+1=>(d36 s n).al 0 s
def MQ (s a:Int):Nat->HV->Bool
 |0,h=>h.hp&&(h.wf&&qtB h.aD a)
 |n+1,h=>h.wf&&(decide (h.aR 0 s=0)&&(decide (h.aQ 0 s≠a)&&fH (h.al 0 s) (MQ s a n)))
def o36 (s:Int):Bool:=
 Ah.wf&&(decide (Ah.aR 0 s=0)&&fI (Ah.aQ 0 s) fun a=>decide (-9223372036854775808<=a/\a<=9223372036854775807)&&fH (Ah.al 0 s) fun h=>h.wf&&(decide (h.fr1 0 a=0)&&fH (h.fr 0 a) (MQ s a 6)))
set_option maxRecDepth 100000
set_option maxHeartbeats 40000000
theorem KV:∀ s∈[(1:Int),2,3,4,5,6,7,8],o36 s=true:=by decide+kernel
theorem adg:hnB 12 12 1 300 []=true:=by decide+kernel
theorem Lg {r:Int}(h0:0<=r)(h1:r<8):bO .add Za 1 r∈[(1:Int),2,3,4,5,6,7,8]:=by
 have:r=0\/r=1\/r=2\/r=3\/r=4\/r=5\/r=6\/r=7:=by omega
 rcases this with rfl|rfl|rfl|rfl|rfl|rfl|rfl|rfl<;>decide+kernel
theorem Ql {s:Int}(h:s∈[(1:Int),2,3,4,5,6,7,8]):1<=s/\s<=8:=by
 simp only[Zk,List.not_mem_nil,or_false]at h;omega
theorem f36 {s:Int}(h:s∈[(1:Int),2,3,4,5,6,7,8]):Ah.wf=true/\Ah.aR 0 s=0/\(-9223372036854775808<=Ah.aQ 0 s/\Ah.aQ 0 s<=9223372036854775807)/\(Ah.al 0 s).wf=true/\(Ah.al 0 s).fr1 0 (Ah.aQ 0 s)=0/\MQ s (Ah.aQ 0 s) 6 (d36 s 0)=true:=by
 have q:=KV s h;simp only[o36,Mc,G3,Zc,VK]at q;exact q
structure Gg (s a:Int)(h:HV)(i:Int):Prop where
 i0:0<=i
 i1:i<=6
 r:MQ s a (6-i).toNat h=true
theorem Gg.wf {s a i:Int}{h:HV}(P:Gg s a h i):h.wf=true:=by
 have r:=P.r;cases e:(6-i).toNat with
 |zero=>rw[e]at r;simp only[MQ,Zc]at r;exact r.2.1
 |succ n=>rw[e]at r;simp only[MQ,Zc]at r;exact r.1
theorem Gg.fin {s a i:Int}{h:HV}(P:Gg s a h i)(q:¬ i<6):h.hp=true/\qtB h.aD a=true:=by
 have r:=P.r;rw[show(6-i).toNat=0 by omega]at r;simp only[MQ,Zc]at r;exact⟨r.1,r.2.2⟩
theorem Gg.step {s a i:Int}{h:HV}(P:Gg s a h i)(q:i<6):h.aR 0 s=0/\h.aQ 0 s≠a/\Gg s a (h.al 0 s) (i+1):=by
 have r:=P.r;have i0:=P.i0;rw[show(6-i).toNat=(6- (i+1)).toNat+1 by omega]at r;simp only[MQ,Mc,Zc,VK]at r;exact⟨r.2.1,r.2.2.1,by omega,by omega,r.2.2.2⟩
theorem J2 {s:Int}(h:s∈[(1:Int),2,3,4,5,6,7,8]):Gg s (Ah.aQ 0 s) ((Ah.al 0 s).fr 0 (Ah.aQ 0 s)) 0:=⟨by omega,by omega,(f36 h).2.2.2.2.2⟩
end Go.V