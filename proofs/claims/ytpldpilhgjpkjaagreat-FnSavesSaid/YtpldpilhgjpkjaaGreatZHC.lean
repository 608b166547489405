/- Plain facts. -/
import Derived.Test.YtpldpilhgjpkjaaGreatZHB
set_option linter.all false
open Go
open BitVec renaming ofInt_natCast->Xh,toNat_ofNat->Y2,toInt_eq_toNat_of_lt->Wh
open Bool renaming and_eq_true->Zb,not_eq_true'->Yp,true_and->Yz,and_false->Yc,or_eq_true->Z5,noConfusion->Xy,false_eq_true->ZT
open Int renaming one_mul->Wd,eq_ofNat_of_zero_le->ZX,toNat_of_nonneg->Zj,mul_ediv_add_emod->WT,toNat->YG,emod_nonneg->XM,emod_lt_of_pos->XN,toNat_natCast->ZJ,le_refl->Yi,not_le->WU
open IntKind renaming i64->Zy,wrap->YY,i64->Za
open List renaming take->Yh,drop->Yy,getElem?_drop->Zu,getD_eq_getElem?_getD->Zm,getElem?_eq_getElem->Zt,length_cons->Zi,length_nil->Zk,length_take->Zg,length_drop->Zq,mem_of_mem_drop->Yq,mem_of_mem_take->Y4,mem_cons->Zl,length_set->Zw,getElem?_append_left->ZQ,getElem?_take_of_lt->Y5,getElem?_append_right->ZO,length_append->Zf,take_of_length_le->Yg,getElem?_set_self->Xj,set_set->Wl,mem_append->Zh,not_mem_nil->YJ
open Nat renaming le_refl->Ze,zero_le->Zv,le_trans->ZH
open Option.some renaming injEq->Ya
open Value renaming int->Zn
namespace Go.V
def ltB (p n s z:Int):Bool:=lgOk p n s&&inR z 9 s
structure LtT (p n s z:Int):Prop where
 g:lgOk p n s=true
 zi:inR z 9 1000=true
 z0:9<=z/\z<=1000/\z<=s
 p0:0<=p
 n1:p+n<=32
 m0:1<=pfN z/\pfN z<=n
 m1:z<=pfN z*16/\pfN z*16<z+16
def qS {cs us es:af}{p:Int}(m:ig cs us es)(h:peM es p≠0):0<=peF es p/\peF es p<cs.length:=by
 have q:=wB m (p:=p) (VL h);have e:=AG h;rw[e.2.2];exact q
def pmB (p ad:Int):Bool:=eqB (bQ .mul Za p 16) ad
def Dl (lg:af)(ad j:Int):Bool:=pmB (ag lg j 0) ad
def lhI (lg:af)(ad:Int):Int:=da (Dl lg ad) lg.length
def tcN (cs:af)(f k:Int):Nat->af
 |0=>cs
 |i+1=>oV (tcN cs f k i) f (k+i) 0
def tcC (cs es:af)(a n:Int):af:=tcN cs (peF es (a/16)) (a%16) n.toNat
structure RQ (cs us es:af)(f k i:Int)(c:af):Prop where
 e:c=tcN cs f k i.toNat
 m:ig c us es
 w:Rw [.sl [tI]] c
section
variable {cs us es c: af} {f k i p: Int}
def Re (m:ig cs us es)(w:Rw [.sl [tI]] cs):RQ cs us es f k 0 cs:=⟨rfl,m,w⟩
def L2 (h:RQ cs us es f k i c)(i0:0<=i)(hp:peM es p≠0)(ef:peF es p=f)(k0:0<=k)(k1:k+i<16):RQ cs us es f k (i+1) (oV c f (k+i) 0):=by
 refine⟨?_,LU h.m hp ef Uc k1 Uc Uc,(have fr:=qS h.m hp;yL h.w Uc Uc Uc)⟩;rw[show(i+1).toNat=i.toNat+1 by omega,h.e];show _=oV (tcN cs f k i.toNat) f (k+(i.toNat:Int)) 0;rw[show(k+(i.toNat:Int))=k+i by omega]
def O5 (h:RQ cs us es f k i c){n:Int}(i1:i<=n)(i2:n<=i):c=tcN cs f k n.toNat:=by rw[h.e,show i=n by omega]
def HO (m:ig cs us es)(w:Rw [.sl [tI]] cs)(hp:peM es p≠0)(ef:peF es p=f)(k0:0<=k):∀ n:Nat,k+n<=16->RQ cs us es f k n (tcN cs f k n)
 |0,_=>Re m w
 | n+1,h=>by
   have q:=L2 (HO m w hp ef k0 n Uc) Uc hp ef k0 Uc;have e:((n+1:Nat):Int)=(n:Int)+1:=by omega
   rw[e];exact q
end
end Go.V
namespace Go.V
def tmP (a7:af)(ad:Int):Int:=ag a7 (lhI a7 ad) 0
def tmN (a7:af)(ad:Int):Int:=ag a7 (lhI a7 ad) 1
def tmS (a7:af)(ad:Int):Int:=ag a7 (lhI a7 ad) 2
def tmD (a0 a2 a7:af)(ad z:Int):af:=tcC a0 a2 (tmP a7 ad*16+z) ((16- (tmP a7 ad*16+z)%16)%16)
def H2 {c u e:af}{t:Int}:duC c u e t 0=c/\duU c u e t 0=u/\duE c u e t 0=e:=⟨rfl,rfl,rfl⟩
section
variable {a0 a1 a2: af} {a3: Int} {a4 a5 a6 a7 a8 a9 aA aB: af} {aC: Int} {aD: af} {aE aF aG aH: Int} {aI: Bool} {aJ aK: Int} {aL: af} {aM aN ad z k: Int}
structure TmT (a1 a2 a5 a7 a8 a0:af)(ad z:Int):Prop where
 k0:0<=lhI a7 ad
 k1:lhI a7 ad<a7.length
 p:tmP a7 ad*16=ad
 t:LtT (tmP a7 ad) (tmN a7 ad) (tmS a7 ad) z
 b:ltB (tmP a7 ad) (tmN a7 ad) (tmS a7 ad) z=true
 o0:0<=obI a8 ad
 o1:obI a8 ad<a8.length
 m:ig a0 a1 a2
 g:∀ q:Int,tmP a7 ad<=q->q<tmP a7 ad+tmN a7 ad->peM a2 q≠0
 f:a5.length<=32
 d:ig (tmD a0 a2 a7 ad z) a1 a2
 dw:Rw [.sl [tI]] (tmD a0 a2 a7 ad z)
def aje {lg:af}(h:0<=lhI lg ad):lhI lg ad<lg.length/\bQ .mul Za (ag lg (lhI lg ad) 0) 16=ad:=by
 have t:=gu h;change lhI lg ad<lg.length/\Dl lg ad (lhI lg ad)=true at t;exact⟨t.1,VQ t.2⟩
def ajQ {es:af}{x y w:Int}{n:Nat}(h:Rw [tI,tI,tI] es)(hx: -9223372036854775808<=x/\x<=9223372036854775807)(hy: -9223372036854775808<=y/\y<=9223372036854775807)(hw: -9223372036854775808<=w/\w<=9223372036854775807):Rw [tI,tI,tI] (es.set n [.i x,.i y,.i w]):=Rw.set h (show bV [tI,tI,tI] [.i x,.i y,.i w]from⟨⟨rfl,hx⟩,⟨rfl,hy⟩,⟨rfl,hw⟩,trivial⟩) _
end
end Go.V
namespace Go.V
def vp {o:af}{n:Int}(h:Rw [tI,tI,tI] o)(n0:0<=n)(n1:n<o.length):∃ rec o',bZ (L.s 3 o) [(n.toNat,0)]=some (rec,o')/\o'+[L.v (Zn Zy 0),L.v (Zn Zy 0),L.v (Zn Zy 0)].length<=rec.length/\Yh [L.v (Zn Zy 0),L.v (Zn Zy 0),L.v (Zn Zy 0)].length (Yy o' rec)=kP aj (L.s 3 o) [(n.toNat,0)] 0 [L.v (Zn Zy 0),L.v (Zn Zy 0),L.v (Zn Zy 0)]:=
 fv (z0:=[.i 0,.i 0,.i 0]) (z:=[.i 0,.i 0,.i 0]) h.wf Uc rfl (by decide)
def aga {o:af}{n:Int}(h:Rw [tI,tI,tI] o)(n0:0<=n)(n1:n<o.length):∃ rec o',bZ (.s 3 o) [(n.toNat,0)]=some (rec,o')/\o'+3<=rec.length:=fC Uc (by rw[h.eta n0 n1];exact Ze _)
section
variable {a0 a1 a2 a5 a7 a8 c: af} {ad z x: Int}
end
end Go.V
namespace Go.V
section
variable {a0 a1 a2: af} {a3: Int} {a4 a5 a6 a7 a8 a9 aA aB: af} {aC: Int} {aD: af} {aE aF aG aH: Int} {aI: Bool} {aJ aK: Int} {aL: af} {aM aN ad z: Int}
end
end Go.V
namespace Go.V
def c1N (c:Int):Int:=c+1
def nhR (rs:af)(c:Int):Bool:= !hasB rs c
def kqN (k:Bool)(c:Int):Int:=if k=true then c+1 else c
def kqE (k:Bool)(es:af)(c:Int)(rs:af)(p m:Int):af:=if k=true then G8 es c rs p m else es
def kqB (k:Bool)(es:af)(c:Int)(rs:af)(p m:Int):Bool:=k&&zo es c rs p m
def krC (k:Bool)(cs es:af)(c:Int)(rs:af)(p q:Int):af:=if k=true then I3 cs es c rs p q else cs
def krU (k:Bool)(us es:af)(c:Int)(rs:af)(p q:Int):af:=if k=true then I5 us es c rs p q else us
def krE (k:Bool)(es:af)(c:Int)(rs:af)(p q:Int):af:=if k=true then I4 es c rs p q else es
def krB (k:Bool)(es:af)(c:Int)(rs:af)(p q:Int):Bool:=k&&x6 es c rs p q
section
variable {cs us es rs: af} {c p q m: Int}
def aiU (h:nhR rs c=false):zo es c rs p m=false:=by unfold nhR at h;unfold zo;rw[h];rfl
def aiV (h:mapB es p=false):zo es c rs p m=false:=by unfold mapB at h;unfold zo;rw[h];simp
def aiW (h:¬ (m=1\/m=2)):zo es c rs p m=false:=by
 unfold zo;rw[VM (p:=m=1) (fun e=>h (.inl e)),VM (p:=m=2) (fun e=>h (.inr e))];simp
def aiY (h:nhR rs c=true)(g:mapB es p=true)(w:m=1\/m=2):zo es c rs p m=true:=by
 unfold nhR at h;unfold mapB at g;unfold zo;rw[h,g];rcases w with rfl|rfl<;>simp
def aiX (h:zo es c rs p m=true):G8 es c rs p m=qz es p m (peF es p):=by unfold G8;rw[VO h]
def TU (h:zo es c rs p m=false):G8 es c rs p m=es:=by unfold G8;rw[h];rfl
def aiN (h:nhR rs c=false):x6 es c rs p q=false:=by unfold nhR at h;unfold x6;rw[h];rfl
def aiO (h:mapB es p=false):x6 es c rs p q=false:=by unfold mapB at h;unfold x6;rw[h];simp
def aiP (h:mapB es q=false):x6 es c rs p q=false:=by unfold mapB at h;unfold x6;rw[h];simp
def aiQ (h:p=q):x6 es c rs p q=false:=by unfold x6;rw[VM (p:=p≠q) (fun n=>n h)];simp
def aiT (h:nhR rs c=true)(g:mapB es p=true)(w:mapB es q=true)(n:p≠q):x6 es c rs p q=true:=by
 unfold nhR at h;unfold mapB at g w;unfold x6;rw[h,g,w,VL n];rfl
def aiR (h:x6 es c rs p q=true):I3 cs es c rs p q=dfC cs (qz es p 2 (peF es q)) (peF es p)/\I5 us es c rs p q=dfU us (qz es p 2 (peF es q)) (peF es p)/\I4 es c rs p q=qz es p 2 (peF es q):=by
 unfold I3 I5 I4;rw[VO h,VO h,VO h];exact⟨rfl,rfl,rfl⟩
def NL (h:x6 es c rs p q=false):I3 cs es c rs p q=cs/\I5 us es c rs p q=us/\I4 es c rs p q=es:=by
 unfold I3 I5 I4;rw[h];exact⟨rfl,rfl,rfl⟩
def afO {f:Int}(h:Rw [tI,tI] es)(p0:0<=p)(p1:p<es.length):jL (.s 2 es) [(p.toNat,0)] [.i m,.i f]=qz es p m f:=by
 unfold qz;exact eK (by rw[h.eta p0 p1];rfl)
def ajV (h:Rw [tI,tI] es)(p0:0<=p)(p1:p<es.length)(e:peF es p=ag es p 1):jL (.s 2 es) [(p.toNat,0)] [.i m]=qz es p m (peF es p):=by
 rw[Rf h p0 p1,e];rfl
end
def jh {b x e b' x' e' r r':af}{c c':Int}{z z':Bool}(h1:b=b')(h2:x=x')(h3:e=e')(h4:c=c')(h5:r=r')(h6:z=z'):[DV.agg [.s 1 b,.s 1 x,.s 2 e,.i c,.s 1 r],DV.k z]=[DV.agg [.s 1 b',.s 1 x',.s 2 e',.i c',.s 1 r'],DV.k z']:=by rw[h1,h2,h3,h4,h5,h6]
end Go.V
namespace Go.V
def Fi (es:af)(p q:Int)(xs:af):Bool:=mapB es p&&(mapB es q&&inR (ag xs 0 0) 0 15)
def I2 (cs es:af)(p q:Int)(xs:af):af:=if Fi es p q xs=true then oV cs (peF es q) (ag xs 0 0) (ag (aU cs (peF es p) 0) (ag xs 0 0) 0)else cs
def kdC (k:Bool)(cs es:af)(p q:Int)(xs:af):af:=if k=true then I2 cs es p q xs else cs
def kdB (k:Bool)(es:af)(p q:Int)(xs:af):Bool:=k&&Fi es p q xs
structure KcP (cs es:af)(p q:Int)(xs:af)(i:Int)(d:af):Prop where
 z:i=0->d=cs
 o:0<i->inR (ag xs 0 0) 0 15=true/\d=oV cs (peF es q) (ag xs 0 0) (ag (aU cs (peF es p) 0) (ag xs 0 0) 0)
section
variable {cs us es xs d: af} {p q i: Int}
def adR:KcP cs es p q xs 0 cs:=⟨fun _=>rfl,fun h=>absurd h Uc⟩
def adS (h:KcP cs es p q xs i d)(i0:0<=i)(i1:i<1)(c:inR (ag xs i 0) 0 15=true):KcP cs es p q xs (i+1) (oV d (peF es q) (ag xs i 0) (ag (aU cs (peF es p) 0) (ag xs i 0) 0)):=by
 obtain rfl:i=0:=by omega
 refine⟨fun e=>absurd e Uc,fun _=>⟨c,?_⟩⟩;rw[h.z rfl]
def aiz (h:mapB es p=false):Fi es p q xs=false:=by unfold Fi;rw[h];rfl
def aiA (h:mapB es q=false):Fi es p q xs=false:=by unfold Fi;rw[h];simp
def aiB (h:inR (ag xs 0 0) 0 15=false):Fi es p q xs=false:=by unfold Fi;rw[h];simp
def aiD (h:mapB es p=true)(g:mapB es q=true)(k:KcP cs es p q xs i d)(i1:1<=i):Fi es p q xs=true/\d=I2 cs es p q xs:=by
 have o:=k.o Uc;have b:Fi es p q xs=true:=by unfold Fi;rw[h,g,o.1];rfl
 exact⟨b,by unfold I2;rw[VO b];exact o.2⟩
def TM (h:Fi es p q xs=false):I2 cs es p q xs=cs:=by unfold I2;rw[h];rfl
def aiC (m:ig cs us es):ig (I2 cs es p q xs) us es:=by
 unfold I2;by_cases b:Fi es p q xs=true
 ·rw[VO b];unfold Fi mapB at b;simp only[Zb,VN]at b;have x:=ay.1 b.2.2;have f:=qS m b.1;have c:=m.c (peF es p) (ag xs 0 0) f.1 f.2 x.1 Uc;exact LU m b.2.1 rfl x.1 Uc c.1 c.2.1
 ·rw[VP b];exact m
end
end Go.V
namespace Go.V
def x1R (xs:af)(n:Int):af:=[[.i (ag xs n 0)]]
def ifN (b:Bool)(x y:Int):Int:=if b=true then x else y
def jmB (k:Bool)(es:af)(kp mv:Int)(xs:af)(ph nx:Int):Bool:=k&&(jbOk kp mv xs ph nx&&(mapB es kp&&(mapB es mv&& !decide (peF es kp=peF es mv))))
def jsC (cs us es:af)(c:Int)(rs:af)(kp mv:Int)(xs:af)(ph nx:Int):af:=
 if ph=1 then(if nx=xs.length then cs else I2 cs es mv kp (x1R xs nx))else if ph=2 then I3 cs es c rs mv kp else if ph=3/\0<nx then stC cs us es (kp*16+ag xs (nx-1) 0) 0 else cs
def jsU (us es:af)(c:Int)(rs:af)(kp mv ph:Int):af:=if ph=2 then I5 us es c rs mv kp else us
def jsE (es:af)(c:Int)(rs:af)(kp mv ph nx:Int):af:=
 if ph=0 then G8 es c rs mv 1 else if ph=2 then I4 es c rs mv kp else if ph=3/\¬ 0<nx then G8 es c rs mv 2 else es
def jsN (c ph nx:Int):Int:=if ph=0\/ph=2\/(ph=3/\¬ 0<nx)then c+1 else c
def jsP (es:af)(c:Int)(rs:af)(kp mv:Int)(xs:af)(ph nx:Int):Int:=
 if ph=0 then(if zo es c rs mv 1=true then 1 else 5)else if ph=1 then(if nx=xs.length then 2 else 1)else if ph=2 then(if x6 es c rs mv kp=true then 4 else 3)else
 if ph=3 then(if¬ 0<nx/\zo es c rs mv 2=true then 5 else 3)else ph
def jsX (xs:af)(ph nx:Int):Int:=if ph=1/\nx≠xs.length then nx+1 else if ph=3/\0<nx then nx-1 else nx
section
variable {cs us es rs xs: af} {c kp mv ph nx: Int} {k: Bool}
def aiq (h:k=false):jmB k es kp mv xs ph nx=false:=by unfold jmB;rw[h];rfl
def air (h:jbOk kp mv xs ph nx=false):jmB k es kp mv xs ph nx=false:=by unfold jmB;rw[h];simp
def ais (h:mapB es kp=false):jmB k es kp mv xs ph nx=false:=by unfold jmB;rw[h];simp
def ait (h:mapB es mv=false):jmB k es kp mv xs ph nx=false:=by unfold jmB;rw[h];simp
def aiu (h:peF es kp=peF es mv):jmB k es kp mv xs ph nx=false:=by unfold jmB;rw[VL h];simp
def aiv (h1:k=true)(h2:jbOk kp mv xs ph nx=true)(h3:mapB es kp=true)(h4:mapB es mv=true)(h5:peF es kp≠peF es mv):jmB k es kp mv xs ph nx=true:=by
 unfold jmB;rw[h1,h2,h3,h4,VM h5];rfl
def adD (h:jmB k es kp mv xs ph nx=true):k=true/\jbOk kp mv xs ph nx=true/\mapB es kp=true/\mapB es mv=true/\peF es kp≠peF es mv:=by
 unfold jmB at h;simp only[Zb,Yp,decide_eq_false_iff_not]at h;exact h
structure JbT (kp mv:Int)(xs:af)(ph nx:Int):Prop where
 k0:0<=kp
 k1:kp<=31
 m0:0<=mv
 m1:mv<=31
 p0:0<=ph
 p1:ph<=5
 n0:0<=nx
 n1:nx<=xs.length
 x:∀ i:Int,0<=i->i<xs.length->0<=ag xs i 0/\ag xs i 0<=15
def jbT (h:jbOk kp mv xs ph nx=true):JbT kp mv xs ph nx:=by
 unfold jbOk plOk at h;simp only[Zb,VN]at h;obtain⟨⟨ha,hk,hm,_⟩,hp,hn⟩:=h;have a:=ay.1 hk;have b:=ay.1 hm;have d:=ay.1 hp;have e:=ay.1 hn;refine⟨a.1,a.2,b.1,b.2,d.1,d.2,e.1,e.2,fun i i0 i1=>?_⟩;have q:=ez.1 ha i i0 i1;unfold Lf at q;simp only[Zb]at q;exact ay.1 q.1
def TJ (h:ph=0):jsC cs us es c rs kp mv xs ph nx=cs/\jsU us es c rs kp mv ph=us/\jsE es c rs kp mv ph nx=G8 es c rs mv 1/\jsN c ph nx=c+1/\jsX xs ph nx=nx:=by
 subst h;unfold jsC jsU jsE jsN jsX;refine⟨?_,?_,?_,?_,?_⟩<;>simp
def adK (h:ph=0)(g:zo es c rs mv 1=true):jsP es c rs kp mv xs ph nx=1:=by subst h;unfold jsP;simp[g]
def adJ (h:ph=0)(g:zo es c rs mv 1=false):jsP es c rs kp mv xs ph nx=5:=by subst h;unfold jsP;simp[g]
def Qb (h:ph=1)(g:nx=xs.length):jsC cs us es c rs kp mv xs ph nx=cs/\jsU us es c rs kp mv ph=us/\jsE es c rs kp mv ph nx=es/\jsN c ph nx=c/\jsX xs ph nx=nx/\jsP es c rs kp mv xs ph nx=2:=by
 subst h;unfold jsC jsU jsE jsN jsX jsP;refine⟨?_,?_,?_,?_,?_,?_⟩<;>simp[g]
def Qc (h:ph=1)(g:nx≠xs.length):jsC cs us es c rs kp mv xs ph nx=I2 cs es mv kp (x1R xs nx)/\jsU us es c rs kp mv ph=us/\jsE es c rs kp mv ph nx=es/\jsN c ph nx=c/\jsX xs ph nx=nx+1/\jsP es c rs kp mv xs ph nx=1:=by
 subst h;unfold jsC jsU jsE jsN jsX jsP;refine⟨?_,?_,?_,?_,?_,?_⟩<;>simp[g]
def TK (h:ph=2):jsC cs us es c rs kp mv xs ph nx=I3 cs es c rs mv kp/\jsU us es c rs kp mv ph=I5 us es c rs mv kp/\jsE es c rs kp mv ph nx=I4 es c rs mv kp/\jsN c ph nx=c+1/\jsX xs ph nx=nx:=by
 subst h;unfold jsC jsU jsE jsN jsX;refine⟨?_,?_,?_,?_,?_⟩<;>simp
def adM (h:ph=2)(g:x6 es c rs mv kp=true):jsP es c rs kp mv xs ph nx=4:=by subst h;unfold jsP;simp[g]
def adL (h:ph=2)(g:x6 es c rs mv kp=false):jsP es c rs kp mv xs ph nx=3:=by subst h;unfold jsP;simp[g]
def Qd (h:ph=3)(g:0<nx):jsC cs us es c rs kp mv xs ph nx=stC cs us es (kp*16+ag xs (nx-1) 0) 0/\jsU us es c rs kp mv ph=us/\jsE es c rs kp mv ph nx=es/\jsN c ph nx=c/\jsX xs ph nx=nx-1/\jsP es c rs kp mv xs ph nx=3:=by
 subst h;unfold jsC jsU jsE jsN jsX jsP;refine⟨?_,?_,?_,?_,?_,?_⟩<;>simp[g]
def Kt (h:ph=3)(g:¬ 0<nx):jsC cs us es c rs kp mv xs ph nx=cs/\jsU us es c rs kp mv ph=us/\jsE es c rs kp mv ph nx=G8 es c rs mv 2/\jsN c ph nx=c+1/\jsX xs ph nx=nx:=by
 subst h;unfold jsC jsU jsE jsN jsX;refine⟨?_,?_,?_,?_,?_⟩<;>simp[g]
def adO (h:ph=3)(g:¬ 0<nx)(b:zo es c rs mv 2=true):jsP es c rs kp mv xs ph nx=5:=by subst h;unfold jsP;simp[g,b]
def adN (h:ph=3)(b:zo es c rs mv 2=false):jsP es c rs kp mv xs ph nx=3:=by subst h;unfold jsP;simp[b]
def adP (h0:ph≠0)(h1:ph≠1)(h2:ph≠2)(h3:ph≠3):jsC cs us es c rs kp mv xs ph nx=cs/\jsU us es c rs kp mv ph=us/\jsE es c rs kp mv ph nx=es/\jsN c ph nx=c/\jsX xs ph nx=nx/\jsP es c rs kp mv xs ph nx=ph:=by
 unfold jsC jsU jsE jsN jsX jsP;refine⟨?_,?_,?_,?_,?_,?_⟩<;>simp[h0,h1,h2,h3]
def Rl {a b:Nat}(h:Rw [tI] xs)(n0:0<=nx)(n1:nx<xs.length)(ea:a=nx.toNat)(eb:b=1):mV xs a b=x1R xs nx:=by
 subst ea eb;unfold mV x1R;have e:xs.getD nx.toNat []=[.i (ag xs nx 0)]:=h.eta n0 n1;apply List.ext_getElem?;intro i;rw[List.getElem?_take,Zu];rw[Zm,Zt Uc]at e;by_cases q:i=0
 ·subst q;rw[VO Uc,Nat.add_zero,Zt Uc]
  simpa using e
 ·rw[VP Uc,List.getElem?_eq_none (by simp only[Zi,Zk];omega)]
def agG (h:Rw [tI] xs)(n0:0<=nx)(n1:nx<xs.length):Rw [tI] (x1R xs nx):=by
 rw[<-Rl h n0 n1 rfl rfl];exact⟨by have:=h.1;unfold mV;simp only[Zg,Zq];omega,fun e he=>h.2 e (Yq (Y4 he))⟩
def qR {b x e b' x' e' r r':af}{d d' p p' n n':Int}{y:af}(h1:b=b')(h2:x=x')(h3:e=e')(h4:d=d')(h5:r=r')(h6:p=p')(h7:n=n'):
 [DV.agg [.s 1 b,.s 1 x,.s 2 e,.i d,.s 1 r],DV.agg [.i kp,.i mv,.s 1 y,.i p,.i n]]=
 [DV.agg [.s 1 b',.s 1 x',.s 2 e',.i d',.s 1 r'],DV.agg [.i kp,.i mv,.s 1 y,.i p',.i n']]:=by rw[h1,h2,h3,h4,h5,h6,h7]
def af6 {a v:Int}(m:ig cs us es):ig (stC cs us es a v) us es:=by
 unfold stC;by_cases h:stK cs us es a v=0
 ·rw[VO h];have nz:smM cs us es a≠0:=fun e=>by rw[(OV e).1]at h;exact absurd h (by decide)
  have ok:=LS nz;have y:=yI (a:=a) ok.1;have z:=x7 (es:=es) (a:=a) Uc;rw[y.1,z.1]at nz;rw[y.2,z.2.1];have v1:inR v 0 999=true:=by
   cases q:inR v 0 999 with
   |true=>rfl
   | false=>
     unfold stK at h;rw[q]at h;split at h
     ·cases h
     ·split at h
      ·cases h
      ·rw[VP (by decide)]at h;cases h
  have w:=ay.1 v1;exact LU m nz rfl Uc Uc w.1 w.2
 ·rw[VP h];exact m
def aiy (m:ig cs us es)(j:JbT kp mv xs ph nx):ig (jsC cs us es c rs kp mv xs ph nx) (jsU us es c rs kp mv ph) (jsE es c rs kp mv ph nx):=by
 by_cases h0:ph=0
 ·have q:=TJ (cs:=cs) (us:=us) (es:=es) (c:=c) (rs:=rs) (kp:=kp) (mv:=mv) (xs:=xs) (nx:=nx) h0;rw[q.1,q.2.1,q.2.2.1];exact adW m
 by_cases h1:ph=1
 ·by_cases g:nx=xs.length
  ·have q:=Qb (cs:=cs) (us:=us) (es:=es) (c:=c) (rs:=rs) (kp:=kp) (mv:=mv) h1 g;rw[q.1,q.2.1,q.2.2.1];exact m
  ·have q:=Qc (cs:=cs) (us:=us) (es:=es) (c:=c) (rs:=rs) (kp:=kp) (mv:=mv) h1 g;rw[q.1,q.2.1,q.2.2.1];exact aiC m
 by_cases h2:ph=2
 ·have q:=TK (cs:=cs) (us:=us) (es:=es) (c:=c) (rs:=rs) (kp:=kp) (mv:=mv) (xs:=xs) (nx:=nx) h2;rw[q.1,q.2.1,q.2.2.1];exact aiS m
 by_cases h3:ph=3
 ·by_cases g:0<nx
  ·have q:=Qd (cs:=cs) (us:=us) (es:=es) (c:=c) (rs:=rs) (kp:=kp) (mv:=mv) (xs:=xs) h3 g;rw[q.1,q.2.1,q.2.2.1];exact af6 m
  ·have q:=Kt (cs:=cs) (us:=us) (es:=es) (c:=c) (rs:=rs) (kp:=kp) (mv:=mv) (xs:=xs) h3 g;rw[q.1,q.2.1,q.2.2.1];exact adW m
 have q:=adP (cs:=cs) (us:=us) (es:=es) (c:=c) (rs:=rs) (kp:=kp) (mv:=mv) (xs:=xs) (nx:=nx) h0 h1 h2 h3;rw[q.1,q.2.1,q.2.2.1];exact m
def TS {p m:Int}(h:ig cs us es)(we:Rw [tI,tI] es)(m0: -9223372036854775808<=m/\m<=9223372036854775807):Rw [tI,tI] (G8 es c rs p m):=by
 unfold G8;split
 ·rename_i g;unfold zo at g;simp only[Zb,VN]at g;have f:=qS h g.2.1;have n:=h.n1;exact IC we m0 Uc
 ·exact we
def TQ {p q:Int}(h:ig cs us es)(we:Rw [tI,tI] es):Rw [tI,tI] (I4 es c rs p q):=by
 unfold I4;split
 ·rename_i g;unfold x6 at g;simp only[Zb,VN]at g;have f:=qS h g.2.2.1;have n:=h.n1;exact IC we Uc Uc
 ·exact we
def TP {p q:Int}(wc:Rw [.sl [tI]] cs):Rw [.sl [tI]] (I3 cs es c rs p q):=by
 unfold I3;split;exact afG wc;exact wc
def TR {p q:Int}(wu:Rw [tB] us):Rw [tB] (I5 us es c rs p q):=by
 unfold I5;split;exact afH wu;exact wu
def TL {p q:Int}{y:af}(h:ig cs us es)(wc:Rw [.sl [tI]] cs):Rw [.sl [tI]] (I2 cs es p q y):=by
 unfold I2;split
 ·rename_i g;unfold Fi mapB at g;simp only[Zb,VN]at g;have x:=ay.1 g.2.2;have f:=qS h g.1;have d:=qS h g.2.1;have e:=h.c (peF es p) (ag y 0 0) f.1 f.2 x.1 Uc;exact yL wc d.1 d.2 Uc
 ·exact wc
def adQ (m:ig cs us es)(wc:Rw [.sl [tI]] cs)(wu:Rw [tB] us)(we:Rw [tI,tI] es):Rw [.sl [tI]] (jsC cs us es c rs kp mv xs ph nx)/\Rw [tB] (jsU us es c rs kp mv ph)/\Rw [tI,tI] (jsE es c rs kp mv ph nx):=by
 unfold jsC jsU jsE;refine⟨?_,?_,?_⟩
 ·repeat' split
  all_goals first|exact wc|exact TL m wc|exact TP wc|exact abr wc Uc
 ·split;exact TR wu;exact wu
 ·repeat' split
  all_goals first|exact we|exact TS m we Uc|exact TQ m we
def aaO (ph:Int):Bool:=decide (ph=4)||decide (ph=5)
def ai0 {p m:Int}(h:k=true):kqE k es c rs p m=G8 es c rs p m:=by subst h;rfl
def ai1 (h:k=true):kqN k c=c+1:=by subst h;rfl
def aiZ {p m:Int}(h:k=true):kqB k es c rs p m=zo es c rs p m:=by subst h;rfl
def ai4 {p q:Int}(h:k=true):krC k cs es c rs p q=I3 cs es c rs p q:=by subst h;rfl
def ai6 {p q:Int}(h:k=true):krU k us es c rs p q=I5 us es c rs p q:=by subst h;rfl
def ai5 {p q:Int}(h:k=true):krE k es c rs p q=I4 es c rs p q:=by subst h;rfl
def ai3 {p q:Int}(h:k=true):krB k es c rs p q=x6 es c rs p q:=by subst h;rfl
def aiE {p q:Int}{y:af}(h:k=true):kdC k cs es p q y=I2 cs es p q y:=by subst h;rfl
end
end Go.V
namespace Go.V
def msB (k:Bool)(c:Int)(me:Bool):Bool:=k&&(decide (c<=99000)&&me)
def N6 (a0 a1 a2:af)(a3:Int)(a4:af)(aJ aK:Int)(aL:af)(aM aN:Int):Bool:=jmB (ccB a0 a1 a2 a3 a4) a2 aJ aK aL aM aN
def mzN (a0 a1 a2:af)(a3:Int)(a4:af)(aJ aK:Int)(aL:af)(aM aN:Int):Int:=ifN (N6 a0 a1 a2 a3 a4 aJ aK aL aM aN) (jsP a2 a3 a4 aJ aK aL aM aN) aM
def myN (a0 a1 a2:af)(a3:Int)(a4:af)(aJ aK:Int)(aL:af)(aM aN:Int):Int:=ifN (N6 a0 a1 a2 a3 a4 aJ aK aL aM aN) (jsX aL aM aN) aN
def mcC (g:Bool)(a0 a1 a2:af)(a3:Int)(a4:af)(aJ aK:Int)(aL:af)(aM aN:Int):af:=ifR (g&&N6 a0 a1 a2 a3 a4 aJ aK aL aM aN) (jsC a0 a1 a2 a3 a4 aJ aK aL aM aN) a0
def mcU (g:Bool)(a0 a1 a2:af)(a3:Int)(a4:af)(aJ aK:Int)(aL:af)(aM aN:Int):af:=ifR (g&&N6 a0 a1 a2 a3 a4 aJ aK aL aM aN) (jsU a1 a2 a3 a4 aJ aK aM) a1
def mcE (g:Bool)(a0 a1 a2:af)(a3:Int)(a4:af)(aJ aK:Int)(aL:af)(aM aN:Int):af:=ifR (g&&N6 a0 a1 a2 a3 a4 aJ aK aL aM aN) (jsE a2 a3 a4 aJ aK aM aN) a2
def mcN (g:Bool)(a0 a1 a2:af)(a3:Int)(a4:af)(aJ aK:Int)(aL:af)(aM aN:Int):Int:=ifN (g&&N6 a0 a1 a2 a3 a4 aJ aK aL aM aN) (jsN a3 aM aN) a3
def moB (g:Bool)(a0 a1 a2:af)(a3:Int)(a4:af)(aJ aK:Int)(aL:af)(aM aN:Int):Bool:=g&&aaO (mzN a0 a1 a2 a3 a4 aJ aK aL aM aN)
def meB (o me:Bool):Bool:= !o&&me
section
variable {a0 a1 a2: af} {a3: Int} {a4 a5 a6 a7 a8 a9 aA aB: af} {aC: Int} {aD: af} {aJ aK: Int} {aL: af} {aM aN: Int} {g: Bool}
def aef (h:kJ a0 a1 a2 a4 a5 a6 a7 a8 a9 aA aB aD aL){o:Bool}:
 kJ (mcC g a0 a1 a2 a3 a4 aJ aK aL aM aN) (mcU g a0 a1 a2 a3 a4 aJ aK aL aM aN) (mcE g a0 a1 a2 a3 a4 aJ aK aL aM aN) a4 a5 a6 a7 a8 a9 aA aB aD (ifR o [] aL):=by
 have h21:Rw [tI] (ifR o [] aL)/\au (ifR o [] aL)<=1073741824:=by
  cases o with
  |true=>exact⟨Rw.nil,Zv _⟩
  |false=>exact⟨h.r21,h.c21⟩
 unfold mcC mcU mcE;cases q:(g&&N6 a0 a1 a2 a3 a4 aJ aK aL aM aN)with
 |false=>exact⟨h.r0,h.r1,h.r2,h.r4,h.r5,h.r6,h.r7,h.r8,h.r9,h.r10,h.r11,h.r13,h21.1,h.c0,h.c1,h.c2,h.c4,h.c5,h.c6,h.c7,h.c8,h.c9,h.c10,h.c11,h.c13,h21.2⟩
 | true=>
   simp only[Zb]at q;have j:=adD q.2;have m:=(gK (zY j.1).2).1;have J:=jbT j.2.1;have w:=adQ (c:=a3) (rs:=a4) (kp:=aJ) (mv:=aK) (xs:=aL) (ph:=aM) (nx:=aN) m h.r0 h.r1 h.r2;have n:=sV (aiy (c:=a3) (rs:=a4) m J) w.1 w.2.1 w.2.2;exact⟨w.1,w.2.1,w.2.2,h.r4,h.r5,h.r6,h.r7,h.r8,h.r9,h.r10,h.r11,h.r13,h21.1,ZH n.1 (by decide),ZH n.2.1 (by decide),ZH n.2.2 (by decide),h.c4,h.c5,h.c6,h.c7,h.c8,h.c9,h.c10,h.c11,h.c13,h21.2⟩
end
end Go.V
namespace Go.V
def woN (b i:Int):Int:=if slB b i=true then bQ .andNot Za b (LM .shl Za 1 i)else b
def RU {a b:Int}:bQ .andNot Za a b=(tG a&&& ~~~ tG b).toInt:=Cp _
def Q4 {t:Nat}(ht:t<=15):LM .shl Za 1 (t:Int)=((2^t:Nat):Int):=by
 show YY Za (1*2^(min (t:Int).toNat 64))=_;rw[show min (t:Int).toNat 64=t by omega,Wd];have h:t=0\/t=1\/t=2\/t=3\/t=4\/t=5\/t=6\/t=7\/t=8\/t=9\/t=10\/t=11\/t=12\/t=13\/t=14\/t=15:=by omega
 rcases h with rfl|rfl|rfl|rfl|rfl|rfl|rfl|rfl|rfl|rfl|rfl|rfl|rfl|rfl|rfl|rfl<;>rfl
def Mi {b:Int}{i t:Nat}(b0:0<=b)(b1:b<65536)(hi:i<=15)(ht:t<=15):(0<=woN b i/\woN b i<=b)/\hsB (woN b i) t=(hsB b t&&decide (t≠i)):=by
 have hs:slB b i=true:=DN.2 ⟨b0,Uc,Uc⟩;obtain⟨n,rfl⟩:=ZX b0;have w:woN (n:Int) i=(tG n&&& ~~~ tG ((2^i:Nat):Int)).toInt:=by unfold woN;rw[VO hs,Q4 hi,RU]
 have x:(tG (n:Int)).toNat=n:=by unfold tG;rw[Xh,Y2];omega
 have l:(tG (n:Int)&&& ~~~ tG ((2^i:Nat):Int)).toNat<=n:=by rw[BitVec.toNat_and];exact ZH Nat.and_le_left (by rw[x];exact Ze _)
 have e:(tG (n:Int)&&& ~~~ tG ((2^i:Nat):Int)).toInt=((tG (n:Int)&&& ~~~ tG ((2^i:Nat):Int)).toNat:Int):=Wh Uc;have bd:0<=woN (n:Int) i/\woN (n:Int) i<=n:=by rw[w,e];omega
 refine⟨bd,?_⟩;rw[E3 bd.1 Uc ht,E3 b0 b1 ht,w,R0,BitVec.getLsbD_and,BitVec.getLsbD_not];have p:(tG ((2^i:Nat):Int)).getLsbD t=decide (t=i):=by
  unfold tG;rw[Xh,BitVec.getLsbD_ofNat,Nat.testBit_two_pow,VL (show t<64 by omega),Yz];by_cases c:t=i
  ·rw[VL c,VL c.symm]
  ·rw[VM c,VM (fun e=>c e.symm)]
 rw[p,VL (show t<64 by omega),Yz];by_cases c:t=i
 ·rw[VL c,VM (fun h=>h c)];rfl
 ·rw[VM c,VL c];rfl
def Nz {t:Int}:hsB 0 t=false:=by
 cases q:hsB 0 t with
 |false=>rfl
 | true=>
   exfalso;have s:slB 0 t=true:=by
    cases s:slB 0 t with
    |true=>rfl
    |false=>rw[Ke s]at q;cases q
   have r:=DN.1 s;obtain⟨n,rfl⟩:=ZX r.2.1;rw[E3 Uc Uc Uc]at q;simp[tG]at q
structure rR (S:af):Prop where
 s:∀ i:Nat,i<S.length->spOk (ag S i 0) (ag S i 1) (ag S i 2)=true
 d:∀ i j:Nat,i<S.length->j<S.length->ag S i 0=ag S j 0->i=j
structure qg (S:af)(a:Int)(i:Nat):Prop where
 l:i<S.length
 p:ag S i 0=a/16
 b:hsB (ag S i 2) ((a-ag S i 0*16)/clsSz (ag S i 1))=true
 o:(a-ag S i 0*16)%clsSz (ag S i 1)=0
def LV {sp lg:af}(h:Pn sp lg):rR sp:=⟨h.s,h.ss⟩
section
variable {S: af} {a b: Int} {i j: Nat}
def Ql (g:rR S)(h:qg S a i):Es (ag S i 0) (ag S i 1) (ag S i 2) a=true:=by
 have p:=h.p;exact uC.2 ⟨g.s i h.l,Uc,Uc⟩
def kL (g:rR S)(h:qg S a i):gE S a=i/\spI S (a/16)=i/\zt S a i=(a-ag S i 0*16)/clsSz (ag S i 1):=by
 have t:=Ql g h;refine⟨?_,?_,?_⟩
 ·refine dU (fun k k0 k1=>?_) Uc (by have:=h.l;omega) (yC.2 t);refine gC ?_;cases c:AJ S a k with
  |false=>rfl
  | true=>
    exfalso;have u:=(uC.1 (yC.1 c)).2;have p:=h.p;have e:=g.d k.toNat i (by have:=h.l;omega) h.l (by rw[Zj k0];omega);omega
 ·refine dU (fun k k0 k1=>?_) Uc (by have:=h.l;omega) (JP h.p);refine gC ?_;cases c:isSp S (a/16) k with
  |false=>rfl
  | true=>
    exfalso;have c':ag S k 0=a/16:=VQ c;have p:=h.p;have e:=g.d k.toNat i (by have:=h.l;omega) h.l (by rw[Zj k0];omega);omega
 ·unfold zt saS;rw[VO t]
end
end Go.V
namespace Go.V
def GV (S:af)(i s:Int):af:=S.set i.toNat [.i (ag S i 0),.i (ag S i 1),.i (woN (ag S i 2) s)]
def j5 (S:af)(a:Int):af:=GV S (gE S a) (zt S a (gE S a))
def En (me:Bool)(kp mv:Int)(S:af)(a:Int):Bool:=decide (ag (j5 S a) (gE S a) 2=0)&& !bsB me kp mv (ag (j5 S a) (gE S a) 0)
structure zw where
 C:af
 U:af
 E:af
 F:af
 S:af
def f1 (me:Bool)(kp mv:Int)(s:zw)(a:Int):zw:=
 ⟨ifR (En me kp mv s.S a) (dsC s.C s.U s.E (j5 s.S a) (gE s.S a)) s.C,ifR (En me kp mv s.S a) (dsU s.C s.U s.E (j5 s.S a) (gE s.S a)) s.U,ifR (En me kp mv s.S a) (dsE s.C s.U s.E (j5 s.S a) (gE s.S a)) s.E,
  ifR (En me kp mv s.S a) (dsF s.C s.U s.E s.F (j5 s.S a) (gE s.S a)) s.F,ifR (En me kp mv s.S a) (dsS (j5 s.S a) (gE s.S a)) (j5 s.S a)⟩
structure Pi (s:zw):Prop where
 m:ig s.C s.U s.E
 rc:Rw [.sl [tI]] s.C
 ru:Rw [tB] s.U
 re:Rw [tI,tI] s.E
 rf:Rw [tI,tI] s.F
 rs:Rw [tI,tI,tI] s.S
 lf:s.F.length<=65
 ls:s.S.length<=1073741824
 g:rR s.S
def JD {n:Int}:∀ {l:List Pr},Mt l->(∀ x∈l,1<=x.2/\x.1+x.2<=n)->∀ {m:Int},(∀ x,l.head?=some x->m<=x.1)->l=[]\/m+l.length<=n
 |[],_,_,_,_=>.inl rfl
 |[x],_,b,m,h=>.inr (by have:=b x (by simp);have:=h x rfl;simp only[Zi,Zk];omega)
 | x::y::l,c,b,m,h=>by
   have q:=JD (l:=y::l) c.2.2 (fun z hz=>b z (by simp only[Zl]at hz ⊢;exact .inr hz)) (m:=m+1) (fun z hz=>by
    simp only[List.head?_cons,Ya]at hz;subst hz;have:=b x (by simp);have:=h x rfl;have:=c.2.1;omega)
   rcases q with q|q
   ·cases q
   ·right;simp only[Zi]at q ⊢;omega
def Ls {n:Int}{rs:af}(h:rgOk n rs=true):rs.length<=32:=by
 have T:=yv h;have q:=JD (n:=n) T.c (fun x hx=>⟨(T.b x hx).2.1,(T.b x hx).2.2⟩) (m:=0) (fun x hx=>(T.b x (List.mem_of_mem_head? hx)).1);have l:(rP rs).length=rs.length:=by unfold rP;rw[List.length_map]
 have n1:=T.n1;rcases q with q|q
 ·rw[q]at l;simp only[Zk]at l;omega
 ·omega
def OE {n a l:Int}{rs:af}(w:Rw [tI,tI] rs)(hl:rs.length<=65):(rpL n rs a l).length<=65:=by
 cases h:rpB n rs a l with
 |false=>rw[Ly h];exact hl
 | true=>
   have g:rgOk n rs=true:=by unfold rpB at h;simp only[Zb]at h;exact h.1
   have q:=Lx (n:=n) (a0:=a) (l0:=l) w Uc;have:=Ls g;omega
section
variable {S: af} {a b x: Int} {i j: Nat}
def C9 (h:i<S.length)(s k:Int)(k0:0<=k):ag (GV S i s) k 0=ag S k 0/\ag (GV S i s) k 1=ag S k 1/\ag (GV S i s) k 2=if k=i then woN (ag S i 2) s else ag S k 2:=by
 unfold GV;refine⟨?_,?_,?_⟩
 ·rw[P1 Uc Uc k0];split
  ·rename_i e;rw[e];rfl
  ·rfl
 ·rw[P1 Uc Uc k0];split
  ·rename_i e;rw[e];rfl
  ·rfl
 ·rw[P1 Uc Uc k0];rfl
def uo {s:Int}:(GV S i s).length=S.length:=Zw
def abp {p k b b':Int}(h:spOk p k b=true)(h0:0<=b')(h1:b'<=b):spOk p k b'=true:=by
 unfold spOk bmOk at h ⊢;simp only[Zb,ay]at h ⊢;exact⟨h.1,h.2.1,h0,Uc⟩
def ahL (g:rR S)(h:i<S.length){t:Nat}(ht:t<=15):rR (GV S i t):=by
 have sb:=BV (g.s i h);refine⟨fun k hk=>?_,fun k k' hk hk' e=>?_⟩
 ·rw[uo]at hk;have q:=C9 h t k Uc;rw[q.1,q.2.1,q.2.2];split
  ·rename_i e;have e':k=i:=by omega
   subst e';have w:=(Mi sb.1 sb.2 ht (Zv 15)).1;exact abp (g.s k h) w.1 w.2
  ·exact g.s k hk
 ·rw[uo]at hk hk';rw[(C9 h t k Uc).1,(C9 h t k' Uc).1]at e;exact g.d k k' hk hk' e
def yG (g:rR S)(h:qg S a i):∃ t:Nat,t<=15/\zt S a i=t/\hsB (ag S i 2) t=true:=by
 have q:=kL g h;have b:=h.b;rw[<-q.2.2]at b;have s:slB (ag S i 2) (zt S a i)=true:=by
  cases s:slB (ag S i 2) (zt S a i)with
  |true=>rfl
  |false=>rw[Ke s]at b;cases b
 have r:=DN.1 s;exact⟨(zt S a i).toNat,Uc,Uc,by rw[Zj r.2.1];exact b⟩
def ac1 (g:rR S)(h:qg S a i)(k:qg S b j)(ne:a≠b):qg (j5 S a) b j:=by
 obtain⟨t,ht,es,hb⟩:=yG g h;have q:=kL g h;have e1:j5 S a=GV S i t:=by unfold j5;rw[q.1,es]
 have f:=C9 h.l t j Uc;rw[e1];refine⟨by rw[uo];exact k.l,by rw[f.1];exact k.p,?_,by rw[f.1,f.2.1];exact k.o⟩;rw[f.1,f.2.1,f.2.2];split
 ·rename_i e;have e':j=i:=by omega
  subst e';obtain⟨u,hu,eu,hbu⟩:=yG g k;have qk:=kL g k;have sb:=BV (g.s j h.l);rw[<-qk.2.2,eu,(Mi sb.1 sb.2 ht hu).2,hbu];have:u≠t:=fun c=>by
   subst c;have o1:=h.o;have o2:=k.o;have w1:=q.2.2;have w2:=qk.2.2;rw[es]at w1;rw[eu]at w2;have d1:=WT (a-ag S j 0*16) (clsSz (ag S j 1));have d2:=WT (b-ag S j 0*16) (clsSz (ag S j 1));rw[<-w1,o1]at d1;rw[<-w2,o2]at d2;omega
  rw[VL this];rfl
 ·exact k.b
def fR {k:Int}(h:i<S.length)(k0:0<=k)(n:Nat):ag (delL S i (i+1)) k n=ag S (if k<i then k else k+1) n:=by
 unfold delL ag;simp only[Zm];rw[show((i:Int)).toNat=i by omega,show((i:Int)+1).toNat=i+1 by omega];by_cases c:k<i
 ·rw[VO c,ZQ (by rw[Zg];omega),Y5 Uc]
 ·rw[VP c,ZO (by rw[Zg];omega),Zu];rw[show i+1+(k.toNat- (Yh i S).length)=(k+1).toNat by rw[Zg];omega]
def GJ (h:i<S.length):(delL S i (i+1)).length+1=S.length:=by
 unfold delL;rw[Zf,Zg,Zq];omega
def acx (g:rR S)(h:i<S.length):rR (delL S i (i+1)):=by
 have l:=GJ h;have z:∀ k:Nat,k<(delL S i (i+1)).length->∃ k':Nat,k'<S.length/\(if(k:Int)<i then(k:Int)else(k:Int)+1)=k'/\(k'=if k<i then k else k+1):=fun k hk=>by
  by_cases c:k<i;exact⟨k,Uc,by rw[VO Uc],by rw[VO c]⟩;exact⟨k+1,Uc,by rw[VP Uc];omega,by rw[VP c]⟩
 refine⟨fun k hk=>?_,fun k k' hk hk' e=>?_⟩
 ·obtain⟨u,u1,u2,_⟩:=z k hk;rw[fR h Uc,fR h Uc,fR h Uc,u2];exact g.s u u1
 ·obtain⟨u,u1,u2,u3⟩:=z k hk;obtain⟨v,v1,v2,v3⟩:=z k' hk';rw[fR h Uc,fR h Uc,u2,v2]at e;have:=g.d u v u1 v1 e;subst this;rw[u3]at v3;split at v3<;>split at v3<;>omega
def Sv (h:i<S.length)(z:ag S i 2=0)(k:qg S b j):∃ j',qg (delL S i (i+1)) b j':=by
 have l:=GJ h;have ne:j≠i:=fun e=>by subst e;have:=k.b;rw[z,Nz]at this;cases this
 have kl:=k.l;by_cases c:j<i
 ·refine⟨j,Uc,?_,?_,?_⟩
  ·rw[fR h Uc,VO Uc];exact k.p
  ·rw[fR h Uc,fR h Uc,fR h Uc,VO Uc];exact k.b
  ·rw[fR h Uc,fR h Uc,VO Uc];exact k.o
 ·refine⟨j-1,Uc,?_,?_,?_⟩
  ·rw[fR h Uc,VP Uc,show((j-1:Nat):Int)+1=j by omega];exact k.p
  ·rw[fR h Uc,fR h Uc,fR h Uc,VP Uc,show((j-1:Nat):Int)+1=j by omega];exact k.b
  ·rw[fR h Uc,fR h Uc,VP Uc,show((j-1:Nat):Int)+1=j by omega];exact k.o
end
end Go.V
namespace Go.V
def P0 {S:af}{i t:Nat}(w:Rw [tI,tI,tI] S)(g:rR S)(h:i<S.length)(ht:t<=15):Rw [tI,tI,tI] (GV S i t):=by
 have ok:=mU (g.s i h);have sb:=BV (g.s i h);have wo:=(Mi sb.1 sb.2 ht (Zv 15)).1;have k:=ay.1 ok.2.2.1;exact w.set (show bV [tI,tI,tI] [.i (ag S i 0),.i (ag S i 1),.i (woN (ag S i 2) t)]from⟨⟨rfl,show-9223372036854775808<=ag S i 0/\ag S i 0<=9223372036854775807 from by omega⟩,⟨rfl,show-9223372036854775808<=ag S i 1/\ag S i 1<=9223372036854775807 from by omega⟩,⟨rfl,show-9223372036854775808<=woN (ag S i 2) t/\woN (ag S i 2) t<=9223372036854775807 from by omega⟩,trivial⟩) _
section
variable {s: zw} {a b: Int} {i j: Nat} {me: Bool} {kp mv: Int}
def JR (h:Pi s)(v:qg s.S a i):Pi (f1 me kp mv s a):=by
 obtain⟨t,ht,es,hb⟩:=yG h.g v;have q:=kL h.g v;have e1:j5 s.S a=GV s.S i t:=by unfold j5;rw[q.1,es]
 have g1:rR (j5 s.S a):=by rw[e1];exact ahL h.g v.l ht
 have w1:Rw [tI,tI,tI] (j5 s.S a):=by rw[e1];exact P0 h.rs h.g v.l ht
 have l1:(j5 s.S a).length=s.S.length:=by rw[e1];exact uo
 have vl:=v.l;unfold f1;cases c:En me kp mv s.S a with
 |false=>exact⟨h.m,h.rc,h.ru,h.re,h.rf,w1,h.lf,by show(j5 s.S a).length<=_;rw[l1];exact h.ls,g1⟩
 | true=>
   rw[q.1];have k:=acA (a0:=s.C) (a1:=s.U) (a2:=s.E) (a6:=j5 s.S a) (i:=i);have r:=Qg (p:=ag (j5 s.S a) i 0) h.rc h.ru h.re;have d:=wv (i:=i) (j:=(i:Int)+1) w1 Uc;refine⟨?_,?_,?_,?_,?_,d.1,?_,?_,acx g1 (by rw[l1];exact vl)⟩
   ·show ig (dsC _ _ _ _ _) (dsU _ _ _ _ _) (dsE _ _ _ _ _);rw[k.1,k.2.1,k.2.2];exact adY h.m
   ·show Rw _ (dsC _ _ _ _ _);rw[k.1];exact r.1
   ·show Rw _ (dsU _ _ _ _ _);rw[k.2.1];exact r.2.1
   ·show Rw _ (dsE _ _ _ _ _);rw[k.2.2];exact r.2.2
   ·exact(Lx (n:=zlI (dsE s.C s.U s.E (j5 s.S a) i)) (a0:=ag (j5 s.S a) i 0) (l0:=1) h.rf (by have:=h.lf;omega)).1
   ·exact OE (n:=zlI (dsE s.C s.U s.E (j5 s.S a) i)) (a:=ag (j5 s.S a) i 0) (l:=1) h.rf h.lf
   ·have:=h.ls;show(delL _ _ _).length<=_;omega
def PN (h:Pi s)(v:qg s.S a i)(k:qg s.S b j)(ne:a≠b):∃ j',qg (f1 me kp mv s a).S b j':=by
 have q:=kL h.g v;have w:=ac1 h.g v k ne;unfold f1;cases c:En me kp mv s.S a with
 |false=>exact⟨j,w⟩
 | true=>
   obtain⟨t,ht,es,hb⟩:=yG h.g v;have e1:j5 s.S a=GV s.S i t:=by unfold j5;rw[q.1,es]
   have l1:(j5 s.S a).length=s.S.length:=by rw[e1];exact uo
   unfold En at c;simp only[Zb,VN]at c;have z:=c.1;rw[q.1]at z ⊢;exact Sv (by rw[l1];exact v.l) z w
end
def fN (me:Bool)(kp mv:Int)(l:af)(s:zw):Nat->zw
 |0=>s
 |n+1=>f1 me kp mv (fN me kp mv l s n) (ag l n 0)
structure Rv (l:af)(i:Nat)(s:zw):Prop where
 fr:Pi s
 q:∀ j:Nat,i<=j->j<l.length->∃ k,qg s.S (ag l j 0) k
def Gv (l:af):Prop:=∀ i j:Nat,i<j->j<l.length->ag l i 0≠ag l j 0
def acU {l:af}{i:Nat}{s:zw}{me:Bool}{kp mv:Int}(d:Gv l)(h:Rv l i s)(hi:i<l.length):Rv l (i+1) (f1 me kp mv s (ag l i 0)):=by
 obtain⟨k,v⟩:=h.q i (Ze _) hi;refine⟨JR h.fr v,fun j j0 j1=>?_⟩;obtain⟨k',v'⟩:=h.q j Uc j1;exact PN h.fr v v' (d i j Uc j1)
def acT {l:af}{s:zw}{me:Bool}{kp mv:Int}(d:Gv l)(h:Rv l 0 s):∀ n:Nat,n<=l.length->Rv l n (fN me kp mv l s n)
 |0,_=>h
 |n+1,hn=>acU d (acT d h n Uc) Uc
def Al {p:Int->Bool}{n:Nat}(h:¬ 0<=da p n){j:Nat}(hj:j<n):p j=false:=by
 unfold da at h;split at h
 ·exact absurd Uc h
 ·rename_i e;have:=List.find?_eq_none.1 e j (List.mem_range.2 hj)
  simpa using this
section
variable {a0 a1 a2: af} {a3: Int} {a4 a5 a6 a7 a8 a9 aA aB: af} {aC: Int} {aD: af} {aE aF aG aH: Int} {aI: Bool} {aJ aK: Int} {aL: af} {aM aN: Int}
def QI {rm:Int}{qs:af}(h:quarOk rm qs=true):Gv qs:=fun i j ij hj e=>by
 unfold quarOk at h;simp only[Zb]at h;have q:=ez.1 h.1 j Uc Uc;unfold QJ stlOk at q;simp only[Zb,Yp]at q;have nq:=q.2.2.2.1;unfold qtB qtI at nq;have l:(qs.take (j:Int).toNat).length=j:=by rw[Zg];omega
 have z:=Al (VR nq) (j:=i) (by rw[l];exact ij);unfold Fg at z;have t:ag (qs.take (j:Int).toNat) i 0=ag qs i 0:=by
  unfold ag;rw[Zm (l:=Yh _ _),Zm (l:=qs),Y5 Uc]
 rw[t,e]at z;unfold eqB at z;exact absurd rfl (VR z)
def Kb {S L:af}{a k:Int}(h:hlB S L a k=true):∃ i,qg S a i:=by
 unfold hlB at h;simp only[Zb,VN]at h;obtain⟨e,q,l,t⟩:=JL h.1;have o:=h.2.1;unfold dnO at o;rw[VO q]at o;have u:=(uC.1 t).2;have hk:=h.1;unfold dnK at hk;rw[VO q]at hk;have hb:hsB (ag S (gE S a) 2) (zt S a (gE S a))=true:=by
  cases c:hsB (ag S (gE S a) 2) (zt S a (gE S a))with
  |true=>rfl
  |false=>rw[c]at hk;simp at hk
 unfold zt saS at hb;rw[VO t]at hb;unfold OR saO at o;rw[VO t]at o;obtain⟨n,en⟩:=ZX q;rw[en]at hb o u l;exact⟨n,Uc,Uc,hb,o⟩
def P6 (hc:kJ a0 a1 a2 a4 a5 a6 a7 a8 a9 aA aB aD aL)(h:hpI a0 a1 a2 a3 a4 a5 a6 a7 a8 a9 aA aB aC aD aE aF aG aH aI aJ aK aL aM aN=true):Pi ⟨a0,a1,a2,a5,a6⟩:=by
 have T:=hY h;have l6:=aS (es:=a6);have c6:=hc.c6;exact⟨(gK T.k).1,hc.r0,hc.r1,hc.r2,hc.r5,hc.r6,by have:=Ls T.r;show a5.length<=65;omega,by show a6.length<=_;omega,LV (Qm T.l)⟩
def P7 (h:hpI a0 a1 a2 a3 a4 a5 a6 a7 a8 a9 aA aB aC aD aE aF aG aH aI aJ aK aL aM aN=true)(j:Nat)(hj:j<aD.length):∃ k,qg a6 (ag aD j 0) k:=by
 have T:=(hY h).h;unfold hoI at T;simp only[Zb]at T;have q:=ez.1 T.2.1 j Uc Uc;unfold Iz qA at q;simp only[Zb]at q;exact Kb q.1
def J7 {l:af}{n j k:Nat}(h:j<n):ag (l.take n) j k=ag l j k:=by
 unfold ag;rw[Zm (l:=Yh _ _),Zm (l:=l),Y5 Uc]
def GL {l:af}{n:Nat}(h:Gv l):Gv (l.take n):=fun i j ij hj=>by
 rw[Zg]at hj;rw[J7 Uc,J7 Uc];exact h i j ij Uc
def ahI (hc:kJ a0 a1 a2 a4 a5 a6 a7 a8 a9 aA aB aD aL)(h:hpI a0 a1 a2 a3 a4 a5 a6 a7 a8 a9 aA aB aC aD aE aF aG aH aI aJ aK aL aM aN=true)(n:Nat):Rv (aD.take n) 0 ⟨a0,a1,a2,a5,a6⟩:=
 ⟨P6 hc h,fun j _ hj=>by
   rw[Zg]at hj;rw[J7 Uc];exact P7 h j Uc⟩
def PV {s:zw}{b13:af}(hc:kJ a0 a1 a2 a4 a5 a6 a7 a8 a9 aA aB aD aL)(h:Pi s)(w:Rw [tI,tI,tI] b13)(l:b13.length<=1073741824):kJ s.C s.U s.E a4 s.F s.S a7 a8 a9 aA aB b13 aL:=by
 have n:=sV h.m h.rc h.ru h.re;have f:au s.F=s.F.length:=h.rf.cnt rfl;have g:au s.S=s.S.length:=h.rs.cnt rfl;have b:au b13=b13.length:=w.cnt rfl;have lf:=h.lf;have ls:=h.ls;exact⟨h.rc,h.ru,h.re,hc.r4,h.rf,h.rs,hc.r7,hc.r8,hc.r9,hc.r10,hc.r11,w,hc.r21,Uc,Uc,Uc,hc.c4,Uc,Uc,hc.c7,hc.c8,hc.c9,hc.c10,hc.c11,Uc,hc.c21⟩
end
end Go.V
namespace Go.V
def snB (p k b s:Int):Bool:=spOk p k b&&hsB b s
def snN (p k b s:Int):Int:=if snB p k b s=true then woN b s else b
def fzC (me:Bool)(kp mv:Int)(c u e f s:af)(a:Int):af:=(f1 me kp mv ⟨c,u,e,f,s⟩ a).C
def fzU (me:Bool)(kp mv:Int)(c u e f s:af)(a:Int):af:=(f1 me kp mv ⟨c,u,e,f,s⟩ a).U
def fzE (me:Bool)(kp mv:Int)(c u e f s:af)(a:Int):af:=(f1 me kp mv ⟨c,u,e,f,s⟩ a).E
def fzF (me:Bool)(kp mv:Int)(c u e f s:af)(a:Int):af:=(f1 me kp mv ⟨c,u,e,f,s⟩ a).F
def fzS (me:Bool)(kp mv:Int)(c u e f s:af)(a:Int):af:=(f1 me kp mv ⟨c,u,e,f,s⟩ a).S
def tkC (me:Bool)(kp mv:Int)(c u e f s l:af):af:=(fN me kp mv l ⟨c,u,e,f,s⟩ l.length).C
def tkU (me:Bool)(kp mv:Int)(c u e f s l:af):af:=(fN me kp mv l ⟨c,u,e,f,s⟩ l.length).U
def tkE (me:Bool)(kp mv:Int)(c u e f s l:af):af:=(fN me kp mv l ⟨c,u,e,f,s⟩ l.length).E
def tkF (me:Bool)(kp mv:Int)(c u e f s l:af):af:=(fN me kp mv l ⟨c,u,e,f,s⟩ l.length).F
def tkS (me:Bool)(kp mv:Int)(c u e f s l:af):af:=(fN me kp mv l ⟨c,u,e,f,s⟩ l.length).S
def lenI (l:af):Int:=l.length
def tgB (k:Bool)(c n ck:Int):Bool:=k&&(decide (c≠100000)&&(inR n 0 1000&&decide (ck+n<=1000000)))
def t0B (k:Bool)(c t:Int)(m:af):Bool:=k&&(decide (c≠100000)&&inR t 0 (m.length-1))
structure Ms (me:Bool)(kp mv:Int)(l:af)(s:zw)(i:Int)(c u e f t:af):Prop where
 c:c=(fN me kp mv l s i.toNat).C
 u:u=(fN me kp mv l s i.toNat).U
 e:e=(fN me kp mv l s i.toNat).E
 f:f=(fN me kp mv l s i.toNat).F
 t:t=(fN me kp mv l s i.toNat).S
section
variable {me: Bool} {kp mv: Int} {l c u e f t c0 u0 e0 f0 t0: af} {s: zw} {i a: Int}
def agp:Ms me kp mv l ⟨c,u,e,f,t⟩ 0 c u e f t:=⟨rfl,rfl,rfl,rfl,rfl⟩
def abB (h:Ms me kp mv l s i c u e f t)(i0:0<=i):Ms me kp mv l s (i+1) (fzC me kp mv c u e f t (ag l i 0)) (fzU me kp mv c u e f t (ag l i 0)) (fzE me kp mv c u e f t (ag l i 0)) (fzF me kp mv c u e f t (ag l i 0)) (fzS me kp mv c u e f t (ag l i 0)):=by
 have n:(i+1).toNat=i.toNat+1:=by omega
 have g:ag l i 0=ag l (i.toNat:Int) 0:=by rw[Zj i0]
 obtain⟨rfl,rfl,rfl,rfl,rfl⟩:=h;refine⟨?_,?_,?_,?_,?_⟩<;>rw[n,g]<;>rfl
def agq (h:Ms me kp mv l s i c u e f t):(⟨c,u,e,f,t⟩:zw)=fN me kp mv l s i.toNat:=by
 obtain⟨rfl,rfl,rfl,rfl,rfl⟩:=h;rfl
def O7 (h:Ms me kp mv l ⟨c0,u0,e0,f0,t0⟩ i c u e f t)(e1:i=l.length):c=tkC me kp mv c0 u0 e0 f0 t0 l/\u=tkU me kp mv c0 u0 e0 f0 t0 l/\e=tkE me kp mv c0 u0 e0 f0 t0 l/\f=tkF me kp mv c0 u0 e0 f0 t0 l/\t=tkS me kp mv c0 u0 e0 f0 t0 l:=by
 obtain⟨rfl,rfl,rfl,rfl,rfl⟩:=h;have n:i.toNat=l.length:=by omega
 rw[n];exact⟨rfl,rfl,rfl,rfl,rfl⟩
def afV {p k b x:Int}(h:spOk p k b=true)(g:hsB b x=true):snB p k b x=true/\snN p k b x=woN b x:=by
 have q:snB p k b x=true:=by unfold snB;rw[h,g];rfl
 exact⟨q,by unfold snN;rw[VO q]⟩
def aj0 {p k b x:Int}(h:spOk p k b=false):snB p k b x=false/\snN p k b x=b:=by
 have q:snB p k b x=false:=by unfold snB;rw[h];rfl
 exact⟨q,by unfold snN;rw[q];rfl⟩
def aj1 {p k b x:Int}(h:hsB b x=false):snB p k b x=false/\snN p k b x=b:=by
 have q:snB p k b x=false:=by unfold snB;rw[h];simp
 exact⟨q,by unfold snN;rw[q];rfl⟩
end
def wN {l:af}{i:Int}(i0:0<=i)(i1:i<=l.length):mV l i.toNat (zn (l.length:Int) i)=l.drop i.toNat:=by
 unfold mV zn;exact Yg (by rw[Zq];omega)
def qv {l:af}{i:Int}:mV l (YG 0) (zn i 0)=l.take i.toNat:=by
 unfold mV zn;rw[show YG 0=0 from rfl,List.drop_zero,Nat.sub_zero]
def QV {fs:List Ty}{l:af}{a b:Nat}(h:Rw fs l):Rw fs (mV l a b)/\(mV l a b).length<=l.length:=by
 have q:(mV l a b).length<=l.length:=by unfold mV;rw[Zg,Zq];omega
 exact⟨⟨ZH q h.1,fun e he=>h.2 e (Yq (Y4 he))⟩,q⟩
def afx {rm i:Int}{qs:af}(h:quarOk rm qs=true)(w:Rw [tI,tI,tI] qs)(i0:0<=i)(i1:i<qs.length):0<=ag qs i 2/\ag qs i 2<=9223372036854775807:=by
 unfold quarOk at h;simp only[Zb]at h;have q:=ez.1 h.1 i i0 i1;unfold QJ stlOk at q;simp only[Zb,VN]at q;exact⟨q.2.2.1,(As w (j:=2) rfl Uc).2⟩
section
variable {rm now age: Int} {qs: af}
def ajI (h:quarOk rm qs=false):Hs rm qs now age=false:=by unfold Hs;rw[h];rfl
def ajJ (h:inR now 0 1000000=false):Hs rm qs now age=false:=by unfold Hs;rw[h];simp
def ajK (h:inR age 0 1000000=false):Hs rm qs now age=false:=by unfold Hs;rw[h];simp
def afq (h:quarOk rm qs=true)(g:inR now 0 1000000=true)(k:inR age 0 1000000=true):Hs rm qs now age=true:=by unfold Hs;rw[h,g,k];rfl
end
end Go.V
namespace Go.V
section
variable {S L: af} {a: Int} {i: Nat}
def Fy (g:rR S)(h:qg S a i):dnK S L a=1/\dnI S L a=i/\dnS S a=zt S a i:=by
 have q:=kL g h;have n:(0:Int)<=gE S a:=by rw[q.1];omega
 have b:=h.b;rw[<-q.2.2]at b;refine⟨?_,?_,?_⟩
 ·unfold dnK;rw[VO n,q.1,b];rfl
 ·unfold dnI;rw[VO n,q.1]
 ·unfold dnS;rw[VO n,q.1]
def Bv (g:rR S)(h:qg S a i):0<=a/\a<=511/\0<=ag S i 0/\ag S i 0<=31:=by
 have t:=(uC.1 (Ql g h)).2;have p:=mU (g.s i h.l);omega
def acH (w:Rw [tI,tI,tI] S)(g:rR S)(h:qg S a i):
 jL (.s 3 S) [((i:Int).toNat,0)] [.i (ag S i 0),.i (ag S i 1),.i (snN (ag S i 0) (ag S i 1) (ag S i 2) (zt S a i))]=j5 S a:=by
 obtain⟨t,ht,es,hb⟩:=yG g h;have q:=kL g h;have n:=afV (p:=ag S i 0) (k:=ag S i 1) (g.s i h.l) hb;have hl:=h.l;rw[es,n.2];unfold j5;rw[q.1,es];unfold GV;exact eK (by rw[w.eta Uc Uc];rfl)
def GT (g:rR S)(h:qg S a i):ag (j5 S a) i 0=ag S i 0/\(j5 S a).length=S.length:=by
 obtain⟨t,ht,es,hb⟩:=yG g h;have q:=kL g h;have e1:j5 S a=GV S i t:=by unfold j5;rw[q.1,es]
 rw[e1];exact⟨(C9 h.l t i Uc).1,uo⟩
def PO (w:Rw [tI,tI,tI] S)(g:rR S)(h:qg S a i):Rw [tI,tI,tI] (j5 S a):=by
 obtain⟨t,ht,es,hb⟩:=yG g h;have q:=kL g h;have e1:j5 S a=GV S i t:=by unfold j5;rw[q.1,es]
 rw[e1];exact P0 w g h.l ht
end
section
variable {me: Bool} {kp mv: Int} {c u e f t: af} {a: Int} {i: Nat}
def acG (g:rR t)(h:qg t a i)(z:ag (j5 t a) i 2=0)(n:bsB me kp mv (ag (j5 t a) i 0)=false):En me kp mv t a=true:=by
 unfold En;rw[(kL g h).1,VL z,n];rfl
def acE (g:rR t)(h:qg t a i)(z:ag (j5 t a) i 2≠0):En me kp mv t a=false:=by
 unfold En;rw[(kL g h).1,VM z];rfl
def acF (g:rR t)(h:qg t a i)(n:bsB me kp mv (ag (j5 t a) i 0)=true):En me kp mv t a=false:=by
 unfold En;rw[(kL g h).1,n];simp
def ahM (g:rR t)(h:qg t a i)(b:En me kp mv t a=true):fzC me kp mv c u e f t a=dsC c u e (j5 t a) i/\fzU me kp mv c u e f t a=dsU c u e (j5 t a) i/\fzE me kp mv c u e f t a=dsE c u e (j5 t a) i/\fzF me kp mv c u e f t a=dsF c u e f (j5 t a) i/\fzS me kp mv c u e f t a=dsS (j5 t a) i:=by
 unfold fzC fzU fzE fzF fzS f1;rw[(kL g h).1];simp only[b];exact⟨rfl,rfl,rfl,rfl,rfl⟩
def ac3 (b:En me kp mv t a=false):fzC me kp mv c u e f t a=c/\fzU me kp mv c u e f t a=u/\fzE me kp mv c u e f t a=e/\fzF me kp mv c u e f t a=f/\fzS me kp mv c u e f t a=j5 t a:=by
 unfold fzC fzU fzE fzF fzS f1;simp only[b];exact⟨rfl,rfl,rfl,rfl,rfl⟩
end
section
variable {a0 a1 a2 a4 a5 a6 a7 a8 a9 aA aB aD aL: af} {a: Int} {i: Nat}
def ac5 (hc:kJ a0 a1 a2 a4 a5 a6 a7 a8 a9 aA aB aD aL)(g:rR a6)(h:qg a6 a i):kJ a0 a1 a2 a4 a5 (j5 a6 a) a7 a8 a9 aA aB aD aL:=by
 have w:=PO hc.r6 g h;have c:au (j5 a6 a)=(j5 a6 a).length:=w.cnt rfl;have c6:au a6=a6.length:=hc.r6.cnt rfl;have l:=(GT g h).2;have k:=hc.c6;exact⟨hc.r0,hc.r1,hc.r2,hc.r4,hc.r5,w,hc.r7,hc.r8,hc.r9,hc.r10,hc.r11,hc.r13,hc.r21,hc.c0,hc.c1,hc.c2,hc.c4,hc.c5,Uc,hc.c7,hc.c8,hc.c9,hc.c10,hc.c11,hc.c13,hc.c21⟩
end
end Go.V
namespace Go.V
def ckN (ck n:Int):Int:=ck+n
section
variable {k: Bool} {c n ck t: Int} {m: af}
def aka (h:k=false):tgB k c n ck=false:=by unfold tgB;rw[h];rfl
def akb (h:c=100000):tgB k c n ck=false:=by unfold tgB;rw[VM (p:=c≠100000) (fun g=>g h)];simp
def akc (h:inR n 0 1000=false):tgB k c n ck=false:=by unfold tgB;rw[h];simp
def akd (h:1000000<ck+n):tgB k c n ck=false:=by unfold tgB;rw[VM (p:=ck+n<=1000000) Uc];simp
def ake (h:k=true)(g:c≠100000)(i:inR n 0 1000=true)(j:ck+n<=1000000):tgB k c n ck=true:=by unfold tgB;rw[h,VL g,i,VL j];rfl
def Rb (h:t0B k c t m=true):k=true/\c≠100000/\inR t 0 (m.length-1)=true:=by
 unfold t0B at h;simp only[Zb,VN]at h;exact h
end
section
variable {a0 a1 a2: af} {a3: Int} {a4 a5 a6 a7 a8 a9 aA aB: af} {aC: Int} {aD: af} {aE aF aG aH: Int} {aI: Bool} {aJ aK: Int} {aL: af} {aM aN: Int} {n i: Int} {c u e f t: af}
structure TiT (aC:Int)(aD:af)(aF n:Int)(s:zw):Prop where
 b:Hs aC aD (ckN aF n) 100=true
 d:Gv (qeR aC aD (ckN aF n) 100)
 q:Rv (qeR aC aD (ckN aF n) 100) 0 s
 w:Rw [tI,tI,tI] (qeL aC aD (ckN aF n) 100)
 l:(qeL aC aD (ckN aF n) 100).length<=aD.length
 m:(qeR aC aD (ckN aF n) 100).length<=aD.length
 r:Rw [tI,tI,tI] (qeR aC aD (ckN aF n) 100)
def abv (hc:kJ a0 a1 a2 a4 a5 a6 a7 a8 a9 aA aB aD aL)(h:hpI a0 a1 a2 a3 a4 a5 a6 a7 a8 a9 aA aB aC aD aE aF aG aH aI aJ aK aL aM aN=true)(n0:0<=n)(n1:aF+n<=1000000):TiT aC aD aF n ⟨a0,a1,a2,a5,a6⟩:=by
 have T:=hY h;have r:=ay.1 T.t;have b:Hs aC aD (ckN aF n) 100=true:=afq T.q (ay.2 ⟨by unfold ckN;omega,by unfold ckN;omega⟩) (by decide);have z:=afs b;refine⟨b,?_,?_,?_,?_,?_,by rw[z.2];exact hc.r13.take _⟩
 ·rw[z.2];exact GL (QI T.q)
 ·rw[z.2];exact ahI hc h _
 ·rw[z.1];exact hc.r13.drop _
 ·rw[z.1,Zq];omega
 ·rw[z.2,Zg];omega
def abA (hc:kJ a0 a1 a2 a4 a5 a6 a7 a8 a9 aA aB aD aL)(h:hpI a0 a1 a2 a3 a4 a5 a6 a7 a8 a9 aA aB aC aD aE aF aG aH aI aJ aK aL aM aN=true)(hn:a3≠100000)(T:TiT aC aD aF n ⟨a0,a1,a2,a5,a6⟩) 
 (P:Ms aI aJ aK (qeR aC aD (ckN aF n) 100) ⟨a0,a1,a2,a5,a6⟩ i c u e f t) (i0:0<=i) (i1:i<(qeR aC aD (ckN aF n) 100).length):
 kJ c u e a4 f t a7 a8 a9 aA aB (qeL aC aD (ckN aF n) 100) aL/\kerOk c u e a3 a4=true/\a3≠100000/\f.length<=65/\rR t/\∃ k,qg t (ag (qeR aC aD (ckN aF n) 100) i 0) k:=by
 have I:=acT (me:=aI) (kp:=aJ) (mv:=aK) T.d T.q i.toNat Uc;rw[<-agq P]at I;have k:=gK (hY h).k;have l13:aD.length=au aD:=(hc.r13.cnt rfl).symm;have c13:=hc.c13;have tl:=T.l;have H:=PV hc I.fr T.w Uc;obtain⟨j,v⟩:=I.q i.toNat (Ze _) Uc;rw[Zj i0]at v;exact⟨H,xZ I.fr.m k.2.1 k.2.2.1 k.2.2.2,hn,I.fr.lf,I.fr.g,j,v⟩
end
end Go.V
namespace Go.V
def nsd (s:Int):Int:=(1103515245*s+12345)%1073741824
def nxS (s:Int):Int:=if inR s 0 1073741823=true then nsd s else 0
def JJ (s n:Int):Bool:=inR s 0 1073741823&&inR n 1 1000
def cuI (s n:Int):Int:=if JJ s n=true then nsd s/1024%n else 0
def cuS (s n:Int):Int:=if JJ s n=true then nsd s else s
def KZ {s:Int}:0<=nsd s/\nsd s<=1073741823:=by unfold nsd;omega
def aju {s:Int}(h:inR s 0 1073741823=true):nxS s=bQ .rem Za (bQ .add Za (bQ .mul Za 1103515245 s) 12345) 1073741824:=by
 have q:=ay.1 h;unfold nxS;rw[VO h,ux Uc,b8 Uc,yp Uc];rfl
def ajt {s:Int}(h:inR s 0 1073741823=false):nxS s=0:=by unfold nxS;rw[h];rfl
def acw {s n:Int}(h1:inR s 0 1073741823=true)(h2:inR n 1 1000=true):cuI s n=bQ .rem Za (bQ .quo Za (nxS s) 1024) n/\cuS s n=nxS s:=by
 have q:=ay.1 h2;have e:nxS s=nsd s:=by unfold nxS;rw[VO h1]
 have r:=KZ (s:=s);have b:JJ s n=true:=by unfold JJ;rw[h1,h2];rfl
 unfold cuI cuS;rw[VO b,VO b,e,vF Uc Uc Uc,yp Uc];exact⟨rfl,rfl⟩
def Ng {s n:Int}(h:JJ s n=false):cuI s n=0/\cuS s n=s:=by unfold cuI cuS;rw[h];exact⟨rfl,rfl⟩
def acs {s n:Int}(h:inR s 0 1073741823=false):JJ s n=false:=by unfold JJ;rw[h];rfl
def acu {s n:Int}(h:inR n 1 1000=false):JJ s n=false:=by unfold JJ;rw[h,Yc]
def CW {s n:Int}(h1:inR s 0 1073741823=true)(n1:1<=n)(n2:n<=1000):0<=cuI s n/\cuI s n<n/\inR (cuS s n) 0 1073741823=true:=by
 have b:JJ s n=true:=by unfold JJ;rw[h1,ay.2 ⟨n1,n2⟩];rfl
 have r:=KZ (s:=s);unfold cuI cuS;rw[VO b,VO b];exact⟨XM _ Uc,XN _ Uc,ay.2 r⟩
def I7 (s n:Int):Bool:=inR s 0 1073741823&&inR n 0 64
def I1:Nat->af
 |0=>[]
 |n+1=>I1 n++[[.i (n:Int)]]
def jS:∀ {n:Nat},(I1 n).length=n
 |0=>rfl
 |n+1=>by simp[I1,jS (n:=n)]
def Q9 (es:af)(i j:Int):af:=(es.set i.toNat [.i (ag es j 0)]).set j.toNat [.i (ag es i 0)]
def BX {es:af}{i j:Int}:(Q9 es i j).length=es.length:=by unfold Q9;simp
def LN:Nat->af->Int->af
 |0,es,_=>es
 |k+1,es,s=>LN k (Q9 es ((k:Int)+1) (cuI s ((k:Int)+2))) (cuS s ((k:Int)+2))
def shS:Nat->Int->Int
 |0,s=>s
 |k+1,s=>shS k (cuS s ((k:Int)+2))
def shuL (s n:Int):af:=if I7 s n=true then LN (n-1).toNat (I1 n.toNat) s else[]
def shuS (s n:Int):Int:=if I7 s n=true then shS (n-1).toNat s else s
def LO {s n:Int}(h:I7 s n=false):shuL s n=[]/\shuS s n=s:=by unfold shuL shuS;rw[h];exact⟨rfl,rfl⟩
def afP {s n:Int}(h:inR s 0 1073741823=false):I7 s n=false:=by unfold I7;rw[h];rfl
def afQ {s n:Int}(h:inR n 0 64=false):I7 s n=false:=by unfold I7;rw[h,Yc]
def ON {s n:Int}(h1:inR s 0 1073741823=true)(h2:inR n 0 64=true):I7 s n=true:=by unfold I7;rw[h1,h2];rfl
structure RA (i:Int)(o:af):Prop where
 e:o=I1 i.toNat
def adA:RA 0 []:=⟨rfl⟩
def TD {i:Int}{o:af}(h:RA i o)(i0:0<=i):RA (i+1) (o++[[.i i]]):=⟨by
 have e:(i+1).toNat=i.toNat+1:=by omega
 rw[e,h.e];simp only[I1];rw[Zj i0]⟩
def GZ {i:Int}{o:af}(h:RA i o)(i0:0<=i):(o.length:Int)=i:=by rw[h.e,jS];omega
def Ff:∀ {n:Nat},n<=64->Rw [tI] (I1 n)
 |0,_=>Rw.nil
 |n+1,h=>Rw.append (Ff (n:=n) Uc) (Rw.one (show bV [tI] [.i (n:Int)]from⟨⟨rfl,(show-9223372036854775808<=(n:Int)/\(n:Int)<=9223372036854775807 by omega)⟩,trivial⟩)) (by rw[jS];unfold maxLen;simp only[Zi,Zk];omega)
structure RO (n s0 i:Int)(o:af)(s:Int):Prop where
 r:Rw [tI] o
 l:(o.length:Int)=n
 k:inR s 0 1073741823=true
 e:LN i.toNat o s=LN (n-1).toNat (I1 n.toNat) s0
 f:shS i.toNat s=shS (n-1).toNat s0
def afS {n s i:Int}{o:af}(h:RA i o)(i0:0<=i)(e:i=n)(n1:n<=64)(hk:inR s 0 1073741823=true):RO n s (n-1) o s:=by
 subst e;exact⟨by rw[h.e];exact Ff Uc,GZ h i0,hk,by rw[h.e],rfl⟩
def Ra {es:af}{i j:Int}(h:Rw [tI] es)(i0:0<=i)(i1:i<es.length)(j0:0<=j)(j1:j<es.length):Rw [tI] (Q9 es i j):=by
 have a:=Bl h i0 i1;have b:=Bl h j0 j1;unfold Q9;exact Rw.set (Rw.set h (show bV [tI] [.i (ag es j 0)]from⟨⟨rfl,b⟩,trivial⟩) _) (show bV [tI] [.i (ag es i 0)]from⟨⟨rfl,a⟩,trivial⟩) _
def abH {l:af}{i x:Int}(h:Rw [tI] l)(h0:0<=i)(h1:i<l.length):jL (.s 1 l) [(i.toNat,0)] [.i x]=l.set i.toNat [.i x]:=eK (by rw[h.wid Uc];rfl)
def agd {l:af}{i j:Int}(h:Rw [tI] l)(i0:0<=i)(i1:i<l.length)(j0:0<=j)(j1:j<l.length):jL (.s 1 (jL (.s 1 l) [(i.toNat,0)] [.i (zq (.s 1 l) [(j.toNat,0)])])) [(j.toNat,0)] [.i (zq (.s 1 l) [(i.toNat,0)])]=Q9 l i j:=by
 have b:=Bl h j0 j1;rw[pP i0,pP j0,abH h i0 i1,abH (Rw.set h (show bV [tI] [.i (ag l j 0)]from⟨⟨rfl,b⟩,trivial⟩) _) j0 (by rw[Zw];exact j1)];rfl
def abu {l:af}{i j:Int}(h:Rw [tI] l)(i0:0<=i)(i1:i<l.length)(j0:0<=j)(j1:j<l.length):∃ rec o',bZ (.s 1 (jL (.s 1 l) [(i.toNat,0)] [.i (zq (.s 1 l) [(j.toNat,0)])])) [(j.toNat,0)]=some (rec,o')/\o'+1<=rec.length:=by
 have b:=Bl h j0 j1;rw[pP j0,abH h i0 i1];exact J4 (Rw.set h (show bV [tI] [.i (ag l j 0)]from⟨⟨rfl,b⟩,trivial⟩) _) j0 (by rw[Zw];exact j1)
def F2 {a b:af}{x y:Int}(h:a=b)(k:x=y):[DV.one (.s 1 a),DV.j x]=[DV.one (.s 1 b),DV.j y]:=by rw[h,k]
def abk {n s0 i s:Int}{o:af}(h:RO n s0 i o s)(i0:1<=i)(i1:i<n)(n1:n<=64):RO n s0 (i-1) (Q9 o i (cuI s (i+1))) (cuS s (i+1)):=by
 have q:=CW (n:=i+1) h.k Uc Uc;have e:i.toNat=(i-1).toNat+1:=by omega
 have e2:(((i-1).toNat:Nat):Int)+1=i:=by omega
 have e3:(((i-1).toNat:Nat):Int)+2=i+1:=by omega
 have a:=h.e;have b:=h.f;rw[e]at a b;simp only[LN,shS,e2,e3]at a b;have l:=h.l;exact⟨Ra h.r Uc Uc q.1 Uc,by rw[BX];exact l,q.2.2,a,b⟩
def OP {n s0 i s:Int}{o:af}(h:RO n s0 i o s)(i0:i<1)(k:I7 s0 n=true):o=shuL s0 n/\s=shuS s0 n:=by
 have e:i.toNat=0:=by omega
 have a:=h.e;have b:=h.f;rw[e]at a b;unfold shuL shuS;rw[VO k,VO k];exact⟨a,b⟩
end Go.V
namespace Go.V
def ppB (p k b q l c:Int):Bool:=decide ((sclL p k b).length<(sclL q l c).length)
def ppK (p k b q l c:Int):Int:=if mshB p k b q l c=true then(if ppB p k b q l c=true then q else p)else 0
def ppM (p k b q l c:Int):Int:=if mshB p k b q l c=true then(if ppB p k b q l c=true then p else q)else 0
def ppC (p k b q l c:Int):af:=if mshB p k b q l c=true then(if ppB p k b q l c=true then sclL p k b else sclL q l c)else[]
def ajF {p k b q l c:Int}(h:mshB p k b q l c=false):ppK p k b q l c=0/\ppM p k b q l c=0/\ppC p k b q l c=[]:=by unfold ppK ppM ppC;rw[h];exact⟨rfl,rfl,rfl⟩
def ajD {p k b q l c:Int}(h:mshB p k b q l c=true)(g:(sclL p k b).length<(sclL q l c).length):ppK p k b q l c=q/\ppM p k b q l c=p/\ppC p k b q l c=sclL p k b:=by
 have g':ppB p k b q l c=true:=VL g;unfold ppK ppM ppC;rw[h,g'];exact⟨rfl,rfl,rfl⟩
def ajE {p k b q l c:Int}(h:mshB p k b q l c=true)(g:¬ (sclL p k b).length<(sclL q l c).length):ppK p k b q l c=p/\ppM p k b q l c=q/\ppC p k b q l c=sclL q l c:=by
 have g':ppB p k b q l c=false:=VM g;unfold ppK ppM ppC;rw[h,g'];exact⟨rfl,rfl,rfl⟩
def FR {x y x' y':Int}{r r':af}{b b':Bool}(h1:x=x')(h2:y=y')(h3:r=r')(h4:b=b'):[DV.agg [.i x,.i y,.s 1 r],DV.k b]=[DV.agg [.i x',.i y',.s 1 r'],DV.k b']:=by rw[h1,h2,h3,h4]
def Ks {x y z w x' y' z' w':Int}{r r':af}{b b':Bool}(h1:x=x')(h2:y=y')(h3:r=r')(h4:z=z')(h5:w=w')(h6:b=b'):[DV.agg [.i x,.i y,.s 1 r,.i z,.i w],DV.k b]=[DV.agg [.i x',.i y',.s 1 r',.i z',.i w'],DV.k b']:=by rw[h1,h2,h3,h4,h5,h6]
def tnH (es:af)(x i:Int):Bool:=decide (ag es i 0=x)||decide (ag es i 1=x)
def tnI (es:af)(x:Int):Int:=da (tnH es x) es.length
def tnB (es:af)(x:Int):Bool:=decide (0<=tnI es x)
def tnP (a b x:Int):Bool:=decide (a=x)||decide (b=x)
def agr {a b x:Int}(h:a=x):tnP a b x=true:=by unfold tnP;rw[VL h];rfl
def ags {a b x:Int}(h:¬ a=x):tnP a b x=du .eql b x:=by unfold tnP;rw[VM h];rfl
def aix {k m:Int}{cs:af}(h:plOk k m cs=true):ifZ (plOk k m cs) k=k/\ifZ (plOk k m cs) m=m/\ifR (plOk k m cs) cs []=cs:=by rw[h];exact⟨rfl,rfl,rfl⟩
def aiw {k m:Int}{cs:af}(h:plOk k m cs=false):ifZ (plOk k m cs) k=0/\ifZ (plOk k m cs) m=0/\ifR (plOk k m cs) cs []=[]:=by rw[h];exact⟨rfl,rfl,rfl⟩
end Go.V
namespace Go.V
def Sw {x:af}{a:Int}(h:Rw [.sl [tI]] x)(h0:0<=a)(h1:a<x.length):jL (.s 1 x) [(a.toNat,0)] [.g]=x.set a.toNat [.g]:=eK (by rw[h.eta h0 h1];rfl)
def aht {x r:af}{a:Int}(h:Rw [.sl [tI]] x)(h0:0<=a)(h1:a<x.length):jL (.s 1 (jL (.s 1 x) [(a.toNat,0)] [.g])) [(a.toNat,0)] [.s 1 r]=x.set a.toNat [.s 1 r]:=by
 rw[Sw h h0 h1,eK (by rw[Zm,Xj Uc];rfl),Wl]
def SB {x:af}{a:Int}(h:Rw [.sl [tI]] x)(h0:0<=a)(h1:a<x.length):(jL (.s 1 x) [(a.toNat,0)] [.g]).length=x.length:=by rw[Sw h h0 h1,Zw]
def SA {x:af}{a:Int}(h:Rw [.sl [tI]] x)(h0:0<=a)(h1:a<x.length):∃ rec o,bZ (.s 1 (jL (.s 1 x) [(a.toNat,0)] [.g])) [(a.toNat,0)]=some (rec,o)/\o+1<=rec.length:=by
 rw[Sw h h0 h1];exact fC (by rw[Zw];omega) (by rw[Zm,Xj Uc];exact Ze _)
def PH {l:L}{p:List (Nat×Nat)}{k:Nat}{es:af}(h:gB l p=some (k,es)):gB l p=some (k,nD l p):=by unfold nD;rw[h]
def ahs {x:af}{a:Int}{r:af}(h:Rw [.sl [tI]] x)(h0:0<=a)(h1:a<x.length)(hc:au x<=1073741824)(hr:r.length=1):gB (.s 1 x) [(a.toNat,0)]=some (1,nD (.s 1 x) [(a.toNat,0)])/\bM (nD (.s 1 x) [(a.toNat,0)])/\((nD (.s 1 x) [(a.toNat,0)]).length+r.length)*8<=70368744177664/\(nD (.s 1 x) [(a.toNat,0)]).length+r.length<=70368744177664:=by
 obtain⟨es,e⟩:=pC h h0 h1;have g:=jG (es:=x) (i:=a) (j:=0);have l:(aU x a 0).length<=au (aU x a 0):=by unfold au;omega
 refine⟨PH e,?_,?_⟩
 ·rw[hH];exact(Rw.sub (fs:=[.sl [tI]]) (j:=0) (i:=a) h Uc rfl).scal rfl
 ·rw[hH];constructor<;>omega
end Go.V
namespace Go.V
def Gw (n:Int)(es:af):Prop:=∀ j:Nat,j<es.length->0<=ag es (j:Int) 0/\ag es (j:Int) 0<n
def ac4 {es:af}{i j:Nat}{x:Int}(hj:j<es.length):ag (es.set i [.i x]) (j:Int) 0=if i=j then x else ag es (j:Int) 0:=by
 unfold ag;simp only[ZJ,Zm];by_cases c:i=j
 ·subst c;rw[VO rfl,Xj hj];rfl
 ·rw[VP c,List.getElem?_set_ne c]
def Gw.st {n x:Int}{es:af}{i:Nat}(h:Gw n es)(x0:0<=x)(x1:x<n):Gw n (es.set i [.i x]):=fun j hj=>by
 rw[Zw]at hj;rw[ac4 hj];split;exact⟨x0,x1⟩;exact h j hj
def Gw.at {n i:Int}{es:af}(h:Gw n es)(i0:0<=i)(i1:i<es.length):0<=ag es i 0/\ag es i 0<n:=by
 have:=h i.toNat Uc;rw[Zj i0]at this;exact this
def Gw.sw {n i j:Int}{es:af}(h:Gw n es)(i0:0<=i)(i1:i<es.length)(j0:0<=j)(j1:j<es.length):Gw n (Q9 es i j):=by
 have a:=h.at i0 i1;have b:=h.at j0 j1;exact(h.st b.1 b.2).st a.1 a.2
def xQ {a:af}{r:aT}{n j:Nat}(h:n<a.length):ag (a++[r]) (n:Int) j=ag a (n:Int) j:=by
 unfold ag;simp only[ZJ,Zm];rw[ZQ h]
def Ar {a:af}{r:aT}{j:Nat}:ag (a++[r]) (a.length:Int) j=Mv (r.getD j .g):=by
 unfold ag;simp only[ZJ,Zm];rw[ZO (Ze _),Nat.sub_self];rfl
def Ko:∀ {n:Nat} {m:Int},(n:Int)<=m->Gw m (I1 n)
 |0,_,_=>fun j hj=>absurd hj (by simp[I1])
 | n+1,m,h=>fun j hj=>by
   rw[jS]at hj;simp only[I1];by_cases c:j<n
   ·rw[xQ (by rw[jS];exact c)];exact Ko (n:=n) (m:=m) Uc j (by rw[jS];exact c)
   ·have e:j=n:=by omega
    subst e;have q:=Ar (a:=I1 j) (r:=[L.i (j:Int)]) (j:=0);rw[jS]at q;rw[q];show 0<=(j:Int)/\(j:Int)<m;omega
def Q2 {n:Int}(n1:n<=64):∀ {k:Nat} {es:af} {s:Int},Gw n es->(es.length:Int)=n->(k:Int)<n->inR s 0 1073741823=true->Gw n (LN k es s)
 |0,es,s,h,_,_,_=>h
 | k+1,es,s,h,hl,hk,hs=>by
   simp only[LN];have q:=CW (n:=(k:Int)+2) hs Uc Uc;exact Q2 n1 (h.sw Uc Uc q.1 Uc) (by rw[BX];exact hl) Uc q.2.2
def HG:∀ {k:Nat} {es:af} {s:Int},(LN k es s).length=es.length
 |0,_,_=>rfl
 |k+1,es,s=>by simp only[LN];rw[HG,BX]
def HI {s n:Int}(h1:inR s 0 1073741823=true)(h2:inR n 0 64=true):((shuL s n).length:Int)=n:=by
 have q:=ay.1 h2;unfold shuL;rw[VO (ON h1 h2),HG,jS];omega
def LP {s n:Int}(h1:inR s 0 1073741823=true)(h2:inR n 0 64=true):Gw n (shuL s n):=by
 have q:=ay.1 h2;unfold shuL;rw[VO (ON h1 h2)];by_cases c:n=0
 ·subst c;exact Ko (n:=0) Uc
 ·exact Q2 q.2 (Ko Uc) (by rw[jS];omega) Uc h1
def Q3 {n:Int}(n1:n<=64):∀ {k:Nat} {es:af} {s:Int},Rw [tI] es->(es.length:Int)=n->(k:Int)<n->inR s 0 1073741823=true->Rw [tI] (LN k es s)
 |0,es,s,h,_,_,_=>h
 | k+1,es,s,h,hl,hk,hs=>by
   simp only[LN];have q:=CW (n:=(k:Int)+2) hs Uc Uc;exact Q3 n1 (Ra h Uc Uc q.1 Uc) (by rw[BX];exact hl) Uc q.2.2
def abl {s n:Int}:Rw [tI] (shuL s n):=by
 cases b:I7 s n with
 |false=>rw[(LO b).1];exact Rw.nil
 | true=>
   unfold I7 at b;rw[Zb]at b;have q:=ay.1 b.2;unfold shuL;rw[VO (ON b.1 b.2)];by_cases c:n=0
   ·subst c;exact Rw.nil
   ·exact Q3 q.2 (Ff Uc) (by rw[jS];omega) Uc b.1
def spM (sp:af)(a b:Int):Bool:=mshB (ag sp a 0) (ag sp a 1) (ag sp a 2) (ag sp b 0) (ag sp b 1) (ag sp b 2)
def IF (od:af)(h p i:Int):Int:=ag od (h+(i+p)%(od.length-h)) 0
def LX (sp od:af)(h p i:Int)(o:af):Bool:= !tnB o (ag od i 0)&&(!tnB o (IF od h p i)&&spM sp (ag od i 0) (IF od h p i))
def sp1 (sp od:af)(h p i:Int)(o:af):af:=if LX sp od h p i o=true then o++[[.i (ag od i 0),.i (IF od h p i)]]else o
def yJ (sp od:af)(h p:Int):Nat->af->af
 |0,o=>o
 |i+1,o=>sp1 sp od h p (i:Int) (yJ sp od h p i o)
def Q7 (sp od:af)(h:Int):Nat->af
 |0=>[]
 |p+1=>yJ sp od h (p:Int) h.toNat (Q7 sp od h p)
def IG (sp:af)(s k:Int):Bool:=decide ((sp.length:Int)<=16)&&(inR k 0 16&&inR s 0 1073741823)
def sqL (sp:af)(s k:Int):af:=if IG sp s k=true then Q7 sp (shuL s sp.length) ((sp.length:Int)/2) k.toNat else[]
def sqS (sp:af)(s k:Int):Int:=if IG sp s k=true then shuS s sp.length else s
def IH {sp:af}{s k:Int}(h:IG sp s k=false):sqL sp s k=[]/\sqS sp s k=s:=by unfold sqL sqS;rw[h];exact⟨rfl,rfl⟩
def af1 {sp:af}{s k:Int}(h:(16:Int)<sp.length):IG sp s k=false:=by unfold IG;rw[VM Uc];rfl
def af2 {sp:af}{s k:Int}(h:inR k 0 16=false):IG sp s k=false:=by unfold IG;rw[h];simp
def af3 {sp:af}{s k:Int}(h:inR s 0 1073741823=false):IG sp s k=false:=by unfold IG;rw[h];simp
def aj3 {sp:af}{s k:Int}(h1:(sp.length:Int)<=16)(h2:inR k 0 16=true)(h3:inR s 0 1073741823=true):IG sp s k=true:=by unfold IG;rw[VL h1,h2,h3];rfl
end Go.V
namespace Go.V
structure UsP (n:Int)(o u:af):Prop where
 r:Rw [tB] u
 l:(u.length:Int)=n
 e:∀ x:Int,0<=x->x<n->qi u x 0=tnB o x
structure ML (sp od:af)(h p:Int)(o:af):Prop where
 e:o=Q7 sp od h p.toNat
 r:Rw [tI,tI] o
 l:(o.length:Int)<=h*p
structure MJ (sp od:af)(h p i:Int)(o q:af):Prop where
 e:q=yJ sp od h p i.toNat o
 r:Rw [tI,tI] q
 l:(q.length:Int)<=o.length+i
section
variable {sp od o q: af} {h p i: Int}
def afW:ML sp od h 0 []:=⟨rfl,Rw.nil,by simp⟩
def afU (g:ML sp od h p o):MJ sp od h p 0 o o:=⟨rfl,g.r,Uc⟩
def F8 (g:MJ sp od h p i o q)(i0:0<=i)(t:LX sp od h p i q=false):MJ sp od h p (i+1) o q:=by
 have e:(i+1).toNat=i.toNat+1:=by omega
 refine⟨?_,g.r,by have:=g.l;omega⟩;rw[e];simp only[yJ];rw[<-g.e,Zj i0];unfold sp1;rw[t];rfl
def OQ (g:MJ sp od h p i o q)(i0:0<=i)(t:LX sp od h p i q=true)(a0: -9223372036854775808<=ag od i 0/\ag od i 0<=9223372036854775807)(b0: -9223372036854775808<=IF od h p i/\IF od h p i<=9223372036854775807)(hl:(q.length:Int)<=1048576):MJ sp od h p (i+1) o (q++[[.i (ag od i 0),.i (IF od h p i)]]):=by
 have e:(i+1).toNat=i.toNat+1:=by omega
 refine⟨?_,Rw.append g.r (Rw.one (show bV [tI,tI] [.i (ag od i 0),.i (IF od h p i)]from⟨⟨rfl,a0⟩,⟨rfl,b0⟩,trivial⟩)) (by unfold maxLen;simp only[Zi,Zk];omega),by have:=g.l;simp only[Zf,Zi,Zk];omega⟩;rw[e];simp only[yJ];rw[<-g.e,Zj i0];unfold sp1;rw[VO t]
def abm (g:ML sp od h p o)(f:MJ sp od h p i o q)(p0:0<=p)(h0:0<=h)(i1:i=h):ML sp od h (p+1) q:=by
 have e:(p+1).toNat=p.toNat+1:=by omega
 subst i1;refine⟨?_,f.r,?_⟩
 ·rw[e];simp only[Q7];rw[<-g.e,Zj p0];exact f.e
 ·have a:=f.l;have b:=g.l;rw[Int.mul_add];omega
def OS {s k:Int}(g:ML sp (shuL s sp.length) ((sp.length:Int)/2) p o)(e:p=k)(b:IG sp s k=true):o=sqL sp s k/\shuS s sp.length=sqS sp s k:=by
 subst e;unfold sqL sqS;rw[VO b,VO b];exact⟨g.e,rfl⟩
def wM {a b:af}{x y:Int}(h:a=b)(k:x=y):[DV.one (.s 2 a),DV.j x]=[DV.one (.s 2 b),DV.j y]:=by rw[h,k]
end
end Go.V
namespace Go.V
def aj7 {n:Int}(n0:0<=n)(n1:n<=16):bQ .quo Za n 2=n/2:=vF n0 Uc Uc
def aj5 {n:Int}(n0:0<=n):((zn (n/2) 0:Nat):Int)=n/2:=by unfold zn;omega
def aj8 {od:af}{n:Int}(hl:(od.length:Int)=n)(n0:0<=n):((zn (od.length:Int) (n/2):Nat):Int)=n-n/2:=by unfold zn;omega
def af5 {i:Int}:adI (YG 0) i=i.toNat:=by unfold adI;exact Nat.zero_add _
def aj4 {n j:Int}(n0:0<=n)(j0:0<=j):adI (n/2).toNat j=(n/2+j).toNat:=by unfold adI;omega
def aj6 {n i p:Int}(i0:0<=i)(p0:0<=p)(i1:i<n/2)(p1:p<=16)(n1:n<=16):bQ .rem Za (bQ .add Za i p) (n-n/2)=(i+p)%(n-n/2)/\0<=(i+p)%(n-n/2)/\(i+p)%(n-n/2)<n-n/2:=by
 rw[b8 Uc,yp Uc];exact⟨rfl,XM _ Uc,XN _ Uc⟩
def pX {od:af}{n p i:Int}(hl:(od.length:Int)=n):IF od (n/2) p i=ag od (n/2+(i+p)%(n-n/2)) 0:=by unfold IF;rw[hl]
def afX {sp od q:af}{h p i:Int}(a:tnB q (ag od i 0)=true):LX sp od h p i q=false:=by unfold LX;rw[a];rfl
def afY {sp od q:af}{h p i:Int}(a:tnB q (IF od h p i)=true):LX sp od h p i q=false:=by unfold LX;rw[a];simp
def afZ {sp od q:af}{h p i:Int}(a:spM sp (ag od i 0) (IF od h p i)=false):LX sp od h p i q=false:=by unfold LX;rw[a];simp
def af0 {sp od q:af}{h p i:Int}(a:tnB q (ag od i 0)=false)(b:tnB q (IF od h p i)=false)(c:spM sp (ag od i 0) (IF od h p i)=true):LX sp od h p i q=true:=by unfold LX;rw[a,b,c];rfl
def aj2 {sp od o:af}{h p:Int}(g:ML sp od h p o)(h0:0<=h)(h1:h<=8)(p0:0<=p)(p1:p<=16):(o.length:Int)<=128:=by
 have a:=g.l;have b:h*p<=8*16:=Int.mul_le_mul h1 p1 p0 Uc;omega
end Go.V
namespace Go.V
structure P2 (n:Int)(o:af):Prop where
 r:Rw [tI,tI] o
 i:∀ j:Nat,j<o.length->(0<=ag o (j:Int) 0/\ag o (j:Int) 0<n)/\(0<=ag o (j:Int) 1/\ag o (j:Int) 1<n)
def K8 {n:Int}:P2 n []:=⟨Rw.nil,fun j hj=>absurd hj (by simp)⟩
def aaP {n a b:Int}{o:af}(h:P2 n o)(n1:n<=16)(l:o.length<=1048576)(a0:0<=a)(a1:a<n)(b0:0<=b)(b1:b<n):P2 n (o++[[.i a,.i b]]):=by
 have ha: -9223372036854775808<=a/\a<=9223372036854775807:=by omega
 have hb: -9223372036854775808<=b/\b<=9223372036854775807:=by omega
 refine⟨Rw.append h.r (Rw.one (show bV [tI,tI] [.i a,.i b]from⟨⟨rfl,ha⟩,⟨rfl,hb⟩,trivial⟩)) (by unfold maxLen;simp only[Zi,Zk];omega),fun j hj=>?_⟩;rw[Zf]at hj;by_cases c:j<o.length
 ·rw[xQ c,xQ c];exact h.i j c
 ·have e:j=o.length:=by simp only[Zi,Zk]at hj;omega
  subst e;rw[Ar,Ar];exact⟨⟨a0,a1⟩,⟨b0,b1⟩⟩
def OU {sp od:af}{h p i:Int}{o:af}:(sp1 sp od h p i o).length<=o.length+1:=by
 unfold sp1;split
 ·rw[Zf];exact Ze _
 ·omega
def yK {sp od:af}{h p:Int}{o:af}:∀ i:Nat,(yJ sp od h p i o).length<=o.length+i
 |0=>by simp only[yJ];omega
 | i+1=>by
   simp only[yJ];have a:=OU (sp:=sp) (od:=od) (h:=h) (p:=p) (i:=(i:Int)) (o:=yJ sp od h p i o);have b:=yK (sp:=sp) (od:=od) (h:=h) (p:=p) (o:=o) i;omega
def HK {sp od:af}{n p:Int}{o:af}(n1:n<=16)(hi:Gw n od)(hl:(od.length:Int)=n)(l:o.length<=1048560)(g:P2 n o):∀ i:Nat,(i:Int)<=n/2->P2 n (yJ sp od (n/2) p i o)
 |0,_=>g
 | i+1,h=>by
   have ih:=HK (sp:=sp) (p:=p) n1 hi hl l g i Uc;have len:=yK (sp:=sp) (od:=od) (h:=n/2) (p:=p) (o:=o) i;simp only[yJ];unfold sp1;split
   ·have m0:=XM ((i:Int)+p) (show n-n/2≠0 by omega);have m1:=XN ((i:Int)+p) (show 0<n-n/2 by omega);have a:=hi.at (i:=(i:Int)) Uc Uc;have b:=hi.at (i:=n/2+((i:Int)+p)%(n-n/2)) Uc Uc;refine aaP ih n1 Uc a.1 a.2 ?_ ?_
    ·rw[pX hl];exact b.1
    ·rw[pX hl];exact b.2
   ·exact ih
def LW {sp od:af}{n:Int}(n0:0<=n)(n1:n<=16)(hi:Gw n od)(hl:(od.length:Int)=n):∀ p:Nat,p<=16->P2 n (Q7 sp od (n/2) p)/\(Q7 sp od (n/2) p).length<=p*8
 |0,_=>⟨K8,Zv _⟩
 | p+1,h=>by
   have ih:=LW (sp:=sp) n0 n1 hi hl p Uc;have len:=yK (sp:=sp) (od:=od) (h:=n/2) (p:=(p:Int)) (o:=Q7 sp od (n/2) p) (n/2).toNat;simp only[Q7];exact⟨HK n1 hi hl Uc ih.1 _ Uc,Uc⟩
def af4 {sp:af}{s k:Int}:P2 sp.length (sqL sp s k)/\(sqL sp s k).length<=128:=by
 unfold sqL;split
 ·rename_i b;unfold IG at b;rw[Zb,Zb]at b;have n1:=VQ b.1;have kk:=ay.1 b.2.1;have nn:inR (sp.length:Int) 0 64=true:=ay.2 ⟨Uc,Uc⟩;have q:=LW (sp:=sp) (n:=(sp.length:Int)) Uc n1 (LP b.2.2 nn) (HI b.2.2 nn) k.toNat Uc;exact⟨q.1,Uc⟩
 ·exact⟨K8,Zv _⟩
def sX (e s:af):af:=(msS e s).take 16
def zJ (e s:af)(d:Int):af:=sqL (sX e s) d 3
def om (e s:af)(d:Int)(c j:Nat):Int:=ag (sX e s) (ag (zJ e s d) 0 c) j
def Iq (e s:af)(d:Int):Int:=ppK (om e s d 0 0) (om e s d 0 1) (om e s d 0 2) (om e s d 1 0) (om e s d 1 1) (om e s d 1 2)
def Ir (e s:af)(d:Int):Int:=ppM (om e s d 0 0) (om e s d 0 1) (om e s d 0 2) (om e s d 1 0) (om e s d 1 1) (om e s d 1 2)
def FB (e s:af)(d:Int):af:=ppC (om e s d 0 0) (om e s d 0 1) (om e s d 0 2) (om e s d 1 0) (om e s d 1 1) (om e s d 1 2)
def mtG (k me:Bool):Bool:= !me&&k
def mtB (g:Bool)(e s:af)(d:Int):Bool:=g&&decide (0<(zJ e s d).length)
def mtD (g:Bool)(e s:af)(d:Int):Int:=if g=true then sqS (sX e s) d 3 else d
def mtJk (g:Bool)(e s:af)(d x:Int):Int:=if mtB g e s d=true then ifZ (plOk (Iq e s d) (Ir e s d) (FB e s d)) (Iq e s d)else x
def mtJm (g:Bool)(e s:af)(d x:Int):Int:=if mtB g e s d=true then ifZ (plOk (Iq e s d) (Ir e s d) (FB e s d)) (Ir e s d)else x
def mtJc (g:Bool)(e s:af)(d:Int)(x:af):af:=if mtB g e s d=true then ifR (plOk (Iq e s d) (Ir e s d) (FB e s d)) (FB e s d) []else x
def mtJ0 (g:Bool)(e s:af)(d x:Int):Int:=if mtB g e s d=true then 0 else x
def mtO (g:Bool)(e s:af)(d:Int)(me:Bool):Bool:=if mtB g e s d=true then true else me
section
variable {g me k: Bool} {e s x: af} {d y: Int}
def mt_no (h:mtB g e s d=false):mtJk g e s d y=y/\mtJm g e s d y=y/\mtJc g e s d x=x/\mtJ0 g e s d y=y/\mtO g e s d me=me:=by
 unfold mtJk mtJm mtJc mtJ0 mtO;rw[h];exact⟨rfl,rfl,rfl,rfl,rfl⟩
def yf (h:mtB g e s d=true):mtJk g e s d y=ifZ (plOk (Iq e s d) (Ir e s d) (FB e s d)) (Iq e s d)/\mtJm g e s d y=ifZ (plOk (Iq e s d) (Ir e s d) (FB e s d)) (Ir e s d)/\mtJc g e s d x=ifR (plOk (Iq e s d) (Ir e s d) (FB e s d)) (FB e s d) []/\mtJ0 g e s d y=0/\mtO g e s d me=true:=by
 unfold mtJk mtJm mtJc mtJ0 mtO;rw[h];exact⟨rfl,rfl,rfl,rfl,rfl⟩
def aet (h:g=false):mtB g e s d=false:=by unfold mtB;rw[h];rfl
def aeu (h:(zJ e s d).length=0):mtB g e s d=false:=by unfold mtB;rw[h];simp
def aev (h:g=true)(q:(zJ e s d).length≠0):mtB g e s d=true:=by unfold mtB;rw[h,VL Uc];rfl
def aex (h:g=false):mtD g e s d=d:=by unfold mtD;rw[h];rfl
def aey:mtG k true=false:=rfl
def Qt (h:k=false):mtG k me=false:=by unfold mtG;rw[h];simp
def Qu (h:k=true)(q:me=false):mtG k me=true:=by unfold mtG;rw[h,q];rfl
def Hg:(sX e s).length<=16:=by unfold sX;rw[Zg];omega
def aaD (h:Rw [tI,tI,tI] s):Rw [tI,tI,tI] (sX e s):=(Qq (es:=e) h).1.take 16
def KS:P2 (sX e s).length (zJ e s d)/\(zJ e s d).length<=128:=af4
def aem (q:(zJ e s d).length≠0):(0<=ag (zJ e s d) 0 0/\ag (zJ e s d) 0 0<(sX e s).length)/\(0<=ag (zJ e s d) 0 1/\ag (zJ e s d) 0 1<(sX e s).length):=KS.1.i 0 Uc
def aaX {p k b q l c:Int}:Rw [tI] (ppC p k b q l c)/\(ppC p k b q l c).length<=16:=by
 unfold ppC;split
 ·split;exact⟨HF,DJ⟩;exact⟨HF,DJ⟩
 ·exact⟨Rw.nil,Zv _⟩
def FC:Rw [tI] (FB e s d)/\(FB e s d).length<=16:=aaX
def aaE (h:(msS e s).length<=16):msS e s=sX e s:=by unfold sX;rw[Yg h]
def aaq {a b:Int}:mmI false a b=min a b:=by unfold mmI;rw[VP (by decide)];split<;>omega
def aer:mV (msS e s) (YG 0) (zn (mmI false ((msS e s).length:Int) 16) 0)=sX e s:=by
 rw[BW,aaq];unfold sX;by_cases h:((msS e s).length:Int)<=16
 ·rw[show(min ((msS e s).length:Int) 16)=(msS e s).length by omega,ZJ,Yg (Ze _),Yg Uc]
 ·rw[show(min ((msS e s).length:Int) 16)=16 by omega];rfl
def aes:mV (msS e s) (YG 0) (zn 16 0)=sX e s:=rfl
def aen:((zn (mmI false ((msS e s).length:Int) 16) 0:Nat):Int)=(sX e s).length:=by
 rw[aaq];unfold sX zn;rw[Zg];omega
def aeo (h:(16:Int)<(msS e s).length):((zn 16 0:Nat):Int)=(sX e s).length:=by
 unfold sX zn;rw[Zg];omega
def aeq:(0:Int)<=0/\0<=mmI false ((msS e s).length:Int) 16/\mmI false ((msS e s).length:Int) 16<=(msS e s).length:=by
 rw[aaq];omega
def aeB:sqL (sX e s) d 3=zJ e s d:=rfl
def aep:(sX e s).length<=(msS e s).length:=by unfold sX;rw[Zg];omega
def Qv {c j:Nat}(x0:0<=ag (zJ e s d) 0 c)(x1:ag (zJ e s d) 0 c<(sX e s).length):ag (msS e s) (ag (zJ e s d) 0 c) j=om e s d c j:=by
 unfold om;have h:=J7 (l:=msS e s) (n:=16) (j:=(ag (zJ e s d) 0 c).toNat) (k:=j) (by have:=Hg (e:=e) (s:=s);omega);rw[Zj x0]at h;exact h.symm
def aeC {c j:Nat}:ag (sX e s) (ag (zJ e s d) 0 c) j=om e s d c j:=rfl
def aez:ppK (om e s d 0 0) (om e s d 0 1) (om e s d 0 2) (om e s d 1 0) (om e s d 1 1) (om e s d 1 2)=Iq e s d:=rfl
def aeA:ppM (om e s d 0 0) (om e s d 0 1) (om e s d 0 2) (om e s d 1 0) (om e s d 1 1) (om e s d 1 2)=Ir e s d:=rfl
def aew:ppC (om e s d 0 0) (om e s d 0 1) (om e s d 0 2) (om e s d 1 0) (om e s d 1 1) (om e s d 1 2)=FB e s d:=rfl
def KQ (h:mtB g e s d=false):mtJk g e s d y=y:=(mt_no (me:=true) (x:=[]) h).1
def KR (h:mtB g e s d=false):mtJm g e s d y=y:=(mt_no (me:=true) (x:=[]) h).2.1
def KP (h:mtB g e s d=false):mtJc g e s d x=x:=(mt_no (me:=true) (y:=0) h).2.2.1
def FD (h:mtB g e s d=false):mtJ0 g e s d y=y:=(mt_no (me:=true) (x:=[]) h).2.2.2.1
def Qs (h:mtB g e s d=false):mtO g e s d me=me:=(mt_no (y:=0) (x:=[]) h).2.2.2.2
def aaA (h:mtB g e s d=true):mtJk g e s d y=ifZ (plOk (Iq e s d) (Ir e s d) (FB e s d)) (Iq e s d):=(yf (me:=true) (x:=[]) h).1
def aaC (h:mtB g e s d=true):mtJm g e s d y=ifZ (plOk (Iq e s d) (Ir e s d) (FB e s d)) (Ir e s d):=(yf (me:=true) (x:=[]) h).2.1
def aaz (h:mtB g e s d=true):mtJc g e s d x=ifR (plOk (Iq e s d) (Ir e s d) (FB e s d)) (FB e s d) []:=(yf (me:=true) (y:=0) h).2.2.1
def aay (h:mtB g e s d=true):mtJ0 g e s d y=0:=(yf (me:=true) (x:=[]) h).2.2.2.1
def aek (h:mtB g e s d=true):mtO g e s d me=true:=(yf (y:=0) (x:=[]) h).2.2.2.2
def Oa (h:Rw [tI] x)(c:au x<=1073741824):Rw [tI] (mtJc g e s d x)/\au (mtJc g e s d x)<=1073741824:=by
 unfold mtJc;split
 ·unfold ifR;split
  ·have q:=FC (e:=e) (s:=s) (d:=d);exact⟨q.1,by rw[q.1.cnt rfl];omega⟩
  ·exact⟨Rw.nil,by decide⟩
 ·exact⟨h,c⟩
def ael {a0 a1 a2 a4 a5 a6 a7 a8 a9 aA aB aD aL:af}(h:kJ a0 a1 a2 a4 a5 a6 a7 a8 a9 aA aB aD aL)(g:Bool)(d:Int):kJ a0 a1 a2 a4 a5 a6 a7 a8 a9 aA aB aD (mtJc g a2 a6 d aL):=by
 have q:=Oa (g:=g) (e:=a2) (s:=a6) (d:=d) h.r21 h.c21;exact {h with r21:=q.1,c21:=q.2}
end
end Go.V
namespace Go.V
def R1 {ls:af}(w:Rw [.sl [tI]] ls)(h:caOk ls=true):au ls<=36:=by
 have c:=ab8 h;have q:cZ ls<=8*ls.length:=A7 fun e he=>by
  obtain⟨i,hi,rfl⟩:=List.getElem_of_mem he;have a:=w.eta (i:=i) Uc Uc;rw[Zm,ZJ,Zt hi,Option.getD_some]at a;rw[a];show gV [.s 1 (aU ls i 0)]<=8;have l:=c.2 i Uc;have x:=(Rw.sub (fs:=[.sl [tI]]) (j:=0) (i:=(i:Int)) w Uc rfl).cnt rfl;have e:gV [.s 1 (aU ls i 0)]=au (aU ls i 0):=by simp only[gV,xH,au];omega
  rw[e,x];omega
 have:=c.1;unfold au;omega
def MB (S:af)(a:Int):Int:=ag S (gE S a) 1
def MA (S D:af)(t a:Int):Bool:=qK (aU D t 0) (MB S a) a
def rcD (S D:af)(t a:Int):af:=if MA S D t a=true then D.set t.toNat [.s 1 (Ag (aU D t 0) (MB S a) a)]else D
structure RS where
 s:zw
 D:af
def r1 (me:Bool)(kp mv t:Int)(z:RS)(a:Int):RS:=⟨if MA z.s.S z.D t a=true then z.s else f1 me kp mv z.s a,rcD z.s.S z.D t a⟩
def rN (me:Bool)(kp mv t:Int)(l:af)(z:RS):Nat->RS
 |0=>z
 |n+1=>r1 me kp mv t (rN me kp mv t l z n) (ag l n 0)
structure CdI (D:af)(n B:Nat):Prop where
 w:Rw [.sl [.sl [tI]]] D
 l:D.length=n
 c:au D<=B
structure RN (l:af)(n B i:Nat)(z:RS):Prop where
 fr:Pi z.s
 q:∀ j:Nat,i<=j->j<l.length->∃ k,qg z.s.S (ag l j 0) k
 d:CdI z.D n (B+40*i)
section
variable {S D l: af} {t a: Int} {n B i: Nat} {me: Bool} {kp mv: Int} {z: RS}
def afC (h:CdI D n B)(t0:0<=t)(t1:t<n)(ha: -9223372036854775808<=a/\a<=9223372036854775807):CdI (rcD S D t a) n (B+40):=by
 have hl:=h.l;have hc:=h.c;unfold rcD;split
 ·rename_i b;unfold MA qK at b;rw[Zb]at b;have gw:Rw [.sl [tI]] (aU D t 0):=rK h.w t0 Uc;have u:=PF gw b.1 ha;have k:=R1 u.1 b.2;have q:=xG (es:=D) (n:=t.toNat) (e:=[.s 1 (Ag (aU D t 0) (MB S a) a)]);have e:gV [.s 1 (Ag (aU D t 0) (MB S a) a)]=au (Ag (aU D t 0) (MB S a) a):=by simp only[gV,xH,au];omega
  exact⟨Rw.set h.w (show bV [.sl [.sl [tI]]] [.s 1 (Ag (aU D t 0) (MB S a) a)]from⟨⟨rfl,u.1⟩,trivial⟩) _,by rw[Zw];exact hl,Uc⟩
 ·exact⟨h.w,hl,Uc⟩
def afF (d:Gv l)(h:RN l n B i z)(hi:i<l.length)(t0:0<=t)(t1:t<n):RN l n B (i+1) (r1 me kp mv t z (ag l i 0)):=by
 obtain⟨k,v⟩:=h.q i (Ze _) hi;have bd:=Bv h.fr.g v;have e:B+40*(i+1)=B+40*i+40:=by omega
 have D':=afC (S:=z.s.S) (a:=ag l i 0) h.d t0 t1 Uc;rw[<-e]at D';by_cases b:MA z.s.S z.D t (ag l i 0)=true
 ·have r:r1 me kp mv t z (ag l i 0)=⟨z.s,rcD z.s.S z.D t (ag l i 0)⟩:=by unfold r1;rw[VO b]
  rw[r];exact⟨h.fr,fun j j0 j1=>h.q j Uc j1,D'⟩
 ·have r:r1 me kp mv t z (ag l i 0)=⟨f1 me kp mv z.s (ag l i 0),rcD z.s.S z.D t (ag l i 0)⟩:=by unfold r1;rw[VP b]
  rw[r];refine⟨JR h.fr v,fun j j0 j1=>?_,D'⟩;obtain⟨k',v'⟩:=h.q j Uc j1;exact PN h.fr v v' (d i j Uc j1)
def afE (d:Gv l)(h:RN l n B 0 z)(t0:0<=t)(t1:t<n):∀ m:Nat,m<=l.length->RN l n B m (rN me kp mv t l z m)
 |0,_=>h
 |m+1,hm=>afF d (afE d h t0 t1 m Uc) Uc t0 t1
end
def rcC (me:Bool)(kp mv:Int)(c u e f s x:af)(t a:Int):af:=(r1 me kp mv t ⟨⟨c,u,e,f,s⟩,x⟩ a).s.C
def rcU (me:Bool)(kp mv:Int)(c u e f s x:af)(t a:Int):af:=(r1 me kp mv t ⟨⟨c,u,e,f,s⟩,x⟩ a).s.U
def rcE (me:Bool)(kp mv:Int)(c u e f s x:af)(t a:Int):af:=(r1 me kp mv t ⟨⟨c,u,e,f,s⟩,x⟩ a).s.E
def rcF (me:Bool)(kp mv:Int)(c u e f s x:af)(t a:Int):af:=(r1 me kp mv t ⟨⟨c,u,e,f,s⟩,x⟩ a).s.F
def rcS (me:Bool)(kp mv:Int)(c u e f s x:af)(t a:Int):af:=(r1 me kp mv t ⟨⟨c,u,e,f,s⟩,x⟩ a).s.S
def raC (me:Bool)(kp mv:Int)(c u e f s x:af)(t:Int)(l:af):af:=(rN me kp mv t l ⟨⟨c,u,e,f,s⟩,x⟩ l.length).s.C
def raU (me:Bool)(kp mv:Int)(c u e f s x:af)(t:Int)(l:af):af:=(rN me kp mv t l ⟨⟨c,u,e,f,s⟩,x⟩ l.length).s.U
def raE (me:Bool)(kp mv:Int)(c u e f s x:af)(t:Int)(l:af):af:=(rN me kp mv t l ⟨⟨c,u,e,f,s⟩,x⟩ l.length).s.E
def raF (me:Bool)(kp mv:Int)(c u e f s x:af)(t:Int)(l:af):af:=(rN me kp mv t l ⟨⟨c,u,e,f,s⟩,x⟩ l.length).s.F
def raS (me:Bool)(kp mv:Int)(c u e f s x:af)(t:Int)(l:af):af:=(rN me kp mv t l ⟨⟨c,u,e,f,s⟩,x⟩ l.length).s.S
def raD (me:Bool)(kp mv:Int)(c u e f s x:af)(t:Int)(l:af):af:=(rN me kp mv t l ⟨⟨c,u,e,f,s⟩,x⟩ l.length).D
section
variable {me: Bool} {kp mv t a: Int} {c u e f s x: af}
def ajO (b:MA s x t a=true):rcC me kp mv c u e f s x t a=c/\rcU me kp mv c u e f s x t a=u/\rcE me kp mv c u e f s x t a=e/\rcF me kp mv c u e f s x t a=f/\rcS me kp mv c u e f s x t a=s/\rcD s x t a=x.set t.toNat [.s 1 (Ag (aU x t 0) (MB s a) a)]:=by
 unfold rcC rcU rcE rcF rcS r1 rcD;simp only[b,if_true];exact⟨trivial,trivial,trivial,trivial,trivial,trivial⟩
def ajN (b:MA s x t a=false):rcC me kp mv c u e f s x t a=fzC me kp mv c u e f s a/\rcU me kp mv c u e f s x t a=fzU me kp mv c u e f s a/\rcE me kp mv c u e f s x t a=fzE me kp mv c u e f s a/\rcF me kp mv c u e f s x t a=fzF me kp mv c u e f s a/\rcS me kp mv c u e f s x t a=fzS me kp mv c u e f s a/\rcD s x t a=x:=by
 unfold rcC rcU rcE rcF rcS r1 rcD;simp only[b];exact⟨rfl,rfl,rfl,rfl,rfl,rfl⟩
end
structure Pp (me:Bool)(kp mv t:Int)(l:af)(z:RS)(i:Int)(c u e f s x:af):Prop where
 c:c=(rN me kp mv t l z i.toNat).s.C
 u:u=(rN me kp mv t l z i.toNat).s.U
 e:e=(rN me kp mv t l z i.toNat).s.E
 f:f=(rN me kp mv t l z i.toNat).s.F
 s:s=(rN me kp mv t l z i.toNat).s.S
 x:x=(rN me kp mv t l z i.toNat).D
section
variable {me: Bool} {kp mv t: Int} {l c u e f s x c0 u0 e0 f0 s0 x0: af} {z: RS} {i: Int}
def afA:Pp me kp mv t l ⟨⟨c,u,e,f,s⟩,x⟩ 0 c u e f s x:=⟨rfl,rfl,rfl,rfl,rfl,rfl⟩
def aa7 (h:Pp me kp mv t l z i c u e f s x)(i0:0<=i):Pp me kp mv t l z (i+1) (rcC me kp mv c u e f s x t (ag l i 0)) (rcU me kp mv c u e f s x t (ag l i 0)) (rcE me kp mv c u e f s x t (ag l i 0)) (rcF me kp mv c u e f s x t (ag l i 0)) (rcS me kp mv c u e f s x t (ag l i 0)) (rcD s x t (ag l i 0)):=by
 have n:(i+1).toNat=i.toNat+1:=by omega
 have g:ag l i 0=ag l (i.toNat:Int) 0:=by rw[Zj i0]
 obtain⟨rfl,rfl,rfl,rfl,rfl,rfl⟩:=h;refine⟨?_,?_,?_,?_,?_,?_⟩<;>rw[n,g]<;>rfl
def afB (h:Pp me kp mv t l z i c u e f s x):(⟨⟨c,u,e,f,s⟩,x⟩:RS)=rN me kp mv t l z i.toNat:=by
 obtain⟨rfl,rfl,rfl,rfl,rfl,rfl⟩:=h;rfl
def Oy (h:Pp me kp mv t l ⟨⟨c0,u0,e0,f0,s0⟩,x0⟩ i c u e f s x)(e1:i=l.length):c=raC me kp mv c0 u0 e0 f0 s0 x0 t l/\u=raU me kp mv c0 u0 e0 f0 s0 x0 t l/\e=raE me kp mv c0 u0 e0 f0 s0 x0 t l/\f=raF me kp mv c0 u0 e0 f0 s0 x0 t l/\s=raS me kp mv c0 u0 e0 f0 s0 x0 t l/\x=raD me kp mv c0 u0 e0 f0 s0 x0 t l:=by
 obtain⟨rfl,rfl,rfl,rfl,rfl,rfl⟩:=h;have n:i.toNat=l.length:=by omega
 rw[n];exact⟨rfl,rfl,rfl,rfl,rfl,rfl⟩
end
section
variable {a0 a1 a2: af} {a3: Int} {a4 a5 a6 a7 a8 a9 aA aB: af} {aC: Int} {aD: af} {aE aF aG aH: Int} {aI: Bool} {aJ aK: Int} {aL: af} {aM aN t: Int}
end
end Go.V
namespace Go.V
def MC (to a:Int):aT:=[.i to,.i a]
def sdU (b:af)(f to a:Int):af:=b.set f.toNat [.s 2 (aU b f 0++[MC to a])]
def sdB (b x:af)(f to a:Int):Bool:=htB b x f&&mailOk (sdU b f to a) x
def sdL (b x:af)(f to a:Int):af:=if sdB b x f to a=true then sdU b f to a else b
def coX (b x:af)(t:Int):af:=if htB b x t=true then x.set t.toNat [.s 1 []]else x
def Nb (b x:af)(t:Int):af:=if htB b x t=true then aU x t 0 else[]
section
variable {b x: af} {f t to a: Int}
def ajS (h:htB b x f=false):sdB b x f to a=false:=by unfold sdB;rw[h];rfl
def ajT (h:mailOk (sdU b f to a) x=false):sdB b x f to a=false:=by unfold sdB;rw[h];simp
def ajU (h:htB b x f=true)(g:mailOk (sdU b f to a) x=true):sdB b x f to a=true:=by unfold sdB;rw[h,g];rfl
def Q0 (h:sdB b x f to a=false):sdL b x f to a=b:=by unfold sdL;rw[h];rfl
def Q1 (h:sdB b x f to a=true):sdL b x f to a=sdU b f to a:=by unfold sdL;rw[VO h]
def abi (hb:Rw [.sl [tI,tI]] b)(f0:0<=f)(f1:f<b.length)(cb:au b<=1073741824)(ht: -9223372036854775808<=to/\to<=9223372036854775807)(ha: -9223372036854775808<=a/\a<=9223372036854775807):Rw [.sl [tI,tI]] (sdU b f to a)/\au (sdU b f to a)<=2*au b+8:=by
 have rb:=Rw.sub (fs:=[.sl [tI,tI]]) (j:=0) (i:=f) hb Uc rfl;have gb:=jG (es:=b) (i:=f) (j:=0);have lb:(aU b f 0).length<=au (aU b f 0):=by unfold au;omega
 have r2:Rw [tI,tI] (aU b f 0++[MC to a]):=Rw.append rb (Rw.one (show bV [tI,tI] (MC to a)from⟨⟨rfl,ht⟩,⟨rfl,ha⟩,trivial⟩)) (by unfold maxLen;simp only[Zi,Zk];omega);refine⟨Rw.set hb (show bV [.sl [tI,tI]] [.s 2 (aU b f 0++[MC to a])]from⟨⟨rfl,r2⟩,trivial⟩) _,?_⟩;unfold sdU;have s:=xG (es:=b) (n:=f.toNat) (e:=[.s 2 (aU b f 0++[MC to a])]);have e:gV [.s 2 (aU b f 0++[MC to a])]=au (aU b f 0++[MC to a]):=by simp only[gV,xH,au];omega
 have p:=CR (a:=aU b f 0) (b:=[MC to a]);have o:au [MC to a]<=8:=by simp[MC,au,cZ,gV,xH]
 omega
end
section
variable {a0 a1 a2: af} {a3: Int} {a4 a5 a6 a7 a8 a9 aA aB: af} {aC: Int} {aD: af} {aE aF aG aH: Int} {aI: Bool} {aJ aK: Int} {aL: af} {aM aN t i: Int} {c u e f s x: af}
structure CoI (a9 aA aB:af)(t:Int)(z:zw):Prop where
 h:htB aA aB t=true
 t0:0<=t
 t1:t<a9.length
 d:Gv (Nb aA aB t)
 q:RN (Nb aA aB t) a9.length 1000000000 0 ⟨z,a9⟩
 l:(Nb aA aB t).length<=30
end
end Go.V
namespace Go.V
def mphN (g:Bool)(a0 a1 a2:af)(a3:Int)(a4:af)(aJ aK:Int)(aL:af)(aM aN:Int):Int:=ifN g (mzN a0 a1 a2 a3 a4 aJ aK aL aM aN) aM
def mqhN (g:Bool)(a0 a1 a2:af)(a3:Int)(a4:af)(aJ aK:Int)(aL:af)(aM aN:Int):Int:=ifN g (myN a0 a1 a2 a3 a4 aJ aK aL aM aN) aN
section
variable {a0 a1 a2: af} {a3: Int} {a4: af} {aJ aK: Int} {aL: af} {aM aN: Int} {g k me j: Bool} {c x y: Int} {u v: af}
def aeh:msB k c false=false:=by unfold msB;simp
def aei (h:99000<c):msB k c me=false:=by unfold msB;rw[VM (p:=c<=99000) Uc];simp
def aej (h:k=false):msB k c me=false:=by unfold msB;rw[h];rfl
def KO (h:k=true)(q:c<=99000)(m:me=true):msB k c me=true:=by unfold msB;rw[h,VL q,m];rfl
def ajz (h:x≠4)(q:x≠5):aaO x=false:=by unfold aaO;rw[VM h,VM q];rfl
end
end Go.V
namespace Go.V
def feI (sp lg:af)(a:Int):Int:=if dzK sp lg a=0 then 3 else if dzO sp lg a≠0 then 1 else if dzK sp lg a=2 then 2 else 0
def P9 (sp lg:af)(a:Int):Int:=if feI sp lg a=3 then 2 else if feI sp lg a=1 then 3 else 4
section
variable {sp lg: af} {a: Int}
def ahD (h:dzK sp lg a=0):feI sp lg a=3:=by unfold feI;rw[VO h]
def ahE (h:dzK sp lg a≠0)(g:dzO sp lg a≠0):feI sp lg a=1:=by unfold feI;rw[VP h,VO g]
def ahF (h:dzK sp lg a=2)(g:dzO sp lg a=0):feI sp lg a=2:=by unfold feI;rw[VP Uc,VP (fun n=>n g),VO h]
def ahG (h:dzK sp lg a≠0)(g:dzO sp lg a=0)(k:dzK sp lg a≠2):feI sp lg a=0:=by unfold feI;rw[VP h,VP (fun n=>n g),VP k]
def aie (h:feI sp lg a=3):P9 sp lg a=2:=by unfold P9;rw[VO h]
def aid (h:feI sp lg a=1):P9 sp lg a=3:=by unfold P9;rw[VP Uc,VO h]
def aif (h:feI sp lg a≠3)(g:feI sp lg a≠1):P9 sp lg a=4:=by unfold P9;rw[VP h,VP g]
end
def foS (os:af)(ad:Int):Int:=ag os (obI os ad) 2
def foT (os:af)(ad:Int):Int:=ag os (obI os ad) 3
def mf (os:af)(ad:Int):Int:=clsOf (foS os ad)
def foO (os:af)(ad:Int):af:=delL os (obI os ad) (obI os ad+1)
def SN (g:Bool)(os:af)(ad:Int):Bool:=g&&decide (0<=obI os ad)
def fbL (g:Bool)(os:af)(ad:Int):Bool:=SN g os ad&&decide (mf os ad<0)
def SH (g:Bool)(es os:af)(ad:Int):Bool:=SN g os ad&&(decide (0<=mf os ad)&&decide (peM es (ad/16)≠1))
def fbP (g:Bool)(es os b x:af)(t ad:Int):Bool:=SH g es os ad&&(decide (t≠foT os ad)&&sdB b x t (foT os ad) ad)
def fbQ (g:Bool)(es os:af)(t ad:Int):Bool:=SH g es os ad&&decide (t=foT os ad)
def fcC (cs es os:af)(ad:Int):af:=tcC cs es ad (clsSz (mf os ad))
def fqR (os:af)(rm:Int)(qs:af)(ck ad:Int):af:=qaR rm qs ad (mf os ad) ck
def fqL (os:af)(rm:Int)(qs:af)(ck ad:Int):af:=qaL rm qs ad (mf os ad) ck
def Mw (lg:af)(ad:Int):Int:=ag lg (lhI lg ad) 0
def NW (lg:af)(ad:Int):Int:=ag lg (lhI lg ad) 1
structure FoT (es sp lg os cs:af)(ad:Int):Prop where
 k0:0<=obI os ad
 k1:obI os ad<os.length
 e:ag os (obI os ad) 1=ad
 ok:okO sp lg ad (foS os ad)=true
 th:inR (foT os ad) 0 (cs.length-1)=true
 s0:1<=foS os ad
 s1:foS os ad<=1000
def K2 {sp lg:af}{a s:Int}(F:Pn sp lg)(h:okO sp lg a s=true)(c:0<=clsOf s):hlB sp lg a (clsOf s)=true:=by
 unfold okO at h;simp only[Zb,Z5,VN]at h;obtain⟨o,⟨k,e⟩|⟨k,e⟩⟩:=h
 ·unfold hlB;rw[VL k,VL o,VL e];simp
 ·exfalso;have b:=PL k;have q:=F.l (dnI sp lg a).toNat Uc;rw[Zj b.1]at q;have r:=ay.1 (oh q).1;rw[e]at r;unfold clsOf at c;rw[VP Uc,VP Uc,VP Uc,VP Uc,VP Uc]at c;omega
section
variable {a0 a1 a2: af} {a3: Int} {a4 a5 a6 a7 a8 a9 aA aB: af} {aC: Int} {aD: af} {aE aF aG aH: Int} {aI: Bool} {aJ aK: Int} {aL: af} {aM aN t ad: Int}
def SO (h:hpI a0 a1 a2 a3 a4 a5 a6 a7 a8 a9 aA aB aC aD aE aF aG aH aI aJ aK aL aM aN=true)(k:0<=obI a8 ad):FoT a2 a6 a7 a8 a9 ad:=by
 have T:=hY h;have p:=gu (p:=fun j=>eqB (ag a8 j 1) ad) (n:=a8.length) k;have k1:obI a8 ad<a8.length:=p.1;have e:ag a8 (obI a8 ad) 1=ad:=VQ p.2;have o:=ez.1 T.o (obI a8 ad) k k1;have b:=aeT T.o k k1;unfold BB at o;simp only[Zb]at o;have ok:=o.2.2.2.2;rw[e]at ok;exact⟨k,k1,e,ok,o.2.2.1,b.2.2.1,b.2.2.2⟩
structure FsT (a0 a1 a2 a6 a8:af)(ad:Int):Prop where
 lv:∃ i,qg a6 ad i
 d0:0<=ad
 d1:ad<=511
 mp:peM a2 (ad/16)≠0
 n0:1<=clsSz (mf a8 ad)
 n1:ad%16+clsSz (mf a8 ad)<=16
 m:ig (fcC a0 a2 a8 ad) a1 a2
 w:Rw [.sl [tI]] (fcC a0 a2 a8 ad)
def S8 (hc:kJ a0 a1 a2 a4 a5 a6 a7 a8 a9 aA aB aD aL)(h:hpI a0 a1 a2 a3 a4 a5 a6 a7 a8 a9 aA aB aC aD aE aF aG aH aI aJ aK aL aM aN=true)(F:FoT a2 a6 a7 a8 a9 ad)(c:0<=mf a8 ad):FsT a0 a1 a2 a6 a8 ad:=by
 have T:=hY h;have g:=LV (Qm T.l);have hl:=K2 (Qm T.l) F.ok c;have s0:=F.s0;have mp:=aaL (i:=0) T.l T.p F.ok (Yi _) Uc;rw[Int.add_zero]at mp;have K:=(gK T.k).1;obtain⟨i,v⟩:=Kb hl;have bd:=Bv g v;have kk:ag a6 i 1=mf a8 ad:=by
  unfold hlB at hl;simp only[Zb,Z5,VN]at hl;have d:=Fy (L:=a7) g v;rcases hl.2.2 with q|q;exact absurd c (by unfold mf at c ⊢;omega)
  ·rw[d.2.1]at q;exact q
 have sp:=mU (g.s i v.l);have c4:=GG sp.2.2.1;rw[kk]at c4;have o:=v.o;rw[kk]at o;have p:=v.p;have fit:=GU c4 (d:=ad-ag a6 i 0*16) Uc Uc o;have e16:ad-ag a6 i 0*16=ad%16:=by omega
 rw[e16]at fit;have n0:1<=clsSz (mf a8 ad):=by rcases c4 with q|q|q|q<;>omega
 have z:=HO (f:=peF a2 (ad/16)) (k:=ad%16) (p:=ad/16) K hc.r0 mp.2.2 rfl Uc (clsSz (mf a8 ad)).toNat Uc;exact⟨⟨i,v⟩,bd.1,bd.2.1,mp.2.2,n0,fit,z.m,z.w⟩
def SF {qs:af}{a c s:Int}(h:Gv qs)(n:qtB qs a=false):Gv (qs++[DT a c s]):=fun i j ij hj=>by
 rw[Zf]at hj;rw[xQ (by simp only[Zi,Zk]at hj;omega)];by_cases q:j<qs.length
 ·rw[xQ q];exact h i j ij q
 ·have e:j=qs.length:=by simp only[Zi,Zk]at hj;omega
  subst e;rw[Ar];intro e;have z:=Al (VR n) (j:=i) ij;unfold Fg at z;have e':ag qs i 0=a:=e;rw[e']at z;unfold eqB at z;exact absurd rfl (VR z)
def acS (hc:kJ a0 a1 a2 a4 a5 a6 a7 a8 a9 aA aB aD aL)(h9:au a9<=1000000000)(h:hpI a0 a1 a2 a3 a4 a5 a6 a7 a8 a9 aA aB aC aD aE aF aG aH aI aJ aK aL aM aN=true)(S:FsT a0 a1 a2 a6 a8 ad):
 Gv (fqR a8 aC aD aF ad)/\RN (fqR a8 aC aD aF ad) a9.length 1000000000 0 ⟨⟨fcC a0 a2 a8 ad,a1,a2,a5,a6⟩,a9⟩/\(fqR a8 aC aD aF ad).length<=aD.length+1:=by
 have T:=hY h;have fr:=P6 hc h;have fr2:Pi ⟨fcC a0 a2 a8 ad,a1,a2,a5,a6⟩:=⟨S.m,S.w,fr.ru,fr.re,fr.rf,fr.rs,fr.lf,fr.ls,fr.g⟩;unfold fqR;cases b:Iy aC aD ad (mf a8 ad) aF with
 | false=>
   rw[(Lk b).2];exact⟨fun i j _ hj=>absurd hj (by simp),⟨fr2,fun j _ hj=>absurd hj (by simp),⟨hc.r9,rfl,h9⟩⟩,by simp⟩
 | true=>
   rw[(Ov b).2];unfold Iy stlOk at b;simp only[Zb,Yp]at b;have d:=SF (a:=ad) (c:=mf a8 ad) (s:=aF) (QI T.q) b.2.2.2.2.1;refine⟨GL d,⟨fr2,fun j _ hj=>?_,⟨hc.r9,rfl,h9⟩⟩,by rw[Zg,Zf];simp only[Zi,Zk];omega⟩;rw[Zg]at hj;rw[J7 Uc];by_cases q:j<aD.length
   ·rw[xQ q];exact P7 h j q
   ·have e:j=aD.length:=by simp only[Zf,Zi,Zk]at hj;omega
    subst e;rw[Ar];exact S.lv
end
end Go.V
namespace Go.V
section
variable {es rs xs: af} {c kp mv ph nx: Int} {k: Bool}
end
section
variable {a0 a1 a2: af} {a3: Int} {a4: af} {aJ aK: Int} {aL: af} {aM aN: Int}
def ajl:jmB (ccB a0 a1 a2 a3 a4) a2 aJ aK aL aM aN=N6 a0 a1 a2 a3 a4 aJ aK aL aM aN:=rfl
def ajs:ifN (N6 a0 a1 a2 a3 a4 aJ aK aL aM aN) (jsP a2 a3 a4 aJ aK aL aM aN) aM=mzN a0 a1 a2 a3 a4 aJ aK aL aM aN:=rfl
def ajo (h:mzN a0 a1 a2 a3 a4 aJ aK aL aM aN=4):moB true a0 a1 a2 a3 a4 aJ aK aL aM aN=true:=by unfold moB;rw[h];rfl
def ajp (h:mzN a0 a1 a2 a3 a4 aJ aK aL aM aN=5):moB true a0 a1 a2 a3 a4 aJ aK aL aM aN=true:=by unfold moB;rw[h];rfl
def ajq (h:mzN a0 a1 a2 a3 a4 aJ aK aL aM aN≠4)(g:mzN a0 a1 a2 a3 a4 aJ aK aL aM aN≠5):moB true a0 a1 a2 a3 a4 aJ aK aL aM aN=false:=by unfold moB;rw[ajz h g];rfl
end
end Go.V
namespace Go.V
def KX {ls:af}(h:Rw [.sl [tI]] ls)(hc:au ls<=1099511627776):RF ls:=by
 refine⟨h,by unfold au at hc;omega,fun i=>?_⟩;have:=jG (es:=ls) (i:=i) (j:=0);unfold au at this hc;omega
def aeN {b x:af}(hb:Rw [.sl [tI,tI]] b)(hx:Rw [.sl [tI]] x)(cb:au b<=1099511627776)(cx:au x<=1099511627776):IW b x:=by
 refine⟨hb,hx,by unfold au at cb;omega,by unfold au at cx;omega,fun i=>?_,fun i=>?_⟩
 ·have:=jG (es:=b) (i:=i) (j:=0);unfold au at this cb;omega
 ·have:=jG (es:=x) (i:=i) (j:=0);unfold au at this cx;omega
section
variable {ls: af} {k a: Int}
def acg (h:inR k 0 3=false):clB ls k=false:=by unfold clB;rw[h];rfl
def ach (h:inR k 0 3=true):clB ls k=caOk ls:=by unfold clB;rw[h];rfl
def ahm (h:clB ls k=false):qK ls k a=false:=by unfold qK;rw[h];rfl
def ahn (h:caOk (Ag ls k a)=false):qK ls k a=false:=by unfold qK;rw[h];simp
def aho (h:clB ls k=true)(g:caOk (Ag ls k a)=true):qK ls k a=true:=by unfold qK;rw[h,g];rfl
def ahp (h:Rw [.sl [tI]] ls)(g:clB ls k=true):jL (.s 1 (jL (.s 1 ls) [(k.toNat,0)] [.g])) [(k.toNat,0)] [.s 1 (aU ls k 0++[[.i a]])]=Ag ls k a:=by
 have c:=zZ g;rw[aht h c.1 Uc];rfl
def KA {b b':af}{r r':Bool}(h1:b=b')(h3:r=r'):[DV.agg [.s 1 b],DV.k r]=[DV.agg [.s 1 b'],DV.k r']:=by rw[h1,h3]
def Sl (h:Rw [.sl [tI]] ls)(hc:au ls<=1073741824)(g:clB ls k=true)(ha: -9223372036854775808<=a/\a<=9223372036854775807):Rw [.sl [tI]] (Ag ls k a)/\au (Ag ls k a)<=1099511627776:=by
 have q:=PF h g ha;exact⟨q.1,Uc⟩
def acv (h:Rw [.sl [tI]] ls)(hc:au ls<=1073741824)(g:clB ls k=true):gB (.s 1 ls) [(k.toNat,0)]=some (1,aU ls k 0)/\bM (aU ls k 0)/\((aU ls k 0).length+1)*8<=70368744177664/\(aU ls k 0).length+1<=70368744177664:=by
 have c:=zZ g;have q:=ahs (r:=[[.i 0]]) h c.1 Uc hc rfl;simp only[hH,Zi,Zk]at q;exact q
end
section
variable {b x: af} {f to a t: Int}
def afN (h:Rw [.sl [tI,tI]] b)(f0:0<=f)(f1:f<b.length):jL (.s 1 (jL (.s 1 b) [(f.toNat,0)] [.g])) [(f.toNat,0)] [.s 2 (aU b f 0++[[.i to,.i a]])]=sdU b f to a:=by
 have q:jL (.s 1 b) [(f.toNat,0)] [.g]=b.set f.toNat [.g]:=eK (by rw[h.eta f0 f1];rfl);rw[q,eK (by rw[Zm,Xj Uc];rfl),Wl];rfl
def OL (h:Rw [.sl [tI,tI]] b)(f0:0<=f)(f1:f<b.length):(jL (.s 1 b) [(f.toNat,0)] [.g]).length=b.length:=by
 have q:jL (.s 1 b) [(f.toNat,0)] [.g]=b.set f.toNat [.g]:=eK (by rw[h.eta f0 f1];rfl);rw[q,Zw]
def OK (h:Rw [.sl [tI,tI]] b)(f0:0<=f)(f1:f<b.length):∃ rec o,bZ (.s 1 (jL (.s 1 b) [(f.toNat,0)] [.g])) [(f.toNat,0)]=some (rec,o)/\o+1<=rec.length:=by
 have q:jL (.s 1 b) [(f.toNat,0)] [.g]=b.set f.toNat [.g]:=eK (by rw[h.eta f0 f1];rfl);rw[q];exact fC (by rw[Zw];omega) (by rw[Zm,Xj Uc];exact Ze _)
def afM (h:Rw [.sl [tI,tI]] b)(hc:au b<=1073741824)(f0:0<=f)(f1:f<b.length):gB (.s 1 b) [(f.toNat,0)]=some (2,aU b f 0)/\bM (aU b f 0)/\((aU b f 0).length+1)*16<=70368744177664/\(aU b f 0).length+1<=70368744177664:=by
 obtain⟨es,e⟩:=H7 h f0 f1;have g:=jG (es:=b) (i:=f) (j:=0);have l:(aU b f 0).length<=au (aU b f 0):=by unfold au;omega
 have p:=PH e;rw[hH]at p;exact⟨p,(rK h f0 f1).scal rfl,Uc,Uc⟩
end
section
variable {D s: af} {t ad: Int} {i: Nat}
def agz {b x:af}{i:Int}(h:Rw [.sl [.sl [tI]]] b)(h0:0<=i)(h1:i<b.length):jL (.s 1 b) [(i.toNat,0)] [.s 1 x]=b.set i.toNat [.s 1 x]:=eK (by rw[h.eta h0 h1];rfl)
def Dd {cs:af}{fr:Int}(h:Rw [.sl [.sl [tI]]] cs)(h0:0<=fr)(h1:fr<cs.length):∃ rec o,bZ (.s 1 cs) [(fr.toNat,0)]=some (rec,o)/\o+[L.s 1 []].length<=rec.length/\Yh [L.s 1 []].length (Yy o rec)=kP aj (.s 1 cs) [(fr.toNat,0)] 0 [L.s 1 []]:=by
 refine⟨[.s 1 (aU cs fr 0)],0,?_,Ze _,?_⟩
 ·show(cs[fr.toNat]?).map (·,0)=_;rw[wt h h0 h1];rfl
 ·show[L.s 1 (aU cs fr 0)]=[L.s 1 (nD (.s 1 cs) [(fr.toNat,0)])];rw[hH]
def Aq {cs:af}{fr:Int}(h:Rw [.sl [.sl [tI]]] cs)(h0:0<=fr)(h1:fr<cs.length):gB (.s 1 cs) [(fr.toNat,0)]=some (1,aU cs fr 0):=by
 unfold gB;show(match(cs[fr.toNat]?).map (·,0)with
  | some (rec,o)=>match rec[o]? with
    |some (.s sz es)=>some (sz,es)
    |_=>none
  |none=>none)=_
 rw[wt h h0 h1];rfl
def ad3 {o:af}{n:Int}{j:Nat}(h:Rw [tI,tI,tI,tI] o)(n0:0<=n)(n1:n<o.length)(hj:j<4):∃ rec o',bZ (L.s 4 o) [(n.toNat,j)]=some (rec,o')/\o'+[L.v (Zn Zy 0)].length<=rec.length/\Yh [L.v (Zn Zy 0)].length (Yy o' rec)=kP aj (L.s 4 o) [(n.toNat,j)] 0 [L.v (Zn Zy 0)]:=by
 rcases(show j=0\/j=1\/j=2\/j=3 by omega)with rfl|rfl|rfl|rfl
 ·exact fv (z0:=[.i 0,.i 0,.i 0,.i 0]) (z:=[.i 0]) h.wf Uc rfl (by decide)
 ·exact fv (z0:=[.i 0,.i 0,.i 0,.i 0]) (z:=[.i 0]) h.wf Uc rfl (by decide)
 ·exact fv (z0:=[.i 0,.i 0,.i 0,.i 0]) (z:=[.i 0]) h.wf Uc rfl (by decide)
 ·exact fv (z0:=[.i 0,.i 0,.i 0,.i 0]) (z:=[.i 0]) h.wf Uc rfl (by decide)
def QM (g:rR s)(v:qg s ad i):MB s ad=ag s i 1:=by unfold MB;rw[(kL g v).1]
def QL (g:rR s)(v:qg s ad i):MA s D t ad=qK (aU D t 0) (ag s i 1) ad:=by unfold MA;rw[QM g v]
def afD (g:rR s)(v:qg s ad i)(h:Rw [.sl [.sl [tI]]] D)(t0:0<=t)(t1:t<D.length)(b:qK (aU D t 0) (ag s i 1) ad=true):jL (.s 1 D) [(t.toNat,0)] [.s 1 (H0 (aU D t 0) (ag s i 1) ad)]=D.set t.toNat [.s 1 (Ag (aU D t 0) (MB s ad) ad)]:=by
 rw[agz h t0 t1,ack b,QM g v]
end
section
variable {k: Bool} {c t: Int} {m: af}
def agf (h:inR t 0 (m.length-1)=false):t0B k c t m=false:=by unfold t0B;rw[h];simp
def agh (h:c=100000):t0B k c t m=false:=by unfold t0B;rw[VM (p:=c≠100000) (fun n=>n h)];simp
def agi (h:inR t 0 (m.length-1)=true)(g:c≠100000):t0B k c t m=k:=by unfold t0B;rw[h,VL g];simp
def agj (h:k=false):t0B k c t m=false:=by unfold t0B;rw[h];rfl
end
section
variable {ls: af} {k n: Int}
end
end Go.V
namespace Go.V
section
variable {ls: af} {k n: Int}
end
section
variable {c: af}
end
def fxD (D:af)(t:Int):Nat->af
 |0=>D
 |n+1=>(fxD D t n).set t.toNat [.s 1 (clK (aU (fxD D t n) t 0) n 8)]
def fuL (D:af)(t:Int):af:=H5 (aU D t 0) 4
section
variable {D: af} {t: Int} {n B: Nat}
end
section
variable {a0 a1 a2: af} {a3: Int} {a4 a5 a6 a7 a8 a9 aA aB: af} {aC: Int} {aD: af} {aE aF aG aH: Int} {aI: Bool} {aJ aK: Int} {aL: af} {aM aN t: Int}
structure FuT (a9:af)(t:Int)(z:zw):Prop where
 t0:0<=t
 t1:t<a9.length
 k:caOk (aU a9 t 0)=true
 d:Gv (fuL a9 t)
 q:Rv (fuL a9 t) 0 z
 l:(fuL a9 t).length<=32
 c:CdI a9 a9.length 1000000000
end
structure FuO (me:Bool)(kp mv t:Int)(D:af)(s:zw)(k n:Int)(c u e f z x:af):Prop where
 en:n=(H5 (aU D t 0) k.toNat).length
 p:Ms me kp mv (fuL D t) s n c u e f z
 x:x=fxD D t k.toNat
structure FuN (me:Bool)(kp mv t:Int)(D:af)(s:zw)(k i n:Int)(c u e f z:af):Prop where
 en:n=(H5 (aU D t 0) k.toNat).length+i
 p:Ms me kp mv (fuL D t) s n c u e f z
section
variable {me: Bool} {kp mv t k n i: Int} {D c u e f z x c0 u0 e0 f0 z0: af} {s: zw}
end
section
variable {a0 a1 a2: af} {a3: Int} {a4 a5 a6 a7 a8 a9 aA aB: af} {aC: Int} {aD: af} {aE aF aG aH: Int} {aI: Bool} {aJ aK: Int} {aL: af} {aM aN t k i n m: Int} {c u e f s x c1 u1 e1 f1 s1: af}
end
end Go.V
namespace Go.V
def K1 {sp lg:af}{a s:Int}(h:okO sp lg a s=true)(c:clsOf s<0):0<=md lg a/\md lg a<lg.length/\ag lg (md lg a) 0*16=a:=by
 unfold okO at h;simp only[Zb,Z5,VN]at h;obtain⟨o,⟨k,e⟩|⟨k,e⟩⟩:=h
 ·exfalso;obtain⟨d,q,l,t⟩:=JL k;have b:=ay.1 (mU (uC.1 t).1).2.2.1;rw[d]at e;omega
 ·unfold dnK at k;by_cases z:0<=gE sp a
  ·rw[VO z]at k;split at k<;>omega
  ·rw[VP z]at k;by_cases y:0<=md lg a
   ·have p:=gu (p:=Ay lg a) (n:=lg.length) y;unfold dnO at o;rw[VP z,VO y]at o;unfold loA loI at o;have p2:lhB (ag lg (md lg a) 0) (ag lg (md lg a) 1) (ag lg (md lg a) 2) a=true:=p.2;rw[VO p2]at o;exact⟨y,p.1,Uc⟩
   ·rw[VP y]at k;omega
structure LfT (a5 a7:af)(ad:Int):Prop where
 k0:0<=lhI a7 ad
 k1:lhI a7 ad<a7.length
 p:Mw a7 ad*16=ad
 p0:0<=Mw a7 ad
 n1:1<=NW a7 ad
 m:Mw a7 ad+NW a7 ad<=32
 f:a5.length<=32
section
variable {a0 a1 a2: af} {a3: Int} {a4 a5 a6 a7 a8 a9 aA aB: af} {aC: Int} {aD: af} {aE aF aG aH: Int} {aI: Bool} {aJ aK: Int} {aL: af} {aM aN t ad i: Int} {c u e f s x: af}
def T7 (h:hpI a0 a1 a2 a3 a4 a5 a6 a7 a8 a9 aA aB aC aD aE aF aG aH aI aJ aK aL aM aN=true)(F:FoT a2 a6 a7 a8 a9 ad)(c:mf a8 ad<0):LfT a5 a7 ad:=by
 have T:=hY h;have L:=Qm T.l;obtain⟨y,y1,ye⟩:=K1 F.ok c;have k0:0<=lhI a7 ad:=by
  have g:=oh (L.l (md a7 ad).toNat Uc);rw[Zj y]at g;have n:=qL g.1;refine xM (p:=Dl a7 ad) (i:=(md a7 ad).toNat) Uc ?_;unfold Dl pmB;rw[Zj y];have q:bQ .mul Za (ag a7 (md a7 ad) 0) 16=ag a7 (md a7 ad) 0*16:=ux Uc;rw[q,ye];exact VL rfl
 have kk:=aje k0;have g:=oh (L.l (lhI a7 ad).toNat Uc);rw[Zj k0]at g;have n:=qL g.1;have q:bQ .mul Za (ag a7 (lhI a7 ad) 0) 16=ag a7 (lhI a7 ad) 0*16:=ux Uc;exact⟨k0,kk.1,by unfold Mw;have:=kk.2;omega,g.2.2.1,by unfold NW;omega,by unfold Mw NW;omega,acP h⟩
def PR (h:Rw [tI,tI,tI,tI] a8):Rw [tI,tI,tI,tI] (foO a8 ad)/\au (foO a8 ad)<=au a8:=by
 have d:=wv (i:=obI a8 ad) (j:=obI a8 ad+1) h Uc;exact⟨d.1,by show au (delL _ _ _)<=_;rw[d.1.cnt rfl,h.cnt rfl];exact d.2⟩
def acI (hc:kJ a0 a1 a2 a4 a5 a6 a7 a8 a9 aA aB aD aL)(S:FsT a0 a1 a2 a6 a8 ad):kJ (fcC a0 a2 a8 ad) a1 a2 a4 a5 a6 a7 (foO a8 ad) a9 aA aB aD aL:=by
 have n:=sV S.m S.w hc.r1 hc.r2;have o:=PR (ad:=ad) hc.r8;have c8:=hc.c8;exact {hc with r0:=S.w,c0:=by omega,r8:=o.1,c8:=by omega}
def afw {rm:Int}{qs:af}(h:quarOk rm qs=true):qs.length<=500:=by
 unfold quarOk at h;simp only[Zb,VN]at h;have r:=ay.1 h.2.1;have q:∀ n:Nat,n<=qs.length->(n:Int)<=Mz qs n:=fun n=>by
  induction n with
  |zero=>intro _;exact Yi _
  | succ n ih=>
    intro hn;have a:=ez.1 h.1 n Uc Uc;unfold QJ stlOk at a;simp only[Zb]at a;have c:=GG a.1;have:=ih Uc;rw[Mz];rcases c with c|c|c|c<;>omega
 have:=q qs.length (Ze _);have e:qcI qs=Mz qs qs.length:=rfl;omega
structure FqT (a8 a9:af)(aC:Int)(aD:af)(aF t ad:Int)(z:zw):Prop where
 t0:0<=t
 t1:t<a9.length
 d:Gv (fqR a8 aC aD aF ad)
 q:RN (fqR a8 aC aD aF ad) a9.length 1000000000 0 ⟨z,a9⟩
 l:(fqR a8 aC aD aF ad).length<=501
 w:Rw [tI,tI,tI] (fqL a8 aC aD aF ad)
 wl:(fqL a8 aC aD aF ad).length<=501
 r:Rw [tI,tI,tI] (fqR a8 aC aD aF ad)
def SR (hc:kJ a0 a1 a2 a4 a5 a6 a7 a8 a9 aA aB aD aL)(h9:au a9<=1000000000)(h:hpI a0 a1 a2 a3 a4 a5 a6 a7 a8 a9 aA aB aC aD aE aF aG aH aI aJ aK aL aM aN=true)(S:FsT a0 a1 a2 a6 a8 ad)(g:inR t 0 (a9.length-1)=true):FqT a8 a9 aC aD aF t ad ⟨fcC a0 a2 a8 ad,a1,a2,a5,a6⟩:=by
 have T:=hY h;have r:=ay.1 g;have q:=acS hc h9 h S;have l:=afw T.q;have ck:=ay.1 T.t;have d0:=S.d0;have d1:=S.d1;have wk: -9223372036854775808<=mf a8 ad/\mf a8 ad<=9223372036854775807:=by
  unfold mf clsOf;repeat' split
  all_goals omega
 have wa:Rw [tI,tI,tI] (aD++[DT ad (mf a8 ad) aF]):=Rw.append hc.r13 (Rw.one (show bV [tI,tI,tI] (DT ad (mf a8 ad) aF)from⟨⟨rfl,show-9223372036854775808<=ad/\ad<=9223372036854775807 from by omega⟩,⟨rfl,wk⟩,⟨rfl,show-9223372036854775808<=aF/\aF<=9223372036854775807 from by omega⟩,trivial⟩)) (by unfold maxLen;simp only[Zi,Zk];omega);have w:Rw [tI,tI,tI] (fqL a8 aC aD aF ad)/\(fqL a8 aC aD aF ad).length<=501/\Rw [tI,tI,tI] (fqR a8 aC aD aF ad):=by
  unfold fqL fqR;cases b:Iy aC aD ad (mf a8 ad) aF with
  |false=>rw[(Lk b).1,(Lk b).2];exact⟨hc.r13,Uc,Rw.nil⟩
  | true=>
    rw[(Ov b).1,(Ov b).2];exact⟨Rw.drop wa _,by rw[Zq,Zf];simp only[Zi,Zk];omega,Rw.take wa _⟩
 exact⟨r.1,Uc,q.1,q.2.1,Uc,w.1,w.2.1,w.2.2⟩
def SU (hc:kJ a0 a1 a2 a4 a5 a6 a7 a8 a9 aA aB aD aL)(h:hpI a0 a1 a2 a3 a4 a5 a6 a7 a8 a9 aA aB aC aD aE aF aG aH aI aJ aK aL aM aN=true)(hn:a3≠100000)(S:FsT a0 a1 a2 a6 a8 ad)(T:FqT a8 a9 aC aD aF t ad ⟨fcC a0 a2 a8 ad,a1,a2,a5,a6⟩) 
 (P:Pp aI aJ aK t (fqR a8 aC aD aF ad) ⟨⟨fcC a0 a2 a8 ad,a1,a2,a5,a6⟩,a9⟩ i c u e f s x) (i0:0<=i) (i1:i<(fqR a8 aC aD aF ad).length):
 kJ c u e a4 f s a7 (foO a8 ad) x aA aB (fqL a8 aC aD aF ad) aL/\kerOk c u e a3 a4=true/\a3≠100000/\f.length<=65/\rR s/\(∃ k,qg s (ag (fqR a8 aC aD aF ad) i 0) k)/\0<=t/\t<x.length:=by
 have I:=afE (me:=aI) (kp:=aJ) (mv:=aK) T.d T.q T.t0 T.t1 i.toNat Uc;rw[<-afB P]at I;have k:=gK (hY h).k;have wl:=T.wl;have H:=PV (b13:=fqL a8 aC aD aF ad) (acI hc S) I.fr T.w Uc;have D:=I.d;have dw:=D.w;have dl:=D.l;have dc:=D.c;have tl:=T.l;have t0:=T.t0;have t1:=T.t1;simp only at dw dl dc;obtain⟨j,v⟩:=I.q i.toNat (Ze _) Uc;rw[Zj i0]at v;exact⟨{H with r9:=dw,c9:=by omega},xZ I.fr.m k.2.1 k.2.2.1 k.2.2.2,hn,I.fr.lf,I.fr.g,⟨j,v⟩,t0,Uc⟩
end
def hfK (k:Bool)(c:Int)(es sp lg os m b x:af)(t ad:Int):Int:=
 if k=false\/c=100000 then 6 else if inR t 0 (m.length-1)=false then 1 else if obI os ad<0 then P9 sp lg ad else if mf os ad<0 then 0 else if peM es (ad/16)=1 then 5 else if t=foT os ad then 0 else if sdB b x t (foT os ad) ad=true then 0 else 5
section
variable {k g: Bool} {c t ad: Int} {es sp lg os m b x: af}
def SI (h:g=false):fbL g os ad=false/\fbP g es os b x t ad=false/\fbQ g es os t ad=false:=by
 subst h;exact⟨rfl,rfl,rfl⟩
def SJ (h:obI os ad<0):fbL g os ad=false/\fbP g es os b x t ad=false/\fbQ g es os t ad=false:=by
 have q:SN g os ad=false:=by unfold SN;rw[VM (p:=0<=obI os ad) Uc];simp
 unfold fbL fbP fbQ SH;rw[q];exact⟨rfl,rfl,rfl⟩
def ahy (h:g=true)(o:0<=obI os ad)(c:mf os ad<0):fbL g os ad=true/\fbP g es os b x t ad=false/\fbQ g es os t ad=false:=by
 unfold fbL fbP fbQ SH SN;rw[h,VL o,VL c,VM (p:=0<=mf os ad) Uc];exact⟨rfl,rfl,rfl⟩
def ahC (c:0<=mf os ad)(r:peM es (ad/16)=1):fbL g os ad=false/\fbP g es os b x t ad=false/\fbQ g es os t ad=false:=by
 unfold fbL fbP fbQ SH;rw[VM (p:=mf os ad<0) Uc,VM (p:=peM es (ad/16)≠1) (fun n=>n r)];simp
def ahz (c:0<=mf os ad)(n:t≠foT os ad)(s:sdB b x t (foT os ad) ad=false):fbL g os ad=false/\fbP g es os b x t ad=false/\fbQ g es os t ad=false:=by
 unfold fbL fbP fbQ;rw[VM (p:=mf os ad<0) Uc,VM (p:=t=foT os ad) n,s];simp
def ahA (h:g=true)(o:0<=obI os ad)(c:0<=mf os ad)(r:peM es (ad/16)≠1)(n:t≠foT os ad)(s:sdB b x t (foT os ad) ad=true):fbL g os ad=false/\fbP g es os b x t ad=true/\fbQ g es os t ad=false:=by
 unfold fbL fbP fbQ SH SN;rw[h,VL o,VL c,VM (p:=mf os ad<0) Uc,VL r,VL n,VM (p:=t=foT os ad) n,s];exact⟨rfl,rfl,rfl⟩
def ahB (h:g=true)(o:0<=obI os ad)(c:0<=mf os ad)(r:peM es (ad/16)≠1)(n:t=foT os ad):fbL g os ad=false/\fbP g es os b x t ad=false/\fbQ g es os t ad=true:=by
 unfold fbL fbP fbQ SH SN;rw[h,VL o,VL c,VM (p:=mf os ad<0) Uc,VL r,VL n,VM (p:=t≠foT os ad) (fun z=>z n)];exact⟨rfl,rfl,rfl⟩
def P4 (h:k=false\/c=100000):hfK k c es sp lg os m b x t ad=6:=by unfold hfK;rw[VO h]
def E2 (h:k=true)(n:c≠100000):¬ (k=false\/c=100000):=by rw[h];rintro(q|q);cases q;exact n q
def ac7 (h:k=true)(n:c≠100000)(i:inR t 0 (m.length-1)=false):hfK k c es sp lg os m b x t ad=1:=by unfold hfK;rw[VP (E2 h n),VO i]
def H8 (i:inR t 0 (m.length-1)=true):¬ inR t 0 (m.length-1)=false:=by rw[i];exact Xy
def Ka (h:k=true)(n:c≠100000)(i:inR t 0 (m.length-1)=true)(o:obI os ad<0):hfK k c es sp lg os m b x t ad=P9 sp lg ad:=by unfold hfK;rw[VP (E2 h n),VP (H8 i),VO o]
def ac8 (h:k=true)(n:c≠100000)(i:inR t 0 (m.length-1)=true)(o:0<=obI os ad)(l:mf os ad<0):hfK k c es sp lg os m b x t ad=0:=by unfold hfK;rw[VP (E2 h n),VP (H8 i),VP Uc,VO l]
def adc (h:k=true)(n:c≠100000)(i:inR t 0 (m.length-1)=true)(o:0<=obI os ad)(l:0<=mf os ad)(r:peM es (ad/16)=1):hfK k c es sp lg os m b x t ad=5:=by unfold hfK;rw[VP (E2 h n),VP (H8 i),VP Uc,VP Uc,VO r]
def adb (h:k=true)(n:c≠100000)(i:inR t 0 (m.length-1)=true)(o:0<=obI os ad)(l:0<=mf os ad)(r:peM es (ad/16)≠1)(q:t=foT os ad):hfK k c es sp lg os m b x t ad=0:=by unfold hfK;rw[VP (E2 h n),VP (H8 i),VP Uc,VP Uc,VP r,VO q]
def ada (h:k=true)(n:c≠100000)(i:inR t 0 (m.length-1)=true)(o:0<=obI os ad)(l:0<=mf os ad)(r:peM es (ad/16)≠1)(q:t≠foT os ad)(s:sdB b x t (foT os ad) ad=true):hfK k c es sp lg os m b x t ad=0:=by unfold hfK;rw[VP (E2 h n),VP (H8 i),VP Uc,VP Uc,VP r,VP q,VO s]
def ac9 (h:k=true)(n:c≠100000)(i:inR t 0 (m.length-1)=true)(o:0<=obI os ad)(l:0<=mf os ad)(r:peM es (ad/16)≠1)(q:t≠foT os ad)(s:sdB b x t (foT os ad) ad=false):hfK k c es sp lg os m b x t ad=5:=by unfold hfK;rw[VP (E2 h n),VP (H8 i),VP Uc,VP Uc,VP r,VP q,VP (by rw[s];exact Xy)]
end
end Go.V
namespace Go.V
section
variable {rm a c s i: Int} {qs: af}
def afk (h:quarOk rm qs=false):Iy rm qs a c s=false:=by unfold Iy;rw[h];rfl
def afl (h:stlOk qs a c s=false):Iy rm qs a c s=false:=by unfold Iy;rw[h];simp
def afm (h:quarOk rm qs=true)(g:stlOk qs a c s=true):Iy rm qs a c s=true:=by unfold Iy;rw[h,g];rfl
def aa0:((qs++[DT a c s]).length:Int)=qs.length+1:=by rw[Zf];rfl
def afj (w:Rw [tI,tI,tI] qs)(l:qs.length<=1073741823)(ha: -9223372036854775808<=a/\a<=9223372036854775807)(hc: -9223372036854775808<=c/\c<=9223372036854775807)(hs: -9223372036854775808<=s/\s<=9223372036854775807):Rw [tI,tI,tI] (qs++[DT a c s]):=
 Rw.append w (Rw.one (show bV [tI,tI,tI] (DT a c s)from⟨⟨rfl,ha⟩,⟨rfl,hc⟩,⟨rfl,hs⟩,trivial⟩)) (by unfold maxLen;simp only[Zi,Zk];omega)
end
def ajL {rm:Int}{qs:af}(h:quarOk rm qs=true):inR rm 0 500=true:=by
 unfold quarOk at h;simp only[Zb]at h;exact h.2.1
def gi1 (l:af)(i:Int):Int:=ag l i 1
def lgC (c u e l:af)(ad:Int):af:=duC c u e (Mw l ad) (NW l ad)
def lgU (c u e l:af)(ad:Int):af:=duU c u e (Mw l ad) (NW l ad)
def lgE (c u e l:af)(ad:Int):af:=duE c u e (Mw l ad) (NW l ad)
def lgF (c u e f l:af)(ad:Int):af:=rpL (zlI (lgE c u e l ad)) f (Mw l ad) (NW l ad)
def lgL (l:af)(ad:Int):af:=delL l (lhI l ad) (lhI l ad+1)
end Go.V
namespace Go.V
section
variable {a0 a1 a2: af} {a3: Int} {a4 a5 a6 a7 a8 a9 aA aB: af} {aC: Int} {aD: af} {aE aF aG aH: Int} {aI: Bool} {aJ aK: Int} {aL: af} {aM aN t ad: Int}
def T9 (hc:kJ a0 a1 a2 a4 a5 a6 a7 a8 a9 aA aB aD aL):kJ a0 a1 a2 a4 a5 a6 (lgL a7 ad) (foO a8 ad) a9 aA aB aD aL:=by
 have l:=wv (i:=lhI a7 ad) (j:=lhI a7 ad+1) hc.r7 Uc;have o:=PR (ad:=ad) hc.r8;have c7:=hc.c7;have c8:=hc.c8;exact {hc with r7:=l.1,c7:=by show au (delL _ _ _)<=_;rw[l.1.cnt rfl];rw[hc.r7.cnt rfl]at c7;omega,r8:=o.1,c8:=by omega}
def acR (h:Rw [tI,tI,tI,tI] a8)(k0:0<=obI a8 ad)(k1:obI a8 ad<a8.length):(-9223372036854775808<=foT a8 ad/\foT a8 ad<=9223372036854775807)/\ -9223372036854775808<=mf a8 ad/\mf a8 ad<=9223372036854775807:=by
 refine⟨As h (j:=3) rfl Uc,?_⟩;unfold mf clsOf;repeat' split
 all_goals omega
def aeU (k0:0<=obI a8 ad):obI a8 ad<a8.length:=(gu (p:=Ig a8 ad) (n:=a8.length) k0).1
end
end Go.V
namespace Go.V
def NI {us es rs:af}{c p:Int}:(G7 us es c rs p).length=us.length:=by unfold G7;split<;>simp
def G6 {us es rs:af}{c p:Int}:(Fj us es c rs p).length=es.length:=by
 unfold Fj;split;exact kU;rfl
def aiJ {us es rs:af}{c p:Int}(h:vk us es c rs p=false):G7 us es c rs p=us/\Fj us es c rs p=es:=by unfold G7 Fj;rw[h];exact⟨rfl,rfl⟩
def aiK {us es rs:af}{c p:Int}(h:vk us es c rs p=true):G7 us es c rs p=us.set (dV us).toNat [.v (.bool true)]/\Fj us es c rs p=qz es p 2 (dV us):=by unfold G7 Fj;rw[VO h,VO h];exact⟨rfl,rfl⟩
def aiF {us es rs:af}{c p:Int}(h:hasB rs c=true):vk us es c rs p=false:=by unfold vk;rw[h];rfl
def aiG {us es rs:af}{c p:Int}(h:dV us<0):vk us es c rs p=false:=by unfold vk;rw[VM (p:=0<=dV us) Uc];simp
def aiH {us es rs:af}{c p:Int}(h:inR p 0 (es.length-1)=false):vk us es c rs p=false:=by unfold vk;rw[h];simp
def aiI {us es rs:af}{c p:Int}(h:peM es p≠0):vk us es c rs p=false:=by unfold vk;rw[VM h];simp
def aiL {us es rs:af}{c p:Int}(h1:hasB rs c=false)(h2:0<=dV us)(h3:inR p 0 (es.length-1)=true)(h4:peM es p=0):vk us es c rs p=true:=by unfold vk;rw[h1,h3,VL h2,VL h4];rfl
structure U2 where
 u:af
 e:af
def Cq (a1 a2:af)(c:Int)(rs:af)(t:Int):Nat->U2
 |0=>⟨a1,a2⟩
 |n+1=>⟨G7 (Cq a1 a2 c rs t n).u (Cq a1 a2 c rs t n).e (c+n) rs (t+n),Fj (Cq a1 a2 c rs t n).u (Cq a1 a2 c rs t n).e (c+n) rs (t+n)⟩
def Mo {a1 a2 rs:af}{c t:Int}{n:Nat}:Cq a1 a2 c rs t (n+1)=⟨G7 (Cq a1 a2 c rs t n).u (Cq a1 a2 c rs t n).e (c+n) rs (t+n),Fj (Cq a1 a2 c rs t n).u (Cq a1 a2 c rs t n).e (c+n) rs (t+n)⟩:=rfl
def xqB (a1 a2:af)(c:Int)(rs:af)(t i:Int):Bool:=vk (Cq a1 a2 c rs t i.toNat).u (Cq a1 a2 c rs t i.toNat).e (c+i) rs (t+i)
def xqF (a1 a2:af)(c:Int)(rs:af)(t n:Int):Int:=da (cY (xqB a1 a2 c rs t)) n.toNat
structure CG (a0 a1 a2:af)(c:Int)(rs:af)(t i:Int)(u e:af):Prop where
 m:ig a0 u e
 ru:Rw [tB] u
 re:Rw [tI,tI] e
 l:e.length=a2.length
 lu:u.length=a1.length
 eu:u=(Cq a1 a2 c rs t i.toNat).u
 ee:e=(Cq a1 a2 c rs t i.toNat).e
 g:upto (cY (cY (xqB a1 a2 c rs t))) i
section
variable {a0 a1 a2 rs u e: af} {c t i n: Int}
def ag9 (m:ig a0 a1 a2)(ru:Rw [tB] a1)(re:Rw [tI,tI] a2):CG a0 a1 a2 c rs t 0 a1 a2:=⟨m,ru,re,rfl,rfl,rfl,rfl,cr⟩
def Rs (h:CG a0 a1 a2 c rs t i u e):vk u e (c+i) rs (t+i)=xqB a1 a2 c rs t i:=by unfold xqB;rw[<-h.eu, <-h.ee]
def abR (h:CG a0 a1 a2 c rs t i u e)(i0:0<=i)(b:vk u e (c+i) rs (t+i)=true):CG a0 a1 a2 c rs t (i+1) (G7 u e (c+i) rs (t+i)) (Fj u e (c+i) rs (t+i)):=by
 have k:=(h.m).u;have k2:=h.m.n1;have w:=Qe (c:=c+i) (rs:=rs) (p:=t+i) h.ru h.re Uc;have s:(i+1).toNat=i.toNat+1:=by omega
 have q:((i.toNat:Nat):Int)=i:=by omega
 refine⟨adU h.m,w.1,w.2,by rw[G6];exact h.l,by rw[NI];exact h.lu,?_,?_,bU h.g (gC ?_)⟩
 ·rw[s,Mo,q, <-h.eu, <-h.ee]
 ·rw[s,Mo,q, <-h.eu, <-h.ee]
 ·show cY (xqB a1 a2 c rs t) i=false;unfold cY;rw[<-Rs h,b];rfl
def abQ (h:CG a0 a1 a2 c rs t i u e)(i0:0<=i)(i1:i<n)(b:vk u e (c+i) rs (t+i)=false):xqF a1 a2 c rs t n=i:=
 dU h.g i0 Uc (gC (by rw[<-Rs h];exact b))
def Ph (h:CG a0 a1 a2 c rs t i u e)(i1:n<=i)(i0:0<=i):xqF a1 a2 c rs t n= -1:=eQ h.g Uc
def HT (m:ig a0 a1 a2)(ru:Rw [tB] a1)(re:Rw [tI,tI] a2):∀ k:Nat,ig a0 (Cq a1 a2 c rs t k).u (Cq a1 a2 c rs t k).e/\Rw [tB] (Cq a1 a2 c rs t k).u/\Rw [tI,tI] (Cq a1 a2 c rs t k).e/\(Cq a1 a2 c rs t k).e.length=a2.length
 |0=>⟨m,ru,re,rfl⟩
 | k+1=>by
   obtain⟨q1,q2,q3,q4⟩:=HT m ru re k;have k1:=q1.u;have k2:=q1.n1;have w:=Qe (c:=c+k) (rs:=rs) (p:=t+k) q2 q3 Uc;exact⟨adU q1,w.1,w.2,by rw[Mo];show(Fj _ _ _ _ _).length=_;rw[G6];exact q4⟩
end
def zh (a2 a5:af)(n:Int):Int:=tkA (zlI a2) a5 n
def Pg (a1 a2:af)(a3:Int)(a4 a5:af)(n:Int):Int:=xqF a1 a2 a3 a4 (zh a2 a5 n) n
def Ro (a1 a2:af)(a3:Int)(a4 a5:af)(n:Int):Int:=if tkB (zlI a2) a5 n=true then(if Pg a1 a2 a3 a4 a5 n<0 then n else Pg a1 a2 a3 a4 a5 n)else 0
def MD (a1 a2:af)(a3:Int)(a4 a5:af)(n:Int):Int:=if tkB (zlI a2) a5 n=true then(if Pg a1 a2 a3 a4 a5 n<0 then 0 else Pg a1 a2 a3 a4 a5 n)else 0
def xpB (a1 a2:af)(a3:Int)(a4 a5:af)(n:Int):Bool:=tkB (zlI a2) a5 n&&decide (Pg a1 a2 a3 a4 a5 n<0)
def I8 (a1 a2:af)(a3:Int)(a4 a5:af)(n:Int):U2:=Cq a1 a2 a3 a4 (zh a2 a5 n) (Ro a1 a2 a3 a4 a5 n).toNat
def xpC (a0 a1 a2:af)(a3:Int)(a4 a5:af)(n:Int):af:=duC a0 (I8 a1 a2 a3 a4 a5 n).u (I8 a1 a2 a3 a4 a5 n).e (zh a2 a5 n) (MD a1 a2 a3 a4 a5 n)
def xpU (a0 a1 a2:af)(a3:Int)(a4 a5:af)(n:Int):af:=duU a0 (I8 a1 a2 a3 a4 a5 n).u (I8 a1 a2 a3 a4 a5 n).e (zh a2 a5 n) (MD a1 a2 a3 a4 a5 n)
def xpE (a0 a1 a2:af)(a3:Int)(a4 a5:af)(n:Int):af:=duE a0 (I8 a1 a2 a3 a4 a5 n).u (I8 a1 a2 a3 a4 a5 n).e (zh a2 a5 n) (MD a1 a2 a3 a4 a5 n)
def xpK (a1 a2:af)(a3:Int)(a4 a5:af)(n:Int):Int:=if tkB (zlI a2) a5 n=true then(if Pg a1 a2 a3 a4 a5 n<0 then a3+n else a3+Pg a1 a2 a3 a4 a5 n+1)else a3
def xpF (a1 a2:af)(a3:Int)(a4 a5:af)(n:Int):af:=if xpB a1 a2 a3 a4 a5 n=true then tkL (zlI a2) a5 n else a5
def xpA (a1 a2:af)(a3:Int)(a4 a5:af)(n:Int):Int:=if xpB a1 a2 a3 a4 a5 n=true then zh a2 a5 n else-1
section
variable {a0 a1 a2: af} {a3: Int} {a4 a5 u e c' u' e': af} {n i: Int}
def ag5 (h:tkB (zlI a2) a5 n=false):xpC a0 a1 a2 a3 a4 a5 n=a0/\xpU a0 a1 a2 a3 a4 a5 n=a1/\xpE a0 a1 a2 a3 a4 a5 n=a2/\xpK a1 a2 a3 a4 a5 n=a3/\xpF a1 a2 a3 a4 a5 n=a5/\xpA a1 a2 a3 a4 a5 n= -1/\xpB a1 a2 a3 a4 a5 n=false:=by
 have d:MD a1 a2 a3 a4 a5 n=0:=by unfold MD;rw[h];rfl
 have j:Ro a1 a2 a3 a4 a5 n=0:=by unfold Ro;rw[h];rfl
 have b:xpB a1 a2 a3 a4 a5 n=false:=by unfold xpB;rw[h];rfl
 have v:I8 a1 a2 a3 a4 a5 n=⟨a1,a2⟩:=by unfold I8;rw[j];rfl
 refine⟨?_,?_,?_,?_,?_,?_,b⟩
 ·unfold xpC;rw[d,v];exact H2.1
 ·unfold xpU;rw[d,v];exact(H2 (c:=a0)).2.1
 ·unfold xpE;rw[d,v];exact(H2 (c:=a0) (u:=a1)).2.2
 ·unfold xpK;rw[h];rfl
 ·unfold xpF;rw[b];rfl
 ·unfold xpA;rw[b];rfl
def akt (h:tkB (zlI a2) a5 n=true)(p:CG a0 a1 a2 a3 a4 (zh a2 a5 n) i u e)(i0:0<=i)(i1:n<=i)(i2:i<=n):xpC a0 a1 a2 a3 a4 a5 n=a0/\xpU a0 a1 a2 a3 a4 a5 n=u/\xpE a0 a1 a2 a3 a4 a5 n=e/\xpK a1 a2 a3 a4 a5 n=a3+n/\xpF a1 a2 a3 a4 a5 n=tkL (zlI a2) a5 n/\xpA a1 a2 a3 a4 a5 n=zh a2 a5 n/\xpB a1 a2 a3 a4 a5 n=true:=by
 have f:Pg a1 a2 a3 a4 a5 n= -1:=Ph p i1 i0;have d:MD a1 a2 a3 a4 a5 n=0:=by unfold MD;rw[VO h,f];rfl
 have j:Ro a1 a2 a3 a4 a5 n=n:=by unfold Ro;rw[VO h,f];rfl
 have b:xpB a1 a2 a3 a4 a5 n=true:=by unfold xpB;rw[h,f];rfl
 have v:I8 a1 a2 a3 a4 a5 n=⟨u,e⟩:=by
  unfold I8;rw[j,p.eu,p.ee,show i=n by omega]
 refine⟨?_,?_,?_,?_,?_,?_,b⟩
 ·unfold xpC;rw[d,v];exact H2.1
 ·unfold xpU;rw[d,v];exact(H2 (c:=a0)).2.1
 ·unfold xpE;rw[d,v];exact(H2 (c:=a0) (u:=u)).2.2
 ·unfold xpK;rw[VO h,f];rfl
 ·unfold xpF;rw[VO b]
 ·unfold xpA;rw[VO b]
def aks (h:tkB (zlI a2) a5 n=true)(p:CG a0 a1 a2 a3 a4 (zh a2 a5 n) i u e)(i0:0<=i)(i1:i<n)(g:vk u e (a3+i) a4 (zh a2 a5 n+i)=false):xpC a0 a1 a2 a3 a4 a5 n=duC a0 u e (zh a2 a5 n) i/\xpU a0 a1 a2 a3 a4 a5 n=duU a0 u e (zh a2 a5 n) i/\xpE a0 a1 a2 a3 a4 a5 n=duE a0 u e (zh a2 a5 n) i/\xpK a1 a2 a3 a4 a5 n=a3+i+1/\xpF a1 a2 a3 a4 a5 n=a5/\xpA a1 a2 a3 a4 a5 n= -1/\xpB a1 a2 a3 a4 a5 n=false:=by
 have f:Pg a1 a2 a3 a4 a5 n=i:=abQ p i0 i1 g;have d:MD a1 a2 a3 a4 a5 n=i:=by unfold MD;rw[VO h,f,VP Uc]
 have j:Ro a1 a2 a3 a4 a5 n=i:=by unfold Ro;rw[VO h,f,VP Uc]
 have b:xpB a1 a2 a3 a4 a5 n=false:=by unfold xpB;rw[h,f,VM Uc];rfl
 have v:I8 a1 a2 a3 a4 a5 n=⟨u,e⟩:=by unfold I8;rw[j,p.eu,p.ee]
 refine⟨?_,?_,?_,?_,?_,?_,b⟩
 ·unfold xpC;rw[d,v]
 ·unfold xpU;rw[d,v]
 ·unfold xpE;rw[d,v]
 ·unfold xpK;rw[VO h,f,VP Uc]
 ·unfold xpF;rw[b];rfl
 ·unfold xpA;rw[b];rfl
def akr (m:ig a0 a1 a2)(rc:Rw [.sl [tI]] a0)(ru:Rw [tB] a1)(re:Rw [tI,tI] a2):ig (xpC a0 a1 a2 a3 a4 a5 n) (xpU a0 a1 a2 a3 a4 a5 n) (xpE a0 a1 a2 a3 a4 a5 n)/\Rw [.sl [tI]] (xpC a0 a1 a2 a3 a4 a5 n)/\Rw [tB] (xpU a0 a1 a2 a3 a4 a5 n)/\Rw [tI,tI] (xpE a0 a1 a2 a3 a4 a5 n)/\(xpE a0 a1 a2 a3 a4 a5 n).length=a2.length/\au (xpC a0 a1 a2 a3 a4 a5 n)<=1024/\au (xpU a0 a1 a2 a3 a4 a5 n)<=64/\au (xpE a0 a1 a2 a3 a4 a5 n)<=64:=by
 have v:=HT (c:=a3) (rs:=a4) (t:=zh a2 a5 n) m ru re (Ro a1 a2 a3 a4 a5 n).toNat;have d:=acB (t:=zh a2 a5 n) (l:=MD a1 a2 a3 a4 a5 n) v.1 rc v.2.1 v.2.2.1;exact⟨d.1,d.2.1,d.2.2.1,d.2.2.2.1,d.2.2.2.2.1.trans v.2.2.2,d.2.2.2.2.2⟩
def abO (h:Rw [tI,tI] a5):Rw [tI,tI] (xpF a1 a2 a3 a4 a5 n)/\(xpF a1 a2 a3 a4 a5 n).length<=a5.length:=by
 unfold xpF;split;exact agn h;exact⟨h,Ze _⟩
def ag4 (h:xpB a1 a2 a3 a4 a5 n=true):tkB (zlI a2) a5 n=true/\xpA a1 a2 a3 a4 a5 n=zh a2 a5 n/\TkT (zlI a2) a5 n:=by
 have q:=h;unfold xpB at q;rw[Zb]at q;exact⟨q.1,by unfold xpA;rw[VO h],BY q.1⟩
def Mm (h:tkB (zlI a2) a5 n=true):0<=zh a2 a5 n/\zh a2 a5 n+n<=a2.length/\1<=n/\(a2.length:Int)<=32:=by
 have T:=BY h;have e:zh a2 a5 n=ag a5 (eh a5 n) 0:=by unfold zh tkA;rw[VO h]
 have q1:=T.a0;have q2:=T.l0;have q3:=T.e;have q4:=T.p0;have q5:=T.n0;unfold zlI at q3 q4;omega
end
end Go.V
namespace Go.V
def kwU (k:Bool)(us es:af)(c:Int)(rs:af)(p:Int):af:=if k=true then G7 us es c rs p else us
def kwE (k:Bool)(us es:af)(c:Int)(rs:af)(p:Int):af:=if k=true then Fj us es c rs p else es
def kwB (k:Bool)(us es:af)(c:Int)(rs:af)(p:Int):Bool:=k&&vk us es c rs p
section
variable {cs us es rs: af} {c p n: Int}
def uu (h:vk us es c rs p=false):us=kwU true us es c rs p/\es=kwE true us es c rs p/\false=kwB true us es c rs p:=by
 have q:=aiJ h;refine⟨?_,?_,?_⟩
 ·unfold kwU;rw[VO rfl,q.1]
 ·unfold kwE;rw[VO rfl,q.2]
 ·unfold kwB;rw[h];rfl
def TW (h:vk us es c rs p=true):us.set (dV us).toNat [.v (.bool true)]=kwU true us es c rs p/\qz es p 2 (dV us)=kwE true us es c rs p/\true=kwB true us es c rs p:=by
 have q:=aiK h;refine⟨?_,?_,?_⟩
 ·unfold kwU;rw[VO rfl,q.1]
 ·unfold kwE;rw[VO rfl,q.2]
 ·unfold kwB;rw[h];rfl
def TN (h:kerOk cs us es c rs=true):framesOk cs us=true:=by
 unfold kerOk at h;simp only[Zb]at h;exact(KG h.1.1).1
def acZ (f:framesOk cs us=true)(h:ftB cs us=true):ftU cs us=us.set (dV us).toNat [.v (.bool true)]/\ftI cs us=dV us/\0<=dV us/\dV us<us.length:=by
 have q:=acY h;have b:=wy (us:=us);exact⟨q.2.2.2,q.2.2.1,Uc,Uc⟩
def ac0 (f:framesOk cs us=true)(h:ftB cs us=false):dV us<0:=by
 unfold ftB at h;rw[f,Yz]at h;have:=VR h;omega
def aeH (h:nhR rs c=false):hasB rs c=true:=by unfold nhR at h;simpa using h
def aeI (h:nhR rs c=true):hasB rs c=false:=by unfold nhR at h;simpa using h
def ajr (h:mapB es p=false):peM es p=0:=by unfold mapB at h;have:=VR h;omega
def ajW {m f:Int}(h:Rw [tI,tI] es)(p0:0<=p)(p1:p<es.length):jL (.s 2 es) [(p.toNat,0)] [.i m,.i f]=qz es p m f:=by
 unfold qz;exact eK (by rw[h.eta p0 p1];rfl)
def yQ {rs o:af}{a:Int}{b:Bool}(h1:tkL p rs n=o/\tkA p rs n=a)(h2:tkB p rs n=b):[DV.one (.s 2 o),DV.j a,DV.k b]=[DV.one (.s 2 (tkL p rs n)),DV.j (tkA p rs n),DV.k (tkB p rs n)]:=by rw[h1.1,h1.2,h2]
def agc {o:af}{n:Int}(h:Rw [tI,tI] o)(n0:0<=n)(n1:n<o.length):∃ rec o',bZ (.s 2 o) [(n.toNat,0)]=some (rec,o')/\o'+2<=rec.length:=fC Uc (by
 rw[h.eta n0 n1];exact Ze _)
def ago {b x y z:Int}{rs:af}(h:Rw [tI,tI] rs)(b0:0<=b)(b1:b<rs.length)(e:ag rs b 1=y)(hx: -9223372036854775808<=x/\x<=9223372036854775807):jL (.s 2 (jL (.s 2 rs) [(b.toNat,0)] [.i x])) [(b.toNat,1)] [.i z]=rs.set b.toNat [.i x,.i z]/\ag (jL (.s 2 rs) [(b.toNat,0)] [.i x]) b 1=y/\jL (.s 2 rs) [(b.toNat,0)] [.i x]=rs.set b.toNat [.i x,.i y]:=by
 have u:=Rf (x:=.int Za x) h b0 b1;rw[e]at u;have yb: -9223372036854775808<=y/\y<=9223372036854775807:=e▸As h (j:=1) rfl Uc;have r:Rw [tI,tI] (rs.set b.toNat [.i x,.i y]):=Rw.set h (show bV [tI,tI] [.i x,.i y]from⟨⟨rfl,hx⟩,⟨rfl,yb⟩,trivial⟩) _;have g:(rs.set b.toNat [.i x,.i y]).getD b.toNat []=[.i x,.i y]:=by rw[nu Uc,VO rfl]
 have g0:ag (rs.set b.toNat [.i x,.i y]) b 0=x:=by unfold ag;rw[g];rfl
 have g1:ag (rs.set b.toNat [.i x,.i y]) b 1=y:=by unfold ag;rw[g];rfl
 rw[u];refine⟨?_,g1,rfl⟩;rw[agy r b0 (by rw[Zw];exact b1),g0,Wl]
structure TkU (rs:af)(n:Int):Prop where
 g0:zq (.s 2 rs) [((eh rs n).toNat,0)]=ag rs (eh rs n) 0
 u1:jL (.s 2 rs) [((eh rs n).toNat,0)] [.i (ag rs (eh rs n) 0+n)]=rs.set (eh rs n).toNat [.i (ag rs (eh rs n) 0+n),.i (ag rs (eh rs n) 1)]
 g1:zq (.s 2 (rs.set (eh rs n).toNat [.i (ag rs (eh rs n) 0+n),.i (ag rs (eh rs n) 1)])) [((eh rs n).toNat,1)]=ag rs (eh rs n) 1
 u2:jL (.s 2 (rs.set (eh rs n).toNat [.i (ag rs (eh rs n) 0+n),.i (ag rs (eh rs n) 1)])) [((eh rs n).toNat,1)] [.i (ag rs (eh rs n) 1-n)]=rs.set (eh rs n).toNat [.i (ag rs (eh rs n) 0+n),.i (ag rs (eh rs n) 1-n)]
 g2:zq (.s 2 (rs.set (eh rs n).toNat [.i (ag rs (eh rs n) 0+n),.i (ag rs (eh rs n) 1-n)])) [((eh rs n).toNat,1)]=ag rs (eh rs n) 1-n
 w1:Rw [tI,tI] (rs.set (eh rs n).toNat [.i (ag rs (eh rs n) 0+n),.i (ag rs (eh rs n) 1)])
 w2:Rw [tI,tI] (rs.set (eh rs n).toNat [.i (ag rs (eh rs n) 0+n),.i (ag rs (eh rs n) 1-n)])
 l:eh rs n<(rs.set (eh rs n).toNat [.i (ag rs (eh rs n) 0+n),.i (ag rs (eh rs n) 1)]).length
 l2:eh rs n<(rs.set (eh rs n).toNat [.i (ag rs (eh rs n) 0+n),.i (ag rs (eh rs n) 1-n)]).length
def akg (h:Rw [tI,tI] rs)(T:TkT p rs n):TkU rs n:=by
 have t0:=T.i0;have t1:=T.i1;have a:=T.a0;have b:=T.l0;have c:=T.e;have d:=T.p0;have e:=T.n0;have hx: -9223372036854775808<=ag rs (eh rs n) 0+n/\ag rs (eh rs n) 0+n<=9223372036854775807:=⟨Uc,Uc⟩;have q:=ago (x:=ag rs (eh rs n) 0+n) (z:=ag rs (eh rs n) 1-n) h t0 t1 rfl hx;have w:∀ y:Int,-9223372036854775808<=y->y<=9223372036854775807->Rw [tI,tI] (rs.set (eh rs n).toNat [.i (ag rs (eh rs n) 0+n),.i y]):=fun y y0 y1=>Rw.set h (show bV [tI,tI] [.i (ag rs (eh rs n) 0+n),.i y]from⟨⟨rfl,hx⟩,⟨rfl,⟨y0,y1⟩⟩,trivial⟩) _
 refine⟨dY t0,q.2.2,?_,?_,?_,w _ Uc Uc,w _ Uc Uc,by rw[Zw];exact t1,by rw[Zw];exact t1⟩
 ·rw[dY t0, <-q.2.2];exact q.2.1
 ·rw[<-q.2.2];exact q.1
 ·rw[dY t0];unfold ag;rw[nu Uc,VO rfl];rfl
def abw {b x y:Int}{rs:af}(b0:0<=b):delL (rs.set b.toNat [.i x,.i y]) b (b+1)=zH rs b:=Nh (rs:=rs) b0
end
end Go.V
namespace Go.V
def Ij (rs:af)(j:Nat)(x i:Int):Bool:=decide (x<=ag rs i j)
def Ii (rs:af)(j:Nat)(x:Int):Int:=if da (Ij rs j x) rs.length<0 then rs.length else da (Ij rs j x) rs.length
section
variable {rs: af} {j: Nat} {x i: Int}
def Kz:0<=Ii rs j x/\Ii rs j x<=rs.length:=by
 have h:=sM (p:=Ij rs j x) (n:=rs.length);unfold Ii;split;omega;omega
def TY (h:upto (cY (Ij rs j x)) i)(c:ag rs i j<x):upto (cY (Ij rs j x)) (i+1):=bU h (gC (VM Uc))
def Ha (h:upto (cY (Ij rs j x)) i)(i0:0<=i)(i1:i<rs.length)(c:x<=ag rs i j):i=Ii rs j x:=by
 have e:=dU (n:=rs.length) h i0 Uc (VL c);unfold Ii;rw[e,VP Uc]
def Bu (h:upto (cY (Ij rs j x)) i)(i1:i<=rs.length)(i2:(rs.length:Int)<=i):i=Ii rs j x:=by
 have e:=eQ (n:=rs.length) h Uc;unfold Ii;rw[e,VO Uc];omega
end
def inL (es:af)(i:Int)(x:af):af:=es.take i.toNat++(x++es.drop i.toNat)
section
variable {es x: af} {i: Int} {fs: List Ty}
def E7:(inL es i x).length=es.length+x.length:=by unfold inL;simp only[Zf,Zg,Zq];omega
def adz (h:Rw fs es)(hx:Rw fs x)(b:es.length+x.length<=maxLen):Rw fs (inL es i x):=by
 refine⟨by rw[E7];exact b,fun e he=>?_⟩;unfold inL at he;rcases Zh.1 he with q|q;exact h.2 e (Y4 q)
 ·rcases Zh.1 q with q|q;exact hx.2 e q;exact h.2 e (Yq q)
def ady:[]++es.take i.toNat++x++es.drop i.toNat=inL es i x:=by unfold inL;simp
def TC (i0:0<=i)(i1:i<=es.length):[]++mV es (YG 0) (zn i 0)++x++mV es i.toNat (zn (es.length:Int) i)=inL es i x:=by rw[qv,wN i0 i1];exact ady
end
def wiN (b i:Int):Int:=if slB b i=true then bQ .or Za b (LM .shl Za 1 i)else b
def agF {n b i:Int}(h:bmOk n b=true)(i0:0<=i)(i1:i<n):bmOk n (wiN b i)=true:=by
 unfold bmOk at h;rw[Zb]at h;have q1:=ay.1 h.1;have q2:=ay.1 h.2;have p:(2:Int)^n.toNat=((2^n.toNat:Nat):Int):=by rw[Int.natCast_pow];rfl
 have p16:2^n.toNat<=2^16:=Nat.pow_le_pow_right Uc Uc;obtain⟨N,hN⟩:∃ N:Nat,N=2^n.toNat:=⟨_,rfl⟩;rw[<-hN]at p p16;rw[p]at q2;obtain⟨m,rfl⟩:=ZX q2.1;obtain⟨k,rfl⟩:=ZX i0;have w:wiN (m:Int) (k:Int)=bQ .or Za (m:Int) ((2^k:Nat):Int):=by unfold wiN;rw[VO (DN.2 ⟨q2.1,i0,Uc⟩),Q4 Uc]
 have e:tG (m:Int)|||tG ((2^k:Nat):Int)=BitVec.ofNat 64 (m|||2^k):=by
  unfold tG;rw[Xh,Xh,BitVec.ofNat_or]
 have l:m|||2^k<N:=by rw[hN];exact Nat.or_lt_two_pow (by rw[<-hN];omega) (Nat.pow_lt_pow_right Uc Uc)
 have v:wiN (m:Int) (k:Int)=((m|||2^k:Nat):Int):=by
  rw[w,aeZ,e,Wh (by rw[Y2];omega),Y2];omega
 unfold bmOk;rw[h.1,v,p,Yz];exact ay.2 (show(0:Int)<=((m|||2^k:Nat):Int)/\((m|||2^k:Nat):Int)<=(N:Int)-1 from⟨Uc,Uc⟩)
def EZ {b:Int}:∀ {k:Nat} {j:Int},0<=j->j<(C7 b k).length->0<=ag (C7 b k) j 0/\ag (C7 b k) j 0<k
 |0,j,h0,h1=>absurd h1 (by show¬ j<((0:Nat):Int);omega)
 | k+1,j,h0,h1=>by
   unfold C7 at h1 ⊢;split at h1<;>rename_i c
   ·rw[VO c];have:=EZ h0 h1;omega
   ·rw[VP c];rw[Zf]at h1;simp only[Zi,Zk]at h1;by_cases q:j<(C7 b k).length
    ·have:=EZ h0 q;obtain⟨m,rfl⟩:=ZX h0;rw[xQ Uc];omega
    ·obtain rfl:j=((C7 b k).length:Int):=by omega
     rw[Ar];show 0<=(k:Int)/\(k:Int)<((k+1:Nat):Int);omega
def qX (a2 a6:af)(i:Int):af:=frL (slN (ag a6 i 1)) (ubB a2 a6 i)
def xcB (a2 a6:af)(i:Int):Bool:=decide (0<(qX a2 a6 i).length)
def qe (a2 a6:af)(s i:Int):Int:=ag (qX a2 a6 i) (cuI s (qX a2 a6 i).length) 0
def xcS (a2 a6:af)(s i:Int):af:=if xcB a2 a6 i=true then a6.set i.toNat [.i (ag a6 i 0),.i (ag a6 i 1),.i (wiN (ag a6 i 2) (qe a2 a6 s i))]else a6
def xcD (a2 a6:af)(s i:Int):Int:=if xcB a2 a6 i=true then cuS s (qX a2 a6 i).length else s
def xcA (a2 a6:af)(s i:Int):Int:=if xcB a2 a6 i=true then aaI (ag a6 i 0) (ag a6 i 1) (ag a6 i 2) (qe a2 a6 s i)else-1
section
variable {a2 a6: af} {s i: Int}
def abK (h:(qX a2 a6 i).length=0):xcB a2 a6 i=false/\xcS a2 a6 s i=a6/\xcD a2 a6 s i=s/\xcA a2 a6 s i= -1:=by
 have b:xcB a2 a6 i=false:=VM Uc;refine⟨b,?_,?_,?_⟩
 ·unfold xcS;rw[b];rfl
 ·unfold xcD;rw[b];rfl
 ·unfold xcA;rw[b];rfl
def abL (h:¬ (qX a2 a6 i).length=0):xcB a2 a6 i=true/\xcS a2 a6 s i=a6.set i.toNat [.i (ag a6 i 0),.i (ag a6 i 1),.i (wiN (ag a6 i 2) (qe a2 a6 s i))]/\xcD a2 a6 s i=cuS s (qX a2 a6 i).length/\xcA a2 a6 s i=aaI (ag a6 i 0) (ag a6 i 1) (ag a6 i 2) (qe a2 a6 s i):=by
 have b:xcB a2 a6 i=true:=VL Uc;refine⟨b,?_,?_,?_⟩
 ·unfold xcS;rw[VO b]
 ·unfold xcD;rw[VO b]
 ·unfold xcA;rw[VO b]
structure XcT (a2 a6:af)(s i:Int):Prop where
 l0:1<=(qX a2 a6 i).length
 l1:(qX a2 a6 i).length<=16
 k0:0<=cuI s (qX a2 a6 i).length
 k1:cuI s (qX a2 a6 i).length<(qX a2 a6 i).length
 t0:0<=qe a2 a6 s i
 t1:qe a2 a6 s i<slN (ag a6 i 1)
 n:slN (ag a6 i 1)<=16
 sp:spOk (ag a6 i 0) (ag a6 i 1) (wiN (ag a6 i 2) (qe a2 a6 s i))=true
 a0:0<=aaI (ag a6 i 0) (ag a6 i 1) (ag a6 i 2) (qe a2 a6 s i)
 a1:aaI (ag a6 i 0) (ag a6 i 1) (ag a6 i 2) (qe a2 a6 s i)<=511
 aa:aaI (ag a6 i 0) (ag a6 i 1) (wiN (ag a6 i 2) (qe a2 a6 s i)) (qe a2 a6 s i)=aaI (ag a6 i 0) (ag a6 i 1) (ag a6 i 2) (qe a2 a6 s i)
 w: -9223372036854775808<=wiN (ag a6 i 2) (qe a2 a6 s i)/\wiN (ag a6 i 2) (qe a2 a6 s i)<=9223372036854775807
 d:inR (cuS s (qX a2 a6 i).length) 0 1073741823=true
def Mk (hs:spOk (ag a6 i 0) (ag a6 i 1) (ag a6 i 2)=true)(hd:inR s 0 1073741823=true)(h:¬ (qX a2 a6 i).length=0):XcT a2 a6 s i:=by
 have t:=mU hs;have c:=nk t.2.2.1;have l:(qX a2 a6 i).length<=16:=by
  unfold qX frL;split
  ·have:=ww (b:=ubB a2 a6 i) (slN (ag a6 i 1)).toNat;omega
  ·simp
 have k:=CW (n:=(qX a2 a6 i).length) hd Uc Uc;have g:0<=qe a2 a6 s i/\qe a2 a6 s i<slN (ag a6 i 1):=by
  have e:qX a2 a6 i=C7 (ubB a2 a6 i) (slN (ag a6 i 1)).toNat:=by
   have q:bmOk (slN (ag a6 i 1)) (ubB a2 a6 i)=true:=by
    cases q:bmOk (slN (ag a6 i 1)) (ubB a2 a6 i)with
    |true=>rfl
    |false=>exact absurd (by unfold qX frL;rw[q];rfl) h
   unfold qX frL;rw[VO q]
  have q:=EZ (b:=ubB a2 a6 i) (k:=(slN (ag a6 i 1)).toNat) (j:=cuI s (qX a2 a6 i).length) k.1 (by rw[<-e];exact k.2.1);rw[<-e]at q;unfold qe;omega
 have w:=agF t.2.2.2 g.1 g.2;have sp:spOk (ag a6 i 0) (ag a6 i 1) (wiN (ag a6 i 2) (qe a2 a6 s i))=true:=by unfold spOk;rw[ay.2 ⟨t.1,t.2.1⟩,w];rfl
 have r:inR (qe a2 a6 s i) 0 (slN (ag a6 i 1)-1)=true:=ay.2 ⟨g.1,Uc⟩;have bb:=ahd w;have m1:0<=qe a2 a6 s i*clsSz (ag a6 i 1):=Int.mul_nonneg g.1 Uc;have m2:qe a2 a6 s i*clsSz (ag a6 i 1)<=(slN (ag a6 i 1)-1)*clsSz (ag a6 i 1):=Int.mul_le_mul_of_nonneg_right Uc Uc;have m3:(slN (ag a6 i 1)-1)*clsSz (ag a6 i 1)=16-clsSz (ag a6 i 1):=by rw[Int.sub_mul,c.2.2.2.2,Wd]
 have e1:aaI (ag a6 i 0) (ag a6 i 1) (ag a6 i 2) (qe a2 a6 s i)=ag a6 i 0*16+qe a2 a6 s i*clsSz (ag a6 i 1):=by unfold aaI MO;rw[hs,r];rfl
 have e2:aaI (ag a6 i 0) (ag a6 i 1) (wiN (ag a6 i 2) (qe a2 a6 s i)) (qe a2 a6 s i)=ag a6 i 0*16+qe a2 a6 s i*clsSz (ag a6 i 1):=by unfold aaI MO;rw[sp,r];rfl
 exact⟨Uc,l,k.1,k.2.1,g.1,g.2,c.2.2.2.1,sp,Uc,Uc,by rw[e1,e2],⟨Uc,Uc⟩,k.2.2⟩
end
end Go.V
namespace Go.V
def isL (a6:af)(p k b:Int):af:=inL a6 (Ii a6 0 p) [[.i p,.i k,.i b]]
def isI (a6:af)(p:Int):Int:=Ii a6 0 p
def xsL (a1 a2:af)(a3:Int)(a4 a5 a6:af)(k:Int):af:=if xpB a1 a2 a3 a4 a5 1=true then isL a6 (xpA a1 a2 a3 a4 a5 1) k 0 else a6
def Rt (a1 a2:af)(a3:Int)(a4 a5 a6:af)(k:Int):Int:=if xpB a1 a2 a3 a4 a5 1=true then isI a6 (xpA a1 a2 a3 a4 a5 1)else-1
def BL {o o':af}(h:o=o'):[DV.one (.s 1 o)]=[DV.one (.s 1 o')]:=by rw[h]
def ab2 {n b:Int}(h:bmOk n b=true):1<=n/\n<=16/\0<=b:=by
 unfold bmOk at h;rw[Zb]at h;have q1:=ay.1 h.1;have q2:=ay.1 h.2;omega
def S7 {b i:Int}{o:af}(h:Mr b i o)(i1:i<=16):Rw [tI] o:=by rw[h.e];exact Bj _ Uc
def PD {ls:af}{k:Int}(h:clB ls k=false):ctB ls k=false:=by unfold ctB;rw[h];rfl
def PE {ls:af}{k:Int}(h:(aU ls k 0).length=0):ctB ls k=false:=by unfold ctB;rw[VM Uc,Yc]
def acr {ls:af}{k:Int}(h:clB ls k=true)(n:¬ (aU ls k 0).length=0):ctL ls k=ls.set k.toNat [.s 1 ((aU ls k 0).take ((aU ls k 0).length-1))]/\ctA ls k=ag (aU ls k 0) ((aU ls k 0).length-1) 0/\ctB ls k=true:=by
 have b:ctB ls k=true:=by unfold ctB;rw[h,VL Uc];rfl
 have q:=acq b;exact⟨q.1,q.2,b⟩
def LF {l:af}{i:Int}:mV l 0 (zn i 0)=l.take i.toNat:=qv
def akh {n:Nat}:((n:Int)-1).toNat=n-1:=by omega
end Go.V
namespace Go.V
section
variable {a0 a1 a2 a4 a5 a6 u e: af} {a3 t i k s n: Int}
def ag8 (hk:kerOk a0 a1 a2 a3 a4=true)(P:CG a0 a1 a2 a3 a4 t i u e)(c0:0<=a3)(c1:a3<=90000)(i0:0<=i)(i1:i<=32):ccB a0 u e (a3+i) a4=true:=by
 rw[Jz Uc];exact xZ P.m Uc Uc (gK hk).2.2.2
def abP (rc:Rw [.sl [tI]] a0)(P:CG a0 a1 a2 a3 a4 t i u e):au a0<=1024/\au u<=64/\au e<=64:=sV P.m rc P.ru P.re
def ai2 {c:Int}:kqN true c=c+1:=by unfold kqN;rw[VO rfl]
def agb {o:af}{n:Int}{j:Nat}(h:Rw [tI,tI,tI] o)(n0:0<=n)(n1:n<o.length)(hj:j<3):∃ rec o',bZ (.s 3 o) [(n.toNat,j)]=some (rec,o')/\o'+1<=rec.length:=fC Uc (by
 rw[h.eta n0 n1];show j+1<=3;omega)
def ad2 {o:af}{n:Int}(h:Rw [tI] o)(n0:0<=n)(n1:n<o.length):∃ rec o',bZ (L.s 1 o) [(n.toNat,0)]=some (rec,o')/\o'+[L.v (Zn Zy 0)].length<=rec.length/\Yh [L.v (Zn Zy 0)].length (Yy o' rec)=kP aj (L.s 1 o) [(n.toNat,0)] 0 [L.v (Zn Zy 0)]:=
 fv (z0:=[.i 0]) (z:=[.i 0]) h.wf Uc rfl (by decide)
def SV {n b:Int}:Rw [tI] (frL n b):=by
 unfold frL;split
 ·rename_i c;have:=ab2 c;exact Bj _ Uc
 ·exact Rw.nil
def XcT.r (_:XcT a2 a6 s i):Rw [tI] (qX a2 a6 i):=SV
structure XcU (a2 a6:af)(s i:Int):Prop where
 u:jL (.s 3 a6) [(i.toNat,2)] [.i (wiN (ag a6 i 2) (qe a2 a6 s i))]=a6.set i.toNat [.i (ag a6 i 0),.i (ag a6 i 1),.i (wiN (ag a6 i 2) (qe a2 a6 s i))]
 g0:zq (.s 3 (a6.set i.toNat [.i (ag a6 i 0),.i (ag a6 i 1),.i (wiN (ag a6 i 2) (qe a2 a6 s i))])) [(i.toNat,0)]=ag a6 i 0
 g1:zq (.s 3 (a6.set i.toNat [.i (ag a6 i 0),.i (ag a6 i 1),.i (wiN (ag a6 i 2) (qe a2 a6 s i))])) [(i.toNat,1)]=ag a6 i 1
 g2:zq (.s 3 (a6.set i.toNat [.i (ag a6 i 0),.i (ag a6 i 1),.i (wiN (ag a6 i 2) (qe a2 a6 s i))])) [(i.toNat,2)]=wiN (ag a6 i 2) (qe a2 a6 s i)
 w:Rw [tI,tI,tI] (a6.set i.toNat [.i (ag a6 i 0),.i (ag a6 i 1),.i (wiN (ag a6 i 2) (qe a2 a6 s i))])
 l:i<(a6.set i.toNat [.i (ag a6 i 0),.i (ag a6 i 1),.i (wiN (ag a6 i 2) (qe a2 a6 s i))]).length
def akn (h:Rw [tI,tI,tI] a6)(i0:0<=i)(i1:i<a6.length)(X:XcT a2 a6 s i):XcU a2 a6 s i:=by
 have g:∀ r:aT,(a6.set i.toNat r).getD i.toNat []=r:=fun r=>by rw[nu Uc,VO rfl]
 refine⟨?_,?_,?_,?_,ajQ h (As h (j:=0) rfl Uc) (As h (j:=1) rfl Uc) X.w,by rw[Zw];exact i1⟩
 ·unfold jL kH rowOf;rw[h.eta i0 i1];rfl
 ·rw[dY i0];unfold ag;rw[g];rfl
 ·rw[dY i0];unfold ag;rw[g];rfl
 ·rw[dY i0];unfold ag;rw[g];rfl
def Rr (ht:zh a2 a5 n=t)(h:tkB (zlI a2) a5 n=true)(p:CG a0 a1 a2 a3 a4 t i u e)(i0:0<=i)(i1:n<=i)(i2:i<=n):xpC a0 a1 a2 a3 a4 a5 n=a0/\xpU a0 a1 a2 a3 a4 a5 n=u/\xpE a0 a1 a2 a3 a4 a5 n=e/\xpK a1 a2 a3 a4 a5 n=a3+i/\xpF a1 a2 a3 a4 a5 n=tkL (zlI a2) a5 n/\xpA a1 a2 a3 a4 a5 n=t/\xpB a1 a2 a3 a4 a5 n=true:=by
 subst ht;have q:=akt h p i0 i1 i2;rw[show a3+n=a3+i by omega]at q;exact q
def Rp {p:Int}{v w x:af}(ht:zh a2 a5 n=t)(h:tkB (zlI a2) a5 n=true)(P:CG a0 a1 a2 a3 a4 t i u e)(i0:0<=i)(i1:i<n)(g:vk u e (a3+i) a4 (t+i)=false)(D:IV a0 u e t p v w x)(p1:p<=t+i)(p2:t+i<=p):xpC a0 a1 a2 a3 a4 a5 n=v/\xpU a0 a1 a2 a3 a4 a5 n=w/\xpE a0 a1 a2 a3 a4 a5 n=x/\xpK a1 a2 a3 a4 a5 n=a3+i+1/\xpF a1 a2 a3 a4 a5 n=a5/\xpA a1 a2 a3 a4 a5 n= -1/\xpB a1 a2 a3 a4 a5 n=false:=by
 subst ht;have q:=aks h P i0 i1 g;have d:=GP (l:=i) D p2 p1;rw[<-d.1, <-d.2.1, <-d.2.2]at q;exact q
def ag7 {v w x:af}{c:Int}(hk:kerOk a0 a1 a2 a3 a4=true)(m:ig v w x)(c0:0<=c)(c1:c<100000):ccB v w x c a4=true:=by
 rw[Jz Uc];exact xZ m Uc Uc (gK hk).2.2.2
def akv (P:CG a0 a1 a2 a3 a4 t i u e)(i0:0<=i)(g:kwB true u e (a3+i) a4 (t+i)=true):CG a0 a1 a2 a3 a4 t (i+1) (kwU true u e (a3+i) a4 (t+i)) (kwE true u e (a3+i) a4 (t+i)):=abR P i0 g
def aku (rc:Rw [.sl [tI]] a0)(P:CG a0 a1 a2 a3 a4 t i u e)(g:kwB true u e (a3+i) a4 (t+i)=false):IV a0 u e t t a0 (kwU true u e (a3+i) a4 (t+i)) (kwE true u e (a3+i) a4 (t+i)):=by
 have w:=uu (show vk u e (a3+i) a4 (t+i)=false from g);rw[<-w.1, <-w.2.1];exact JM P.m rc P.ru P.re
end
end Go.V
namespace Go.V
def Ei (a2 a6:af)(aI:Bool)(aJ aK k i:Int):Bool:=eqB (ag a6 i 1) k&&(!bsB aI aJ aK (ag a6 i 0)&&xcB a2 a6 i)
def HS (a2 a6:af)(aI:Bool)(aJ aK k:Int):Int:=da (Ei a2 a6 aI aJ aK k) a6.length
def wQ (a1 a2:af)(a3:Int)(a4 a5 a6 a9:af)(aI:Bool)(aJ aK t k:Int):Nat:=if ctB (aU a9 t 0) k=true then 0 else if 0<=HS a2 a6 aI aJ aK k then 1 else if xpB a1 a2 a3 a4 a5 1=true then 3 else 2
def xmC (a0 a1 a2:af)(a3:Int)(a4 a5 a6 a9:af)(aE:Int)(aI:Bool)(aJ aK t k:Int):af:=if 2<=wQ a1 a2 a3 a4 a5 a6 a9 aI aJ aK t k then xpC a0 a1 a2 a3 a4 a5 1 else a0
def xmU (a0 a1 a2:af)(a3:Int)(a4 a5 a6 a9:af)(aE:Int)(aI:Bool)(aJ aK t k:Int):af:=if 2<=wQ a1 a2 a3 a4 a5 a6 a9 aI aJ aK t k then xpU a0 a1 a2 a3 a4 a5 1 else a1
def xmE (a0 a1 a2:af)(a3:Int)(a4 a5 a6 a9:af)(aE:Int)(aI:Bool)(aJ aK t k:Int):af:=if 2<=wQ a1 a2 a3 a4 a5 a6 a9 aI aJ aK t k then xpE a0 a1 a2 a3 a4 a5 1 else a2
def xmF (a0 a1 a2:af)(a3:Int)(a4 a5 a6 a9:af)(aE:Int)(aI:Bool)(aJ aK t k:Int):af:=if 2<=wQ a1 a2 a3 a4 a5 a6 a9 aI aJ aK t k then xpF a1 a2 a3 a4 a5 1 else a5
def xmK (a0 a1 a2:af)(a3:Int)(a4 a5 a6 a9:af)(aE:Int)(aI:Bool)(aJ aK t k:Int):Int:=if 2<=wQ a1 a2 a3 a4 a5 a6 a9 aI aJ aK t k then xpK a1 a2 a3 a4 a5 1 else a3
def xmS (a0 a1 a2:af)(a3:Int)(a4 a5 a6 a9:af)(aE:Int)(aI:Bool)(aJ aK t k:Int):af:=if wQ a1 a2 a3 a4 a5 a6 a9 aI aJ aK t k=1 then xcS a2 a6 aE (HS a2 a6 aI aJ aK k)else if wQ a1 a2 a3 a4 a5 a6 a9 aI aJ aK t k=3 then xcS (xpE a0 a1 a2 a3 a4 a5 1) (isL a6 (xpA a1 a2 a3 a4 a5 1) k 0) aE (isI a6 (xpA a1 a2 a3 a4 a5 1))else a6
def xmD (a0 a1 a2:af)(a3:Int)(a4 a5 a6 a9:af)(aE:Int)(aI:Bool)(aJ aK t k:Int):Int:=if wQ a1 a2 a3 a4 a5 a6 a9 aI aJ aK t k=1 then xcD a2 a6 aE (HS a2 a6 aI aJ aK k)else if wQ a1 a2 a3 a4 a5 a6 a9 aI aJ aK t k=3 then xcD (xpE a0 a1 a2 a3 a4 a5 1) (isL a6 (xpA a1 a2 a3 a4 a5 1) k 0) aE (isI a6 (xpA a1 a2 a3 a4 a5 1))else aE
def xmX (a0 a1 a2:af)(a3:Int)(a4 a5 a6 a9:af)(aE:Int)(aI:Bool)(aJ aK t k:Int):af:=if wQ a1 a2 a3 a4 a5 a6 a9 aI aJ aK t k=0 then a9.set t.toNat [.s 1 (ctL (aU a9 t 0) k)]else a9
def xmA (a0 a1 a2:af)(a3:Int)(a4 a5 a6 a9:af)(aE:Int)(aI:Bool)(aJ aK t k:Int):Int:=if wQ a1 a2 a3 a4 a5 a6 a9 aI aJ aK t k=0 then ctA (aU a9 t 0) k else if wQ a1 a2 a3 a4 a5 a6 a9 aI aJ aK t k=1 then xcA a2 a6 aE (HS a2 a6 aI aJ aK k)else if wQ a1 a2 a3 a4 a5 a6 a9 aI aJ aK t k=3 then xcA (xpE a0 a1 a2 a3 a4 a5 1) (isL a6 (xpA a1 a2 a3 a4 a5 1) k 0) aE (isI a6 (xpA a1 a2 a3 a4 a5 1))else-1
def xmB (a0 a1 a2:af)(a3:Int)(a4 a5 a6 a9:af)(aE:Int)(aI:Bool)(aJ aK t k:Int):Bool:=if wQ a1 a2 a3 a4 a5 a6 a9 aI aJ aK t k=0 then true else if wQ a1 a2 a3 a4 a5 a6 a9 aI aJ aK t k=1 then true else if wQ a1 a2 a3 a4 a5 a6 a9 aI aJ aK t k=3 then xcB (xpE a0 a1 a2 a3 a4 a5 1) (isL a6 (xpA a1 a2 a3 a4 a5 1) k 0) (isI a6 (xpA a1 a2 a3 a4 a5 1))else false
section
variable {a0 a1 a2: af} {a3: Int} {a4 a5 a6 a7 a8 a9 aA aB aD aL: af} {aC aE aF aG aH: Int} {aI: Bool} {aJ aK aM aN t k i z: Int}
def agV (h:ctB (aU a9 t 0) k=true):xmC a0 a1 a2 a3 a4 a5 a6 a9 aE aI aJ aK t k=a0/\xmU a0 a1 a2 a3 a4 a5 a6 a9 aE aI aJ aK t k=a1/\xmE a0 a1 a2 a3 a4 a5 a6 a9 aE aI aJ aK t k=a2/\xmK a0 a1 a2 a3 a4 a5 a6 a9 aE aI aJ aK t k=a3/\xmF a0 a1 a2 a3 a4 a5 a6 a9 aE aI aJ aK t k=a5/\xmS a0 a1 a2 a3 a4 a5 a6 a9 aE aI aJ aK t k=a6/\xmX a0 a1 a2 a3 a4 a5 a6 a9 aE aI aJ aK t k=a9.set t.toNat [.s 1 (ctL (aU a9 t 0) k)]/\xmD a0 a1 a2 a3 a4 a5 a6 a9 aE aI aJ aK t k=aE/\xmA a0 a1 a2 a3 a4 a5 a6 a9 aE aI aJ aK t k=ctA (aU a9 t 0) k/\xmB a0 a1 a2 a3 a4 a5 a6 a9 aE aI aJ aK t k=true:=by
 have q:wQ a1 a2 a3 a4 a5 a6 a9 aI aJ aK t k=0:=by unfold wQ;rw[VO h]
 refine⟨?_,?_,?_,?_,?_,?_,?_,?_,?_,?_⟩
 ·unfold xmC;rw[q];rfl
 ·unfold xmU;rw[q];rfl
 ·unfold xmE;rw[q];rfl
 ·unfold xmK;rw[q];rfl
 ·unfold xmF;rw[q];rfl
 ·unfold xmS;rw[q];rfl
 ·unfold xmX;rw[q];rfl
 ·unfold xmD;rw[q];rfl
 ·unfold xmA;rw[q];rfl
 ·unfold xmB;rw[q];rfl
def agW (h:ctB (aU a9 t 0) k=false)(i0:0<=i)(e:HS a2 a6 aI aJ aK k=i):xmC a0 a1 a2 a3 a4 a5 a6 a9 aE aI aJ aK t k=a0/\xmU a0 a1 a2 a3 a4 a5 a6 a9 aE aI aJ aK t k=a1/\xmE a0 a1 a2 a3 a4 a5 a6 a9 aE aI aJ aK t k=a2/\xmK a0 a1 a2 a3 a4 a5 a6 a9 aE aI aJ aK t k=a3/\xmF a0 a1 a2 a3 a4 a5 a6 a9 aE aI aJ aK t k=a5/\xmS a0 a1 a2 a3 a4 a5 a6 a9 aE aI aJ aK t k=xcS a2 a6 aE i/\xmX a0 a1 a2 a3 a4 a5 a6 a9 aE aI aJ aK t k=a9/\xmD a0 a1 a2 a3 a4 a5 a6 a9 aE aI aJ aK t k=xcD a2 a6 aE i/\xmA a0 a1 a2 a3 a4 a5 a6 a9 aE aI aJ aK t k=xcA a2 a6 aE i/\xmB a0 a1 a2 a3 a4 a5 a6 a9 aE aI aJ aK t k=true:=by
 have q:wQ a1 a2 a3 a4 a5 a6 a9 aI aJ aK t k=1:=by unfold wQ;rw[h,VP (by decide),VO Uc]
 refine⟨?_,?_,?_,?_,?_,?_,?_,?_,?_,?_⟩
 ·unfold xmC;rw[q];rfl
 ·unfold xmU;rw[q];rfl
 ·unfold xmE;rw[q];rfl
 ·unfold xmK;rw[q];rfl
 ·unfold xmF;rw[q];rfl
 ·unfold xmS;rw[q,e];rfl
 ·unfold xmX;rw[q];rfl
 ·unfold xmD;rw[q,e];rfl
 ·unfold xmA;rw[q,e];rfl
 ·unfold xmB;rw[q];rfl
def agX (h:ctB (aU a9 t 0) k=false)(i0:HS a2 a6 aI aJ aK k<0)(b:xpB a1 a2 a3 a4 a5 1=false):xmC a0 a1 a2 a3 a4 a5 a6 a9 aE aI aJ aK t k=xpC a0 a1 a2 a3 a4 a5 1/\xmU a0 a1 a2 a3 a4 a5 a6 a9 aE aI aJ aK t k=xpU a0 a1 a2 a3 a4 a5 1/\xmE a0 a1 a2 a3 a4 a5 a6 a9 aE aI aJ aK t k=xpE a0 a1 a2 a3 a4 a5 1/\xmK a0 a1 a2 a3 a4 a5 a6 a9 aE aI aJ aK t k=xpK a1 a2 a3 a4 a5 1/\xmF a0 a1 a2 a3 a4 a5 a6 a9 aE aI aJ aK t k=xpF a1 a2 a3 a4 a5 1/\xmS a0 a1 a2 a3 a4 a5 a6 a9 aE aI aJ aK t k=a6/\xmX a0 a1 a2 a3 a4 a5 a6 a9 aE aI aJ aK t k=a9/\xmD a0 a1 a2 a3 a4 a5 a6 a9 aE aI aJ aK t k=aE/\xmA a0 a1 a2 a3 a4 a5 a6 a9 aE aI aJ aK t k= -1/\xmB a0 a1 a2 a3 a4 a5 a6 a9 aE aI aJ aK t k=false:=by
 have q:wQ a1 a2 a3 a4 a5 a6 a9 aI aJ aK t k=2:=by unfold wQ;rw[h,VP (by decide),VP Uc,b];rfl
 refine⟨?_,?_,?_,?_,?_,?_,?_,?_,?_,?_⟩
 ·unfold xmC;rw[q];rfl
 ·unfold xmU;rw[q];rfl
 ·unfold xmE;rw[q];rfl
 ·unfold xmK;rw[q];rfl
 ·unfold xmF;rw[q];rfl
 ·unfold xmS;rw[q];rfl
 ·unfold xmX;rw[q];rfl
 ·unfold xmD;rw[q];rfl
 ·unfold xmA;rw[q];rfl
 ·unfold xmB;rw[q];rfl
def agY (h:ctB (aU a9 t 0) k=false)(i0:HS a2 a6 aI aJ aK k<0)(b:xpB a1 a2 a3 a4 a5 1=true):xmC a0 a1 a2 a3 a4 a5 a6 a9 aE aI aJ aK t k=xpC a0 a1 a2 a3 a4 a5 1/\xmU a0 a1 a2 a3 a4 a5 a6 a9 aE aI aJ aK t k=xpU a0 a1 a2 a3 a4 a5 1/\xmE a0 a1 a2 a3 a4 a5 a6 a9 aE aI aJ aK t k=xpE a0 a1 a2 a3 a4 a5 1/\xmK a0 a1 a2 a3 a4 a5 a6 a9 aE aI aJ aK t k=xpK a1 a2 a3 a4 a5 1/\xmF a0 a1 a2 a3 a4 a5 a6 a9 aE aI aJ aK t k=xpF a1 a2 a3 a4 a5 1/\xmS a0 a1 a2 a3 a4 a5 a6 a9 aE aI aJ aK t k=xcS (xpE a0 a1 a2 a3 a4 a5 1) (isL a6 (xpA a1 a2 a3 a4 a5 1) k 0) aE (isI a6 (xpA a1 a2 a3 a4 a5 1))/\xmX a0 a1 a2 a3 a4 a5 a6 a9 aE aI aJ aK t k=a9/\xmD a0 a1 a2 a3 a4 a5 a6 a9 aE aI aJ aK t k=xcD (xpE a0 a1 a2 a3 a4 a5 1) (isL a6 (xpA a1 a2 a3 a4 a5 1) k 0) aE (isI a6 (xpA a1 a2 a3 a4 a5 1))/\xmA a0 a1 a2 a3 a4 a5 a6 a9 aE aI aJ aK t k=xcA (xpE a0 a1 a2 a3 a4 a5 1) (isL a6 (xpA a1 a2 a3 a4 a5 1) k 0) aE (isI a6 (xpA a1 a2 a3 a4 a5 1))/\xmB a0 a1 a2 a3 a4 a5 a6 a9 aE aI aJ aK t k=xcB (xpE a0 a1 a2 a3 a4 a5 1) (isL a6 (xpA a1 a2 a3 a4 a5 1) k 0) (isI a6 (xpA a1 a2 a3 a4 a5 1)):=by
 have q:wQ a1 a2 a3 a4 a5 a6 a9 aI aJ aK t k=3:=by unfold wQ;rw[h,VP (by decide),VP Uc,VO b]
 refine⟨?_,?_,?_,?_,?_,?_,?_,?_,?_,?_⟩
 ·unfold xmC;rw[q];rfl
 ·unfold xmU;rw[q];rfl
 ·unfold xmE;rw[q];rfl
 ·unfold xmK;rw[q];rfl
 ·unfold xmF;rw[q];rfl
 ·unfold xmS;rw[q];rfl
 ·unfold xmX;rw[q];rfl
 ·unfold xmD;rw[q];rfl
 ·unfold xmA;rw[q];rfl
 ·unfold xmB;rw[q];rfl
end
def xlL (a1 a2:af)(a3:Int)(a4 a5 a7:af)(z:Int):af:=if xpB a1 a2 a3 a4 a5 (pfN z)=true then inL a7 (Ii a7 0 (xpA a1 a2 a3 a4 a5 (pfN z))) [[.i (xpA a1 a2 a3 a4 a5 (pfN z)),.i (pfN z),.i z]]else a7
def xlA (a1 a2:af)(a3:Int)(a4 a5:af)(z:Int):Int:=if xpB a1 a2 a3 a4 a5 (pfN z)=true then xpA a1 a2 a3 a4 a5 (pfN z)*16 else-1
def xaG (h:Bool)(a3:Int)(a8 a9:af)(aG aH t z:Int):Int:=if h=false\/aH=1000000\/90000<a3 then 5 else if inR t 0 (a9.length-1)=false then 1 else if inR z 1 1000=false then 2 else if aG<bQ .add Za (lsI a8) z then 3 else 0
def xaO (h:Bool)(a3:Int)(a8 a9:af)(aG aH t z:Int):Bool:=decide (xaG h a3 a8 a9 aG aH t z=0)
def xaC (g:Bool)(a0 a1 a2:af)(a3:Int)(a4 a5 a6 a7 a9:af)(aE:Int)(aI:Bool)(aJ aK t z:Int):af:=if g=true then(if 0<=clsOf z then xmC a0 a1 a2 a3 a4 a5 a6 a9 aE aI aJ aK t (clsOf z)else xpC a0 a1 a2 a3 a4 a5 (pfN z))else a0
def xaU (g:Bool)(a0 a1 a2:af)(a3:Int)(a4 a5 a6 a7 a9:af)(aE:Int)(aI:Bool)(aJ aK t z:Int):af:=if g=true then(if 0<=clsOf z then xmU a0 a1 a2 a3 a4 a5 a6 a9 aE aI aJ aK t (clsOf z)else xpU a0 a1 a2 a3 a4 a5 (pfN z))else a1
def xaE (g:Bool)(a0 a1 a2:af)(a3:Int)(a4 a5 a6 a7 a9:af)(aE:Int)(aI:Bool)(aJ aK t z:Int):af:=if g=true then(if 0<=clsOf z then xmE a0 a1 a2 a3 a4 a5 a6 a9 aE aI aJ aK t (clsOf z)else xpE a0 a1 a2 a3 a4 a5 (pfN z))else a2
def xaK (g:Bool)(a0 a1 a2:af)(a3:Int)(a4 a5 a6 a7 a9:af)(aE:Int)(aI:Bool)(aJ aK t z:Int):Int:=if g=true then(if 0<=clsOf z then xmK a0 a1 a2 a3 a4 a5 a6 a9 aE aI aJ aK t (clsOf z)else xpK a1 a2 a3 a4 a5 (pfN z))else a3
def xaF (g:Bool)(a0 a1 a2:af)(a3:Int)(a4 a5 a6 a7 a9:af)(aE:Int)(aI:Bool)(aJ aK t z:Int):af:=if g=true then(if 0<=clsOf z then xmF a0 a1 a2 a3 a4 a5 a6 a9 aE aI aJ aK t (clsOf z)else xpF a1 a2 a3 a4 a5 (pfN z))else a5
def xaS (g:Bool)(a0 a1 a2:af)(a3:Int)(a4 a5 a6 a7 a9:af)(aE:Int)(aI:Bool)(aJ aK t z:Int):af:=if g=true then(if 0<=clsOf z then xmS a0 a1 a2 a3 a4 a5 a6 a9 aE aI aJ aK t (clsOf z)else a6)else a6
def xaL (g:Bool)(a0 a1 a2:af)(a3:Int)(a4 a5 a6 a7 a9:af)(aE:Int)(aI:Bool)(aJ aK t z:Int):af:=if g=true then(if 0<=clsOf z then a7 else xlL a1 a2 a3 a4 a5 a7 z)else a7
def xaX (g:Bool)(a0 a1 a2:af)(a3:Int)(a4 a5 a6 a7 a9:af)(aE:Int)(aI:Bool)(aJ aK t z:Int):af:=if g=true then(if 0<=clsOf z then xmX a0 a1 a2 a3 a4 a5 a6 a9 aE aI aJ aK t (clsOf z)else a9)else a9
def xaD (g:Bool)(a0 a1 a2:af)(a3:Int)(a4 a5 a6 a7 a9:af)(aE:Int)(aI:Bool)(aJ aK t z:Int):Int:=if g=true then(if 0<=clsOf z then xmD a0 a1 a2 a3 a4 a5 a6 a9 aE aI aJ aK t (clsOf z)else aE)else aE
def xaA (g:Bool)(a0 a1 a2:af)(a3:Int)(a4 a5 a6 a7 a9:af)(aE:Int)(aI:Bool)(aJ aK t z:Int):Int:=if g=true then(if 0<=clsOf z then xmA a0 a1 a2 a3 a4 a5 a6 a9 aE aI aJ aK t (clsOf z)else xlA a1 a2 a3 a4 a5 z)else-1
section
variable {g: Bool}
variable {a0 a1 a2: af} {a3: Int} {a4 a5 a6 a7 a8 a9 aA aB aD aL: af} {aC aE aF aG aH: Int} {aI: Bool} {aJ aK aM aN t k i z: Int}
def akl (h:g=false):xaC g a0 a1 a2 a3 a4 a5 a6 a7 a9 aE aI aJ aK t z=a0/\xaU g a0 a1 a2 a3 a4 a5 a6 a7 a9 aE aI aJ aK t z=a1/\xaE g a0 a1 a2 a3 a4 a5 a6 a7 a9 aE aI aJ aK t z=a2/\xaK g a0 a1 a2 a3 a4 a5 a6 a7 a9 aE aI aJ aK t z=a3/\xaF g a0 a1 a2 a3 a4 a5 a6 a7 a9 aE aI aJ aK t z=a5/\xaS g a0 a1 a2 a3 a4 a5 a6 a7 a9 aE aI aJ aK t z=a6/\xaL g a0 a1 a2 a3 a4 a5 a6 a7 a9 aE aI aJ aK t z=a7/\xaX g a0 a1 a2 a3 a4 a5 a6 a7 a9 aE aI aJ aK t z=a9/\xaD g a0 a1 a2 a3 a4 a5 a6 a7 a9 aE aI aJ aK t z=aE/\xaA g a0 a1 a2 a3 a4 a5 a6 a7 a9 aE aI aJ aK t z= -1:=by
 refine⟨?_,?_,?_,?_,?_,?_,?_,?_,?_,?_⟩
 ·unfold xaC;rw[h];rfl
 ·unfold xaU;rw[h];rfl
 ·unfold xaE;rw[h];rfl
 ·unfold xaK;rw[h];rfl
 ·unfold xaF;rw[h];rfl
 ·unfold xaS;rw[h];rfl
 ·unfold xaL;rw[h];rfl
 ·unfold xaX;rw[h];rfl
 ·unfold xaD;rw[h];rfl
 ·unfold xaA;rw[h];rfl
def akm (h:g=true)(c:0<=clsOf z):xaC g a0 a1 a2 a3 a4 a5 a6 a7 a9 aE aI aJ aK t z=xmC a0 a1 a2 a3 a4 a5 a6 a9 aE aI aJ aK t (clsOf z)/\xaU g a0 a1 a2 a3 a4 a5 a6 a7 a9 aE aI aJ aK t z=xmU a0 a1 a2 a3 a4 a5 a6 a9 aE aI aJ aK t (clsOf z)/\xaE g a0 a1 a2 a3 a4 a5 a6 a7 a9 aE aI aJ aK t z=xmE a0 a1 a2 a3 a4 a5 a6 a9 aE aI aJ aK t (clsOf z)/\xaK g a0 a1 a2 a3 a4 a5 a6 a7 a9 aE aI aJ aK t z=xmK a0 a1 a2 a3 a4 a5 a6 a9 aE aI aJ aK t (clsOf z)/\xaF g a0 a1 a2 a3 a4 a5 a6 a7 a9 aE aI aJ aK t z=xmF a0 a1 a2 a3 a4 a5 a6 a9 aE aI aJ aK t (clsOf z)/\xaS g a0 a1 a2 a3 a4 a5 a6 a7 a9 aE aI aJ aK t z=xmS a0 a1 a2 a3 a4 a5 a6 a9 aE aI aJ aK t (clsOf z)/\xaL g a0 a1 a2 a3 a4 a5 a6 a7 a9 aE aI aJ aK t z=a7/\xaX g a0 a1 a2 a3 a4 a5 a6 a7 a9 aE aI aJ aK t z=xmX a0 a1 a2 a3 a4 a5 a6 a9 aE aI aJ aK t (clsOf z)/\xaD g a0 a1 a2 a3 a4 a5 a6 a7 a9 aE aI aJ aK t z=xmD a0 a1 a2 a3 a4 a5 a6 a9 aE aI aJ aK t (clsOf z)/\xaA g a0 a1 a2 a3 a4 a5 a6 a7 a9 aE aI aJ aK t z=xmA a0 a1 a2 a3 a4 a5 a6 a9 aE aI aJ aK t (clsOf z):=by
 refine⟨?_,?_,?_,?_,?_,?_,?_,?_,?_,?_⟩
 ·unfold xaC;rw[VO h,VO c]
 ·unfold xaU;rw[VO h,VO c]
 ·unfold xaE;rw[VO h,VO c]
 ·unfold xaK;rw[VO h,VO c]
 ·unfold xaF;rw[VO h,VO c]
 ·unfold xaS;rw[VO h,VO c]
 ·unfold xaL;rw[VO h,VO c]
 ·unfold xaX;rw[VO h,VO c]
 ·unfold xaD;rw[VO h,VO c]
 ·unfold xaA;rw[VO h,VO c]
def akk (h:g=true)(c:clsOf z<0):xaC g a0 a1 a2 a3 a4 a5 a6 a7 a9 aE aI aJ aK t z=xpC a0 a1 a2 a3 a4 a5 (pfN z)/\xaU g a0 a1 a2 a3 a4 a5 a6 a7 a9 aE aI aJ aK t z=xpU a0 a1 a2 a3 a4 a5 (pfN z)/\xaE g a0 a1 a2 a3 a4 a5 a6 a7 a9 aE aI aJ aK t z=xpE a0 a1 a2 a3 a4 a5 (pfN z)/\xaK g a0 a1 a2 a3 a4 a5 a6 a7 a9 aE aI aJ aK t z=xpK a1 a2 a3 a4 a5 (pfN z)/\xaF g a0 a1 a2 a3 a4 a5 a6 a7 a9 aE aI aJ aK t z=xpF a1 a2 a3 a4 a5 (pfN z)/\xaS g a0 a1 a2 a3 a4 a5 a6 a7 a9 aE aI aJ aK t z=a6/\xaL g a0 a1 a2 a3 a4 a5 a6 a7 a9 aE aI aJ aK t z=xlL a1 a2 a3 a4 a5 a7 z/\xaX g a0 a1 a2 a3 a4 a5 a6 a7 a9 aE aI aJ aK t z=a9/\xaD g a0 a1 a2 a3 a4 a5 a6 a7 a9 aE aI aJ aK t z=aE/\xaA g a0 a1 a2 a3 a4 a5 a6 a7 a9 aE aI aJ aK t z=xlA a1 a2 a3 a4 a5 z:=by
 refine⟨?_,?_,?_,?_,?_,?_,?_,?_,?_,?_⟩
 ·unfold xaC;rw[VO h,VP Uc]
 ·unfold xaU;rw[VO h,VP Uc]
 ·unfold xaE;rw[VO h,VP Uc]
 ·unfold xaK;rw[VO h,VP Uc]
 ·unfold xaF;rw[VO h,VP Uc]
 ·unfold xaS;rw[VO h,VP Uc]
 ·unfold xaL;rw[VO h,VP Uc]
 ·unfold xaX;rw[VO h,VP Uc]
 ·unfold xaD;rw[VO h,VP Uc]
 ·unfold xaA;rw[VO h,VP Uc]
end
def xaP (a8:af)(aH t z w:Int):af:=if 0<=w then inL a8 (Ii a8 1 w) [[.i aH,.i w,.i z,.i t]]else a8
def xaN (aH w:Int):Int:=if 0<=w then aH+1 else aH
def xaR (c w:Int):Int:=if c≠0 then c else if w<0 then 4 else 0
end Go.V
namespace Go.V
def ajy {A B:Prop}(b:Bool)(h1:b=true->A)(h2:b=false->B):A\/B:=by
 cases b with
 |true=>exact .inl (h1 rfl)
 |false=>exact .inr (h2 rfl)
def acn {ls:af}{k:Int}(h:ctB ls k=true):0<=ctA ls k/\ctA ls k<=511:=by
 have e:=(acq h).2;unfold ctB clB at h;simp only[Zb,VN]at h;obtain⟨⟨r,ca⟩,l⟩:=h;have q:=ay.1 r;unfold caOk at ca;simp only[Zb]at ca;have a:=ez.1 ca.2.1 k q.1 Uc;unfold M5 at a;rw[Zb]at a;have b:=ez.1 a.2 ((aU ls k 0).length-1) Uc Uc;unfold M6 at b;rw[Zb]at b;rw[e];exact ay.1 b.1
def Km {es:af}{i:Int}{r:aT}{j:Nat}(i0:0<=i)(i1:i<=es.length):ag (inL es i [r]) i j=Mv (r.getD j .g):=by
 have h:(inL es i [r]).getD i.toNat []=r:=by
  unfold inL;rw[Zm,ZO (by rw[Zg];omega),Zg,show i.toNat-min i.toNat es.length=0 by omega];rfl
 unfold ag;rw[h]
section
variable {a0 a1 a2: af} {a3: Int} {a4 a5 a6 a7 a8 a9 aA aB aD aL: af} {aC aE aF aG aH: Int} {aI: Bool} {aJ aK aM aN t k i z n p b w: Int} {g: Bool}
def ag6 (hc:kJ a0 a1 a2 a4 a5 a6 a7 a8 a9 aA aB aD aL)(km:ig a0 a1 a2):kJ (xpC a0 a1 a2 a3 a4 a5 n) (xpU a0 a1 a2 a3 a4 a5 n) (xpE a0 a1 a2 a3 a4 a5 n) a4 (xpF a1 a2 a3 a4 a5 n) a6 a7 a8 a9 aA aB aD aL:=by
 have m:=akr (a3:=a3) (a4:=a4) (a5:=a5) (n:=n) km hc.r0 hc.r1 hc.r2;have f:=abO (a1:=a1) (a2:=a2) (a3:=a3) (a4:=a4) (n:=n) hc.r5;have c5:=hc.c5;rw[hc.r5.cnt rfl]at c5;exact {hc with r0:=m.2.1,r1:=m.2.2.1,r2:=m.2.2.2.1,r5:=f.1,c0:=ZH m.2.2.2.2.2.1 (by decide),c1:=ZH m.2.2.2.2.2.2.1 (by decide),c2:=ZH m.2.2.2.2.2.2.2 (by decide),c5:=by rw[f.1.cnt rfl];omega}
def TF (h:Rw [tI,tI,tI] a6)(l:a6.length<=1073741824)(hp: -9223372036854775808<=p/\p<=9223372036854775807)(hk: -9223372036854775808<=k/\k<=9223372036854775807)(hb: -9223372036854775808<=b/\b<=9223372036854775807):Rw [tI,tI,tI] (isL a6 p k b)/\(isL a6 p k b).length=a6.length+1:=by
 unfold isL;refine⟨adz h (Rw.one (show bV [tI,tI,tI] [.i p,.i k,.i b]from⟨⟨rfl,hp⟩,⟨rfl,hk⟩,⟨rfl,hb⟩,trivial⟩)) (by unfold maxLen;simp only[Zi,Zk];omega),E7⟩
def adB (hc:kJ a0 a1 a2 a4 a5 a6 a7 a8 a9 aA aB aD aL)(c6:au a6<=1000000000)(hp: -9223372036854775808<=p/\p<=9223372036854775807)(hk: -9223372036854775808<=k/\k<=9223372036854775807)(hb: -9223372036854775808<=b/\b<=9223372036854775807):kJ a0 a1 a2 a4 a5 (isL a6 p k b) a7 a8 a9 aA aB aD aL:=by
 have l:=aS (es:=a6);have s:=TF (p:=p) (k:=k) (b:=b) hc.r6 Uc hp hk hb;rw[hc.r6.cnt rfl]at c6;exact {hc with r6:=s.1,c6:=by rw[s.1.cnt rfl,s.2];omega}
def Rq (h:xpB a1 a2 a3 a4 a5 1=true)(hk:inR k 0 3=true):spOk (ag (isL a6 (xpA a1 a2 a3 a4 a5 1) k 0) (isI a6 (xpA a1 a2 a3 a4 a5 1)) 0) (ag (isL a6 (xpA a1 a2 a3 a4 a5 1) k 0) (isI a6 (xpA a1 a2 a3 a4 a5 1)) 1) (ag (isL a6 (xpA a1 a2 a3 a4 a5 1) k 0) (isI a6 (xpA a1 a2 a3 a4 a5 1)) 2)=true:=by
 obtain⟨h1,h2,_⟩:=ag4 h;have q:=Mm h1;have lb:=Kz (rs:=a6) (j:=0) (x:=xpA a1 a2 a3 a4 a5 1);unfold isL isI;rw[Km lb.1 lb.2,Km lb.1 lb.2,Km lb.1 lb.2];show spOk (xpA a1 a2 a3 a4 a5 1) k 0=true;unfold spOk;rw[h2,ay.2 ⟨q.1,Uc⟩,Yz];rcases Si hk with rfl|rfl|rfl|rfl<;>decide
def Mn (h:xpB a1 a2 a3 a4 a5 n=true):0<=xpA a1 a2 a3 a4 a5 n/\xpA a1 a2 a3 a4 a5 n<=31/\xpA a1 a2 a3 a4 a5 n+n<=a2.length/\1<=n/\n<=32:=by
 obtain⟨h1,h2,_⟩:=ag4 h;have q:=Mm h1;rw[h2];omega
def aip (h6:Rw [tI,tI,tI] a6):0<=isI a6 p/\isI a6 p<(isL a6 p k b).length:=by
 have lb:=Kz (rs:=a6) (j:=0) (x:=p);unfold isI isL;rw[E7];simp only[Zi,Zk];omega
def Ml (hk:hpI a0 a1 a2 a3 a4 a5 a6 a7 a8 a9 aA aB aC aD aE aF aG aH aI aJ aK aL aM aN=true)(i0:0<=i)(i1:i<a6.length):spOk (ag a6 i 0) (ag a6 i 1) (ag a6 i 2)=true:=by
 have s:=(Qm (hY hk).l).s i.toNat Uc
 rwa [Zj i0]at s
def xF (c:0<=clsOf z):inR (clsOf z) 0 3=true:=by
 refine ay.2 ⟨c,?_⟩;unfold clsOf;repeat' split
 all_goals omega
def abM (hk:hpI a0 a1 a2 a3 a4 a5 a6 a7 a8 a9 aA aB aC aD aE aF aG aH aI aJ aK aL aM aN=true)(kk:inR k 0 3=true):(xmB a0 a1 a2 a3 a4 a5 a6 a9 aE aI aJ aK t k=true/\0<=xmA a0 a1 a2 a3 a4 a5 a6 a9 aE aI aJ aK t k/\xmA a0 a1 a2 a3 a4 a5 a6 a9 aE aI aJ aK t k<=511)\/(xmB a0 a1 a2 a3 a4 a5 a6 a9 aE aI aJ aK t k=false/\xmA a0 a1 a2 a3 a4 a5 a6 a9 aE aI aJ aK t k= -1):=by
 have H:=hY hk;cases c:ctB (aU a9 t 0) k with
 | true=>
   obtain⟨_,_,_,_,_,_,_,_,q9,q10⟩:=agV (a0:=a0) (a1:=a1) (a2:=a2) (a3:=a3) (a4:=a4) (a5:=a5) (a6:=a6) (aE:=aE) (aI:=aI) (aJ:=aJ) (aK:=aK) c;rw[q9,q10];exact .inl ⟨rfl,acn c⟩
 | false=>
   by_cases i:0<=HS a2 a6 aI aJ aK k
   ·obtain⟨_,_,_,_,_,_,_,_,q9,q10⟩:=agW (a0:=a0) (a1:=a1) (a3:=a3) (a4:=a4) (a5:=a5) (aE:=aE) c i rfl;rw[q9,q10];have il:=gu i;change HS a2 a6 aI aJ aK k<a6.length/\Ei a2 a6 aI aJ aK k (HS a2 a6 aI aJ aK k)=true at il;have y:=il.2;unfold Ei at y;simp only[Zb]at y;have n:¬ (qX a2 a6 (HS a2 a6 aI aJ aK k)).length=0:=by have:=VQ y.2.2;omega
    have X:=Mk (a2:=a2) (Ml hk i il.1) H.s n;rw[(abL n).2.2.2];exact .inl ⟨rfl,X.a0,X.a1⟩
   ·cases d:xpB a1 a2 a3 a4 a5 1 with
    | false=>
      obtain⟨_,_,_,_,_,_,_,_,q9,q10⟩:=agX (a0:=a0) (aE:=aE) c (WU.1 i) d;rw[q9,q10];exact .inr ⟨rfl,rfl⟩
    | true=>
      obtain⟨_,_,_,_,_,_,_,_,q9,q10⟩:=agY (a0:=a0) (aE:=aE) c (WU.1 i) d;rw[q9,q10];by_cases n:(qX (xpE a0 a1 a2 a3 a4 a5 1) (isL a6 (xpA a1 a2 a3 a4 a5 1) k 0) (isI a6 (xpA a1 a2 a3 a4 a5 1))).length=0
      ·have q:=abK (s:=aE) n;rw[q.1,q.2.2.2];exact .inr ⟨rfl,rfl⟩
      ·have q:=abL (s:=aE) n;have X:=Mk (Rq d kk) H.s n;rw[q.1,q.2.2.2];exact .inl ⟨rfl,X.a0,X.a1⟩
def agQ:(xpB a1 a2 a3 a4 a5 (pfN z)=true/\0<=xlA a1 a2 a3 a4 a5 z/\xlA a1 a2 a3 a4 a5 z<=511)\/(xpB a1 a2 a3 a4 a5 (pfN z)=false/\xlA a1 a2 a3 a4 a5 z= -1):=by
 unfold xlA;cases d:xpB a1 a2 a3 a4 a5 (pfN z)with
 |true=>have:=Mn d;exact .inl ⟨rfl,by rw[VO rfl];omega,by rw[VO rfl];omega⟩
 |false=>exact .inr ⟨rfl,rfl⟩
def agZ (h:upto (cY (Ei a2 a6 aI aJ aK k)) i)(i0:0<=i)(i1:i<a6.length)(e:ag a6 i 1=k)(f:bsB aI aJ aK (ag a6 i 0)=false)(x:xcB a2 a6 i=true):HS a2 a6 aI aJ aK k=i:=
 dU h i0 i1 (by unfold Ei;rw[JP e,f,x];rfl)
def Rn (h:upto (cY (Ei a2 a6 aI aJ aK k)) i)(i1:(a6.length:Int)<=i):HS a2 a6 aI aJ aK k<0:=by
 unfold HS;rw[eQ h i1];omega
def ag1 (h:upto (cY (Ei a2 a6 aI aJ aK k)) i)(e:ag a6 i 1≠k):upto (cY (Ei a2 a6 aI aJ aK k)) (i+1):=bU h (gC (by unfold Ei;rw[PM e];rfl))
def ag2 (h:upto (cY (Ei a2 a6 aI aJ aK k)) i)(f:bsB aI aJ aK (ag a6 i 0)=true):upto (cY (Ei a2 a6 aI aJ aK k)) (i+1):=bU h (gC (by unfold Ei;rw[f];simp))
def ag3 (h:upto (cY (Ei a2 a6 aI aJ aK k)) i)(x:xcB a2 a6 i=false):upto (cY (Ei a2 a6 aI aJ aK k)) (i+1):=bU h (gC (by unfold Ei;rw[x];simp))
def abS (h:Rt a1 a2 a3 a4 a5 a6 k<0):xpB a1 a2 a3 a4 a5 1=false:=by
 cases c:xpB a1 a2 a3 a4 a5 1 with
 |false=>rfl
 | true=>
   unfold Rt isI at h;rw[VO c]at h;have:=Kz (rs:=a6) (j:=0) (x:=xpA a1 a2 a3 a4 a5 1);omega
def abT (h:0<=Rt a1 a2 a3 a4 a5 a6 k):xpB a1 a2 a3 a4 a5 1=true:=by
 cases c:xpB a1 a2 a3 a4 a5 1 with
 |true=>rfl
 | false=>
   unfold Rt at h;rw[c]at h;exact absurd (show(0:Int)<= -1 from h) Uc
def aha (c:xpB a1 a2 a3 a4 a5 1=true):Rt a1 a2 a3 a4 a5 a6 k=isI a6 (xpA a1 a2 a3 a4 a5 1)/\xsL a1 a2 a3 a4 a5 a6 k=isL a6 (xpA a1 a2 a3 a4 a5 1) k 0:=by
 unfold Rt xsL;rw[VO c,VO c];exact⟨rfl,rfl⟩
def akw (c:xpB a1 a2 a3 a4 a5 1=false):xsL a1 a2 a3 a4 a5 a6 k=a6:=by unfold xsL;rw[c];rfl
def Rh {x:af}(h:Rw [.sl [.sl [tI]]] a9)(t0:0<=t)(t1:t<a9.length):jL (.s 1 a9) [(t.toNat,0)] [.s 1 x]=a9.set t.toNat [.s 1 x]:=eK (by rw[h.eta t0 t1];rfl)
def abN (hc:kJ a0 a1 a2 a4 a5 a6 a7 a8 a9 aA aB aD aL)(km:ig a0 a1 a2)(c6:au a6<=1000000000)(kk:inR k 0 3=true)(hd:inR aE 0 1073741823=true)(c:xpB a1 a2 a3 a4 a5 1=true):
 kJ (xpC a0 a1 a2 a3 a4 a5 1) (xpU a0 a1 a2 a3 a4 a5 1) (xpE a0 a1 a2 a3 a4 a5 1) a4 (xpF a1 a2 a3 a4 a5 1) (isL a6 (xpA a1 a2 a3 a4 a5 1) k 0) a7 a8 a9 aA aB aD aL/\0<=isI a6 (xpA a1 a2 a3 a4 a5 1)/\isI a6 (xpA a1 a2 a3 a4 a5 1)<(isL a6 (xpA a1 a2 a3 a4 a5 1) k 0).length/\spOk (ag (isL a6 (xpA a1 a2 a3 a4 a5 1) k 0) (isI a6 (xpA a1 a2 a3 a4 a5 1)) 0) (ag (isL a6 (xpA a1 a2 a3 a4 a5 1) k 0) (isI a6 (xpA a1 a2 a3 a4 a5 1)) 1) (ag (isL a6 (xpA a1 a2 a3 a4 a5 1) k 0) (isI a6 (xpA a1 a2 a3 a4 a5 1)) 2)=true/\inR aE 0 1073741823=true:=by
 have pg:=Mn c;have kr:=ay.1 kk;have ii:=aip (p:=xpA a1 a2 a3 a4 a5 1) (k:=k) (b:=0) hc.r6;exact⟨adB (ag6 hc km) c6 Uc Uc Uc,ii.1,ii.2,Rq c kk,hd⟩
end
end Go.V
namespace Go.V
section
variable {a0 a1 a2: af} {a3: Int} {a4 a5 a6 a7 a8 a9: af} {z: Int}
def ajA (_: -9223372036854775808<=z)(_:z<=9223372036854775807): -9223372036854775808<=pfN z/\pfN z<=9223372036854775807:=by
 unfold pfN;split
 ·rename_i h;have:=ay.1 h;omega
 ·omega
def ako (c:xpB a1 a2 a3 a4 a5 (pfN z)=true):xlL a1 a2 a3 a4 a5 a7 z=inL a7 (Ii a7 0 (xpA a1 a2 a3 a4 a5 (pfN z))) [[.i (xpA a1 a2 a3 a4 a5 (pfN z)),.i (pfN z),.i z]]/\xlA a1 a2 a3 a4 a5 z=xpA a1 a2 a3 a4 a5 (pfN z)*16:=by
 unfold xlL xlA;rw[VO c,VO c];exact⟨rfl,rfl⟩
def agS (c:xpB a1 a2 a3 a4 a5 (pfN z)=false):xlL a1 a2 a3 a4 a5 a7 z=a7/\xlA a1 a2 a3 a4 a5 z= -1:=by
 unfold xlL xlA;rw[c];exact⟨rfl,rfl⟩
end
def Mj {h:Bool}{a3:Int}{a8 a9:af}{aG aH t z:Int}(e:h=false\/aH=1000000\/90000<a3):xaG h a3 a8 a9 aG aH t z=5:=by unfold xaG;rw[VO e]
def agH {h:Bool}{a3:Int}{a8 a9:af}{aG aH t z:Int}(e1:h=true)(e2:aH≠1000000)(e3:a3<=90000)(e4:inR t 0 (a9.length-1)=false):xaG h a3 a8 a9 aG aH t z=1:=by unfold xaG;rw[VP (by rintro(q|q|q);(rw[e1]at q;cases q);(exact e2 q);omega),VO e4]
def agI {h:Bool}{a3:Int}{a8 a9:af}{aG aH t z:Int}(e1:h=true)(e2:aH≠1000000)(e3:a3<=90000)(e4:inR t 0 (a9.length-1)=true)(e5:inR z 1 1000=false):xaG h a3 a8 a9 aG aH t z=2:=by unfold xaG;rw[VP (by rintro(q|q|q);(rw[e1]at q;cases q);(exact e2 q);omega),VP (by rw[e4];decide),VO e5]
def agJ {h:Bool}{a3:Int}{a8 a9:af}{aG aH t z:Int}(e1:h=true)(e2:aH≠1000000)(e3:a3<=90000)(e4:inR t 0 (a9.length-1)=true)(e5:inR z 1 1000=true)(e6:aG<bQ .add Za (lsI a8) z):xaG h a3 a8 a9 aG aH t z=3:=by unfold xaG;rw[VP (by rintro(q|q|q);(rw[e1]at q;cases q);(exact e2 q);omega),VP (by rw[e4];decide),VP (by rw[e5];decide),VO e6]
def agK {h:Bool}{a3:Int}{a8 a9:af}{aG aH t z:Int}(e1:h=true)(e2:aH≠1000000)(e3:a3<=90000)(e4:inR t 0 (a9.length-1)=true)(e5:inR z 1 1000=true)(e6:bQ .add Za (lsI a8) z<=aG):xaG h a3 a8 a9 aG aH t z=0:=by unfold xaG;rw[VP (by rintro(q|q|q);(rw[e1]at q;cases q);(exact e2 q);omega),VP (by rw[e4];decide),VP (by rw[e5];decide),VP Uc]
def agL {h:Bool}{a3:Int}{a8 a9:af}{aG aH t z c:Int}(e:xaG h a3 a8 a9 aG aH t z=c)(n:c≠0):xaO h a3 a8 a9 aG aH t z=false:=VM (by rw[e];exact n)
def Rm {h:Bool}{a3:Int}{a8 a9:af}{aG aH t z:Int}(e:xaG h a3 a8 a9 aG aH t z=0):xaO h a3 a8 a9 aG aH t z=true:=VL e
def agP {c w:Int}(h:c=0)(n:w<0):xaR c w=4:=by unfold xaR;rw[VP (fun q=>q h),VO n]
def agO {c w:Int}(h:c=0)(n:0<=w):xaR c w=0:=by unfold xaR;rw[VP (fun q=>q h),VP Uc]
def agM {a8:af}{aH t z w:Int}(n:w<0):xaP a8 aH t z w=a8/\xaN aH w=aH:=⟨VP Uc,VP Uc⟩
def agN {a8:af}{aH t z w:Int}(n:0<=w):xaP a8 aH t z w=inL a8 (Ii a8 1 w) [[.i aH,.i w,.i z,.i t]]/\xaN aH w=aH+1:=⟨VO n,VO n⟩
section
variable {g: Bool}
variable {a0 a1 a2: af} {a3: Int} {a4 a5 a6 a7 a8 a9 aA aB aD aL: af} {aC aE aF aG aH: Int} {aI: Bool} {aJ aK aM aN t k i z: Int}
def akp {w:Int}(hk:hpI a0 a1 a2 a3 a4 a5 a6 a7 a8 a9 aA aB aC aD aE aF aG aH aI aJ aK aL aM aN=true)(kk:inR k 0 3=true)(b:xmB a0 a1 a2 a3 a4 a5 a6 a9 aE aI aJ aK t k=false)(hw:xmA a0 a1 a2 a3 a4 a5 a6 a9 aE aI aJ aK t k=w):w<0:=by
 rcases abM (t:=t) hk kk with q|q
 ·rw[b]at q;cases q.1
 ·omega
def akq {w:Int}(hk:hpI a0 a1 a2 a3 a4 a5 a6 a7 a8 a9 aA aB aC aD aE aF aG aH aI aJ aK aL aM aN=true)(kk:inR k 0 3=true)(b:xmB a0 a1 a2 a3 a4 a5 a6 a9 aE aI aJ aK t k=true)(hw:xmA a0 a1 a2 a3 a4 a5 a6 a9 aE aI aJ aK t k=w):0<=w:=by
 rcases abM (t:=t) hk kk with q|q;omega
 ·rw[b]at q;cases q.1
def agT {w:Int}(b:xpB a1 a2 a3 a4 a5 (pfN z)=false)(hw:xlA a1 a2 a3 a4 a5 z=w):w<0:=by
 have:=(agS (a7:=([]:af)) b).2;omega
def agU {w:Int}(b:xpB a1 a2 a3 a4 a5 (pfN z)=true)(hw:xlA a1 a2 a3 a4 a5 z=w):0<=w:=by
 rcases agQ (a1:=a1) (a2:=a2) (a3:=a3) (a4:=a4) (a5:=a5) (z:=z)with q|q;omega
 ·rw[b]at q;cases q.1
def ag0 {w:Int}(hk:hpI a0 a1 a2 a3 a4 a5 a6 a7 a8 a9 aA aB aC aD aE aF aG aH aI aJ aK aL aM aN=true)(kk:inR k 0 3=true)(hw:xmA a0 a1 a2 a3 a4 a5 a6 a9 aE aI aJ aK t k=w)(h:w<0):w= -1:=by
 rcases abM (t:=t) hk kk with q|q<;>omega
def agR {w:Int}(hw:xlA a1 a2 a3 a4 a5 z=w)(h:w<0):w= -1:=by
 rcases agQ (a1:=a1) (a2:=a2) (a3:=a3) (a4:=a4) (a5:=a5) (z:=z)with q|q<;>omega
end
end Go.V
namespace Go.V
def ug {cs:af}{i i' h h':Int}(a:i=i')(b:h=h'):[H.ro (.s 1 cs),H.own (.i i),H.own (.i h)]=[H.ro (.s 1 cs),H.own (.i i'),H.own (.i h')]:=by rw[a,b]
def bgB (cs:af):Bool:=decide ((cs.length:Int)>1048576)
def ab1 {cs:af}(h:bgB cs=false):cs.length<=1048576:=by
 unfold bgB at h;simp only[decide_eq_false_iff_not]at h;omega
def Qz {w:Nat}{l:af}{i:Int}{j:Nat}(h0:0<=i):zq (.s w l) [(i.toNat,j)]=ag l i j:=by
 rw[BH];unfold ag;rw[ZJ]
def tf0 {b:Bool}(h:b=true)(q:b=false):False:=by rw[h]at q;cases q
def dbt {a:Bool}(h:a=true):[DV.k a]=[DV.k true]:=by rw[h]
end Go.V
namespace Go.V
structure HV where
 (a0 a1 a2:af) (a3:Int) (a4 a5 a6 a7 a8 a9 aA aB:af) (aC:Int) (aD:af) (aE aF aG aH:Int) (aI:Bool) (aJ aK:Int) (aL:af) (aM aN:Int)
def hvN (p f t l:Int)(rs:af):HV:=⟨hnC p f t l rs,hnU p f t l rs,hnE p f t l rs,0,hnR p f t l rs,hnF p f t l rs,[],[],[],hnK p f t l rs,hnM p f t l rs,hnI p f t l rs,hnQ p f t l rs,[],0,0,hnL p f t l rs,hnN p f t l rs,false,0,0,[],0,0⟩
def HV.hp (h:HV):Bool:=hpI h.a0 h.a1 h.a2 h.a3 h.a4 h.a5 h.a6 h.a7 h.a8 h.a9 h.aA h.aB h.aC h.aD h.aE h.aF h.aG h.aH h.aI h.aJ h.aK h.aL h.aM h.aN
def HV.ao (h:HV)(t z:Int):Bool:=xaO h.hp h.a3 h.a8 h.a9 h.aG h.aH t z
def HV.aQ (h:HV)(t z:Int):Int:=xaA (h.ao t z) h.a0 h.a1 h.a2 h.a3 h.a4 h.a5 h.a6 h.a7 h.a9 h.aE h.aI h.aJ h.aK t z
def HV.aR (h:HV)(t z:Int):Int:=xaR (xaG h.hp h.a3 h.a8 h.a9 h.aG h.aH t z) (h.aQ t z)
def HV.al (h:HV)(t z:Int):HV:=
 let g:=h.ao t z
 ⟨xaC g h.a0 h.a1 h.a2 h.a3 h.a4 h.a5 h.a6 h.a7 h.a9 h.aE h.aI h.aJ h.aK t z,xaU g h.a0 h.a1 h.a2 h.a3 h.a4 h.a5 h.a6 h.a7 h.a9 h.aE h.aI h.aJ h.aK t z,
  xaE g h.a0 h.a1 h.a2 h.a3 h.a4 h.a5 h.a6 h.a7 h.a9 h.aE h.aI h.aJ h.aK t z,xaK g h.a0 h.a1 h.a2 h.a3 h.a4 h.a5 h.a6 h.a7 h.a9 h.aE h.aI h.aJ h.aK t z,
  h.a4,xaF g h.a0 h.a1 h.a2 h.a3 h.a4 h.a5 h.a6 h.a7 h.a9 h.aE h.aI h.aJ h.aK t z,xaS g h.a0 h.a1 h.a2 h.a3 h.a4 h.a5 h.a6 h.a7 h.a9 h.aE h.aI h.aJ h.aK t z,
  xaL g h.a0 h.a1 h.a2 h.a3 h.a4 h.a5 h.a6 h.a7 h.a9 h.aE h.aI h.aJ h.aK t z,xaP h.a8 h.aH t z (h.aQ t z),xaX g h.a0 h.a1 h.a2 h.a3 h.a4 h.a5 h.a6 h.a7 h.a9 h.aE h.aI h.aJ h.aK t z,
  h.aA,h.aB,h.aC,h.aD,xaD g h.a0 h.a1 h.a2 h.a3 h.a4 h.a5 h.a6 h.a7 h.a9 h.aE h.aI h.aJ h.aK t z,h.aF,h.aG,xaN h.aH (h.aQ t z),h.aI,h.aJ,h.aK,h.aL,h.aM,h.aN⟩
def HV.lv (h:HV)(a:Int):Int:=hlV (ooI h.hp h.a8 a) (ldV h.a0 h.a1 h.a2 a)
def HV.lk (h:HV)(a:Int):Int:=hlK (ooI h.hp h.a8 a)
def R9:Nat->Ty->L->Bool
 |_,.int k,.v (.int k' n)=>decide (k'=k)&&(decide (k.min<=n)&&decide (n<=k.max))
 |_,.bool,.v (.bool _)=>true
 |k+1,.sl fs,.s sz es=>decide (sz=fs.length)&&(decide (es.length<=maxLen)&&es.all fun e=>decide (e.length=fs.length)&&(fs.zip e).all fun p=>R9 k p.1 p.2)
 |_,_,_=>false
def Mq {k:Nat}(ih:∀ {t:Ty} {l:L},R9 k t l=true->dD t l):∀ {fs:List Ty} {e:aT},e.length=fs.length->((fs.zip e).all fun p=>R9 k p.1 p.2)=true->bV fs e
 |[],[],_,_=>by simp[bV]
 |[],_::_,h,_=>by cases h
 |_::_,[],h,_=>by cases h
 | t::fs,l::e,h,q=>by
   simp only[List.zip_cons_cons,List.all_cons,Zb]at q;simp only[bV];exact⟨ih q.1,Mq ih (by simpa using h) q.2⟩
def Sc:∀ {k:Nat} {t:Ty} {l:L},R9 k t l=true->dD t l:=by
 intro k
 induction k with
 | zero=>
   intro t l h;unfold R9 at h;split at h
   ·simp only[Zb,VN]at h;simp only[dD];exact⟨h.1,h.2⟩
   ·simp only[dD]
   ·rename_i e;cases e
   ·cases h
 | succ k ih=>
   intro t l h;unfold R9 at h;split at h
   ·simp only[Zb,VN]at h;simp only[dD];exact⟨h.1,h.2⟩
   ·simp only[dD]
   ·rename_i e;cases e;simp only[Zb,VN]at h;simp only[dD];refine⟨h.1,h.2.1,fun e he=>?_⟩;have q:=List.all_eq_true.1 h.2.2 e he;simp only[Zb,VN]at q;exact Mq ih q.1 q.2
   ·cases h
def HE (fs:List Ty)(es:af):Bool:=R9 4 (.sl fs) (.s fs.length es)
def jK {fs:List Ty}{es:af}(h:HE fs es=true):Rw fs es:=by
 have q:=Sc h;simp only[dD]at q;exact q.2
def HV.wf (h:HV):Bool:=
 HE [.sl [tI]] h.a0&&(HE [tB] h.a1&&(HE [tI,tI] h.a2&&(HE [tI] h.a4&&(HE [tI,tI] h.a5&&(HE [tI,tI,tI] h.a6&&(HE [tI,tI,tI] h.a7&&(HE [tI,tI,tI,tI] h.a8&&(HE [.sl [.sl [tI]]] h.a9&&
 (HE [.sl [tI,tI]] h.aA&&(HE [.sl [tI]] h.aB&&(HE [tI,tI,tI] h.aD&&(HE [tI] h.aL&&decide (Ab [h.a0,h.a1,h.a2,h.a4,h.a5,h.a6,h.a7,h.a8,h.a9,h.aA,h.aB,h.aD,h.aL]<=1048576)))))))))))))
def HV.wf_hc {h:HV}(w:h.wf=true):kJ h.a0 h.a1 h.a2 h.a4 h.a5 h.a6 h.a7 h.a8 h.a9 h.aA h.aB h.aD h.aL/\au h.a6<=1000000000/\au h.a7<=1000000000/\au h.a8<=1000000000/\au h.a9<=300000000/\au h.aA<=500000000/\au h.aB<=1000000000:=by
 simp only[HV.wf,Zb,VN]at w;obtain⟨h0,h1,h2,h4,h5,h6,h7,h8,h9,h10,h11,h13,h21,hs⟩:=w;have c:=Pz hs;exact⟨Td (jK h0) (jK h1) (jK h2) (jK h4) (jK h5) (jK h6) (jK h7) (jK h8) (jK h9) (jK h10) (jK h11) (jK h13) (jK h21) hs,by have:=c.2.2.2.2.2.1;omega,by have:=c.2.2.2.2.2.2.1;omega,by have:=c.2.2.2.2.2.2.2.1;omega,by have:=c.2.2.2.2.2.2.2.2.1;omega,by have:=c.2.2.2.2.2.2.2.2.2.1;omega,by have:=c.2.2.2.2.2.2.2.2.2.2.1;omega⟩
end Go.V
namespace Go.V
def HV.fr (h:HV)(t ad:Int):HV:=⟨(ifR (fbL (t0B h.hp h.a3 t h.a9) h.a8 ad) (lgC h.a0 h.a1 h.a2 h.a7 ad) (ifR (fbP (t0B h.hp h.a3 t h.a9) h.a2 h.a8 h.aA h.aB t ad) (fcC h.a0 h.a2 h.a8 ad) (ifR (fbQ (t0B h.hp h.a3 t h.a9) h.a2 h.a8 t ad) (raC h.aI h.aJ h.aK (fcC h.a0 h.a2 h.a8 ad) h.a1 h.a2 h.a5 h.a6 h.a9 t (fqR h.a8 h.aC h.aD h.aF ad)) h.a0))),(ifR (fbL (t0B h.hp h.a3 t h.a9) h.a8 ad) (lgU h.a0 h.a1 h.a2 h.a7 ad) (ifR (fbQ (t0B h.hp h.a3 t h.a9) h.a2 h.a8 t ad) (raU h.aI h.aJ h.aK (fcC h.a0 h.a2 h.a8 ad) h.a1 h.a2 h.a5 h.a6 h.a9 t (fqR h.a8 h.aC h.aD h.aF ad)) h.a1)),(ifR (fbL (t0B h.hp h.a3 t h.a9) h.a8 ad) (lgE h.a0 h.a1 h.a2 h.a7 ad) (ifR (fbQ (t0B h.hp h.a3 t h.a9) h.a2 h.a8 t ad) (raE h.aI h.aJ h.aK (fcC h.a0 h.a2 h.a8 ad) h.a1 h.a2 h.a5 h.a6 h.a9 t (fqR h.a8 h.aC h.aD h.aF ad)) h.a2)),h.a3,h.a4,(ifR (fbL (t0B h.hp h.a3 t h.a9) h.a8 ad) (lgF h.a0 h.a1 h.a2 h.a5 h.a7 ad) (ifR (fbQ (t0B h.hp h.a3 t h.a9) h.a2 h.a8 t ad) (raF h.aI h.aJ h.aK (fcC h.a0 h.a2 h.a8 ad) h.a1 h.a2 h.a5 h.a6 h.a9 t (fqR h.a8 h.aC h.aD h.aF ad)) h.a5)),(ifR (fbQ (t0B h.hp h.a3 t h.a9) h.a2 h.a8 t ad) (raS h.aI h.aJ h.aK (fcC h.a0 h.a2 h.a8 ad) h.a1 h.a2 h.a5 h.a6 h.a9 t (fqR h.a8 h.aC h.aD h.aF ad)) h.a6),(ifR (fbL (t0B h.hp h.a3 t h.a9) h.a8 ad) (lgL h.a7 ad) h.a7),(ifR (fbL (t0B h.hp h.a3 t h.a9) h.a8 ad) (foO h.a8 ad) (ifR (fbP (t0B h.hp h.a3 t h.a9) h.a2 h.a8 h.aA h.aB t ad) (foO h.a8 ad) (ifR (fbQ (t0B h.hp h.a3 t h.a9) h.a2 h.a8 t ad) (foO h.a8 ad) h.a8))),(ifR (fbQ (t0B h.hp h.a3 t h.a9) h.a2 h.a8 t ad) (raD h.aI h.aJ h.aK (fcC h.a0 h.a2 h.a8 ad) h.a1 h.a2 h.a5 h.a6 h.a9 t (fqR h.a8 h.aC h.aD h.aF ad)) h.a9),(ifR (fbP (t0B h.hp h.a3 t h.a9) h.a2 h.a8 h.aA h.aB t ad) (sdU h.aA t (foT h.a8 ad) ad) h.aA),h.aB,h.aC,(ifR (fbQ (t0B h.hp h.a3 t h.a9) h.a2 h.a8 t ad) (fqL h.a8 h.aC h.aD h.aF ad) h.aD),h.aE,h.aF,h.aG,h.aH,h.aI,h.aJ,h.aK,h.aL,h.aM,h.aN⟩
def HV.fr1 (h:HV)(t ad:Int):Int:=(hfK h.hp h.a3 h.a2 h.a6 h.a7 h.a8 h.a9 h.aA h.aB t ad)
def HV.co (h:HV)(t:Int):HV:=⟨(ifR (t0B h.hp h.a3 t h.a9) (raC h.aI h.aJ h.aK h.a0 h.a1 h.a2 h.a5 h.a6 h.a9 t (Nb h.aA h.aB t)) h.a0),(ifR (t0B h.hp h.a3 t h.a9) (raU h.aI h.aJ h.aK h.a0 h.a1 h.a2 h.a5 h.a6 h.a9 t (Nb h.aA h.aB t)) h.a1),(ifR (t0B h.hp h.a3 t h.a9) (raE h.aI h.aJ h.aK h.a0 h.a1 h.a2 h.a5 h.a6 h.a9 t (Nb h.aA h.aB t)) h.a2),h.a3,h.a4,(ifR (t0B h.hp h.a3 t h.a9) (raF h.aI h.aJ h.aK h.a0 h.a1 h.a2 h.a5 h.a6 h.a9 t (Nb h.aA h.aB t)) h.a5),(ifR (t0B h.hp h.a3 t h.a9) (raS h.aI h.aJ h.aK h.a0 h.a1 h.a2 h.a5 h.a6 h.a9 t (Nb h.aA h.aB t)) h.a6),h.a7,h.a8,(ifR (t0B h.hp h.a3 t h.a9) (raD h.aI h.aJ h.aK h.a0 h.a1 h.a2 h.a5 h.a6 h.a9 t (Nb h.aA h.aB t)) h.a9),h.aA,(ifR (t0B h.hp h.a3 t h.a9) (coX h.aA h.aB t) h.aB),h.aC,h.aD,h.aE,h.aF,h.aG,h.aH,h.aI,h.aJ,h.aK,h.aL,h.aM,h.aN⟩
def HV.tk (h:HV)(n:Int):HV:=⟨(ifR (tgB h.hp h.a3 n h.aF) (tkC h.aI h.aJ h.aK h.a0 h.a1 h.a2 h.a5 h.a6 (qeR h.aC h.aD (ckN h.aF n) 100)) h.a0),(ifR (tgB h.hp h.a3 n h.aF) (tkU h.aI h.aJ h.aK h.a0 h.a1 h.a2 h.a5 h.a6 (qeR h.aC h.aD (ckN h.aF n) 100)) h.a1),(ifR (tgB h.hp h.a3 n h.aF) (tkE h.aI h.aJ h.aK h.a0 h.a1 h.a2 h.a5 h.a6 (qeR h.aC h.aD (ckN h.aF n) 100)) h.a2),h.a3,h.a4,(ifR (tgB h.hp h.a3 n h.aF) (tkF h.aI h.aJ h.aK h.a0 h.a1 h.a2 h.a5 h.a6 (qeR h.aC h.aD (ckN h.aF n) 100)) h.a5),(ifR (tgB h.hp h.a3 n h.aF) (tkS h.aI h.aJ h.aK h.a0 h.a1 h.a2 h.a5 h.a6 (qeR h.aC h.aD (ckN h.aF n) 100)) h.a6),h.a7,h.a8,h.a9,h.aA,h.aB,h.aC,(ifR (tgB h.hp h.a3 n h.aF) (qeL h.aC h.aD (ckN h.aF n) 100) h.aD),h.aE,(ifN (tgB h.hp h.a3 n h.aF) (ckN h.aF n) h.aF),h.aG,h.aH,h.aI,h.aJ,h.aK,h.aL,h.aM,h.aN⟩
def HV.tk1 (h:HV)(n:Int):Int:=(ifN (tgB h.hp h.a3 n h.aF) (lenI (qeR h.aC h.aD (ckN h.aF n) 100)) 0)
def HV.mt (h:HV)  :HV:=⟨h.a0,h.a1,h.a2,h.a3,h.a4,h.a5,h.a6,h.a7,h.a8,h.a9,h.aA,h.aB,h.aC,h.aD,(mtD (mtG h.hp h.aI) h.a2 h.a6 h.aE),h.aF,h.aG,h.aH,(mtO (mtG h.hp h.aI) h.a2 h.a6 h.aE h.aI),(mtJk (mtG h.hp h.aI) h.a2 h.a6 h.aE h.aJ),(mtJm (mtG h.hp h.aI) h.a2 h.a6 h.aE h.aK),(mtJc (mtG h.hp h.aI) h.a2 h.a6 h.aE h.aL),(mtJ0 (mtG h.hp h.aI) h.a2 h.a6 h.aE h.aM),(mtJ0 (mtG h.hp h.aI) h.a2 h.a6 h.aE h.aN)⟩
def HV.mt1 (h:HV)  :Bool:=(mtB (mtG h.hp h.aI) h.a2 h.a6 h.aE)
def HV.ms (h:HV)  :HV:=⟨(mcC (msB h.hp h.a3 h.aI) h.a0 h.a1 h.a2 h.a3 h.a4 h.aJ h.aK h.aL h.aM h.aN),(mcU (msB h.hp h.a3 h.aI) h.a0 h.a1 h.a2 h.a3 h.a4 h.aJ h.aK h.aL h.aM h.aN),(mcE (msB h.hp h.a3 h.aI) h.a0 h.a1 h.a2 h.a3 h.a4 h.aJ h.aK h.aL h.aM h.aN),(mcN (msB h.hp h.a3 h.aI) h.a0 h.a1 h.a2 h.a3 h.a4 h.aJ h.aK h.aL h.aM h.aN),h.a4,h.a5,h.a6,h.a7,h.a8,h.a9,h.aA,h.aB,h.aC,h.aD,h.aE,h.aF,h.aG,h.aH,(meB (moB (msB h.hp h.a3 h.aI) h.a0 h.a1 h.a2 h.a3 h.a4 h.aJ h.aK h.aL h.aM h.aN) h.aI),(ifN (moB (msB h.hp h.a3 h.aI) h.a0 h.a1 h.a2 h.a3 h.a4 h.aJ h.aK h.aL h.aM h.aN) 0 h.aJ),(ifN (moB (msB h.hp h.a3 h.aI) h.a0 h.a1 h.a2 h.a3 h.a4 h.aJ h.aK h.aL h.aM h.aN) 0 h.aK),(ifR (moB (msB h.hp h.a3 h.aI) h.a0 h.a1 h.a2 h.a3 h.a4 h.aJ h.aK h.aL h.aM h.aN) [] h.aL),(ifN (moB (msB h.hp h.a3 h.aI) h.a0 h.a1 h.a2 h.a3 h.a4 h.aJ h.aK h.aL h.aM h.aN) 0 (mphN (msB h.hp h.a3 h.aI) h.a0 h.a1 h.a2 h.a3 h.a4 h.aJ h.aK h.aL h.aM h.aN)),(ifN (moB (msB h.hp h.a3 h.aI) h.a0 h.a1 h.a2 h.a3 h.a4 h.aJ h.aK h.aL h.aM h.aN) 0 (mqhN (msB h.hp h.a3 h.aI) h.a0 h.a1 h.a2 h.a3 h.a4 h.aJ h.aK h.aL h.aM h.aN))⟩
def HV.ms1 (h:HV)  :Int:=(mphN (msB h.hp h.a3 h.aI) h.a0 h.a1 h.a2 h.a3 h.a4 h.aJ h.aK h.aL h.aM h.aN)
def HV.ms2 (h:HV)  :Bool:=(msB h.hp h.a3 h.aI)
end Go.V
namespace Go.V
structure HvW (h:HV):Prop where
 w:h.wf=true
def xW (h:HV):HV.mk h.a0 h.a1 h.a2 h.a3 h.a4 h.a5 h.a6 h.a7 h.a8 h.a9 h.aA h.aB h.aC h.aD h.aE h.aF h.aG h.aH h.aI h.aJ h.aK h.aL h.aM h.aN=h:=rfl
def HV.cp (h:HV):HV:=h
def NA (h:HV):DV:=.agg (Mu h.a0 h.a1 h.a2 h.a3 h.a4 h.a5 h.a6 h.a7 h.a8 h.a9 h.aA h.aB h.aC h.aD h.aE h.aF h.aG h.aH h.aI h.aJ h.aK h.aL h.aM h.aN)
def hvV (r:Nat)(h:HV):List W:=[.leaf r 0 ⟨0,0,none,.own (.s 1 h.a0)⟩,.leaf r 1 ⟨0,0,none,.own (.s 1 h.a1)⟩,.leaf r 2 ⟨0,0,none,.own (.s 2 h.a2)⟩,.leaf r 3 ⟨0,0,none,.own (.i h.a3)⟩,.leaf r 4 ⟨0,0,none,.own (.s 1 h.a4)⟩,.leaf r 5 ⟨0,0,none,.own (.s 2 h.a5)⟩,.leaf r 6 ⟨0,0,none,.own (.s 3 h.a6)⟩,.leaf r 7 ⟨0,0,none,.own (.s 3 h.a7)⟩,.leaf r 8 ⟨0,0,none,.own (.s 4 h.a8)⟩,.leaf r 9 ⟨0,0,none,.own (.s 1 h.a9)⟩,.leaf r 10 ⟨0,0,none,.own (.s 1 h.aA)⟩,.leaf r 11 ⟨0,0,none,.own (.s 1 h.aB)⟩,.leaf r 12 ⟨0,0,none,.own (.i h.aC)⟩,.leaf r 13 ⟨0,0,none,.own (.s 3 h.aD)⟩,.leaf r 14 ⟨0,0,none,.own (.i h.aE)⟩,.leaf r 15 ⟨0,0,none,.own (.i h.aF)⟩,.leaf r 16 ⟨0,0,none,.own (.i h.aG)⟩,.leaf r 17 ⟨0,0,none,.own (.i h.aH)⟩,.leaf r 18 ⟨0,0,none,.own (.v (.bool h.aI))⟩,.leaf r 19 ⟨0,0,none,.own (.i h.aJ)⟩,.leaf r 20 ⟨0,0,none,.own (.i h.aK)⟩,.leaf r 21 ⟨0,0,none,.own (.s 1 h.aL)⟩,.leaf r 22 ⟨0,0,none,.own (.i h.aM)⟩,.leaf r 23 ⟨0,0,none,.own (.i h.aN)⟩]
def P8 (O:zW)(h:HV):HV:=⟨O.sub h.a0 0 (O.ln h.a0),O.sub h.a1 0 (O.ln h.a1),O.sub h.a2 0 (O.ln h.a2),h.a3,O.sub h.a4 0 (O.ln h.a4),O.sub h.a5 0 (O.ln h.a5),O.sub h.a6 0 (O.ln h.a6),O.sub h.a7 0 (O.ln h.a7),O.sub h.a8 0 (O.ln h.a8),O.sub h.a9 0 (O.ln h.a9),O.sub h.aA 0 (O.ln h.aA),O.sub h.aB 0 (O.ln h.aB),h.aC,O.sub h.aD 0 (O.ln h.aD),h.aE,h.aF,h.aG,h.aH,h.aI,h.aJ,h.aK,O.sub h.aL 0 (O.ln h.aL),h.aM,h.aN⟩
def hvE (h:HV):HV:=⟨h.a0,h.a1,h.a2,h.a3,h.a4,h.a5,h.a6,h.a7,h.a8,h.a9,h.aA,h.aB,h.aC,h.aD,h.aE,h.aF,h.aG,h.aH,h.aI,h.aJ,h.aK,h.aL,h.aM,h.aN⟩
end Go.V
namespace Go.V
section
variable {α β : Type}
end
end Go.V
namespace Go.V
structure akD (es es':af):Prop where
 l:es'.length=es.length
 m:∀ p,peM es' p=0↔peM es p=0
 f:∀ p,peF es' p=peF es p
section
variable {es es' fr sp lg cs us rs xs: af} {c kp mv ph nx: Int}
end
section
variable {a0 a1 a2: af} {a3: Int} {a4 a5 a6 a7 a8 a9 aA aB: af} {aC: Int} {aD: af} {aE aF aG aH: Int} {aI: Bool} {aJ aK: Int} {aL: af} {aM aN: Int}
end
def HV.mq (h:HV):HV:=⟨mcC true h.a0 h.a1 h.a2 h.a3 h.a4 h.aJ h.aK h.aL h.aM h.aN,mcU true h.a0 h.a1 h.a2 h.a3 h.a4 h.aJ h.aK h.aL h.aM h.aN,mcE true h.a0 h.a1 h.a2 h.a3 h.a4 h.aJ h.aK h.aL h.aM h.aN,mcN true h.a0 h.a1 h.a2 h.a3 h.a4 h.aJ h.aK h.aL h.aM h.aN,h.a4,h.a5,h.a6,h.a7,h.a8,h.a9,h.aA,h.aB,h.aC,h.aD,h.aE,h.aF,h.aG,h.aH,meB (moB true h.a0 h.a1 h.a2 h.a3 h.a4 h.aJ h.aK h.aL h.aM h.aN) h.aI,ifN (moB true h.a0 h.a1 h.a2 h.a3 h.a4 h.aJ h.aK h.aL h.aM h.aN) 0 h.aJ,ifN (moB true h.a0 h.a1 h.a2 h.a3 h.a4 h.aJ h.aK h.aL h.aM h.aN) 0 h.aK,ifR (moB true h.a0 h.a1 h.a2 h.a3 h.a4 h.aJ h.aK h.aL h.aM h.aN) [] h.aL,ifN (moB true h.a0 h.a1 h.a2 h.a3 h.a4 h.aJ h.aK h.aL h.aM h.aN) 0 (mphN true h.a0 h.a1 h.a2 h.a3 h.a4 h.aJ h.aK h.aL h.aM h.aN),ifN (moB true h.a0 h.a1 h.a2 h.a3 h.a4 h.aJ h.aK h.aL h.aM h.aN) 0 (mqhN true h.a0 h.a1 h.a2 h.a3 h.a4 h.aJ h.aK h.aL h.aM h.aN)⟩
end Go.V
namespace Go.V
structure aky (n:Int)(o:af):Prop where
 b:∀ j:Nat,j<o.length->0<=ag o (j:Int) 0/\ag o (j:Int) 0<n
 a:∀ j:Nat,0<j->j<o.length->ag o ((j-1:Nat):Int) 0<ag o (j:Int) 0
def HV.mt_no {h:HV}(p:h.hp=false):h.mt=h/\h.mt1=false:=by
 have g:mtG h.hp h.aI=false:=Qt p;have b:=aet (e:=h.a2) (s:=h.a6) (d:=h.aE) g;refine⟨?_,b⟩;unfold HV.mt;rw[aex g,Qs b,KQ b,KR b,KP b,FD b,FD b]
def HV.mu (h:HV):HV:=⟨h.a0,h.a1,h.a2,h.a3,h.a4,h.a5,h.a6,h.a7,h.a8,h.a9,h.aA,h.aB,h.aC,h.aD,mtD true h.a2 h.a6 h.aE,h.aF,h.aG,h.aH,mtO true h.a2 h.a6 h.aE h.aI,mtJk true h.a2 h.a6 h.aE h.aJ,mtJm true h.a2 h.a6 h.aE h.aK,mtJc true h.a2 h.a6 h.aE h.aL,mtJ0 true h.a2 h.a6 h.aE h.aM,mtJ0 true h.a2 h.a6 h.aE h.aN⟩
end Go.V
namespace Go.V
structure oX (h:HV):Prop where
 c:kJ h.a0 h.a1 h.a2 h.a4 h.a5 h.a6 h.a7 h.a8 h.a9 h.aA h.aB h.aD h.aL
def HV.wf_c {h:HV}(w:h.wf=true):oX h:=⟨(HV.wf_hc w).1⟩
def oX.ms {h:HV}(C:oX h):oX h.ms:=⟨aef C.c⟩
def oX.mt {h:HV}(C:oX h):oX h.mt:=⟨ael C.c _ _⟩
def Bi:Nat->HV->HV
 |0,h=>h
 |n+1,h=>if h.aI then(if h.ms2 then(if h.ms1=4 then h.ms else Bi n h.ms)else h.ms)else h
def EY:Nat->HV->Bool
 |0,_=>false
 |n+1,h=>if h.aI then(if h.ms2 then(if h.ms1=4 then true else EY n h.ms)else false)else false
def oX.fj:∀ {n:Nat} {h:HV},oX h->oX (Bi n h)
 |0,_,C=>C
 | n+1,h,C=>by
   unfold Bi
   repeat' split
   ·exact C.ms
   ·exact oX.fj C.ms
   ·exact C.ms
   ·exact C
def Qn:Nat->HV->HV
 |0,h=>h
 |n+1,h=>if h.mt1 then Qn n (Bi 100 h.mt)else Qn n h.mt
def maN:Nat->HV->Int->Int
 |0,_,k=>k
 |n+1,h,k=>if h.mt1 then maN n (Bi 100 h.mt) (if EY 100 h.mt then bQ .add Za k 1 else k)else maN n h.mt k
def Hf (h:HV)(m:Int):Bool:=h.hp&&(decide (h.a3<=90000)&&inR m 0 20)
def HV.ma (h:HV)(m:Int):HV:=if Hf h m then Qn m.toNat (Bi 100 h)else h
def HV.ma1 (h:HV)(m:Int):Int:=if Hf h m then maN m.toNat (Bi 100 h) (if EY 100 h then bQ .add Za 0 1 else 0)else 0
def oX.mah:∀ {n:Nat} {h:HV},oX h->oX (Qn n h)
 |0,_,C=>C
 | n+1,h,C=>by
   unfold Qn;split;exact oX.mah (oX.fj C.mt);exact oX.mah C.mt
def oX.ma {h:HV}{m:Int}(C:oX h):oX (h.ma m):=by
 unfold HV.ma;split;exact oX.mah (oX.fj C);exact C
structure Jb (X:HV)(B:Bool)(h:HV)(i:Int):Prop where
 i0:0<=i
 i1:i<=100
 c:oX h
 e:Bi (100-i).toNat h=X
 b:EY (100-i).toNat h=B
def Nn {h:HV}(c:oX h):Jb (Bi 100 h) (EY 100 h) h 0:=⟨Uc,Uc,c,rfl,rfl⟩
def Jb.end1 {X h:HV}{B:Bool}{i:Int}(P:Jb X B h i)(q:¬ i<100):h=X/\false=B:=by
 have e:(100-i).toNat=0:=by omega
 have p1:=P.e;have p2:=P.b;rw[e]at p1 p2;exact⟨p1,p2⟩
def Jb.end2 {X h:HV}{B:Bool}{i:Int}(P:Jb X B h i)(q:h.aI=false):h=X/\false=B:=by
 have p1:=P.e;have p2:=P.b;cases e:(100-i).toNat with
 |zero=>rw[e]at p1 p2;exact⟨p1,p2⟩
 | succ n=>
   rw[e]at p1 p2;simp only[Bi,q,ZT,if_false]at p1;simp only[EY,q,ZT,if_false]at p2;exact⟨p1,p2⟩
def Jb.step {X h:HV}{B:Bool}{i:Int}(P:Jb X B h i)(q:i<100)(a:h.aI=true):(h.ms2=false->h.ms=X/\false=B)/\(h.ms2=true->h.ms1=4->h.ms=X/\true=B)/\(h.ms2=true->h.ms1≠4->Jb X B h.ms (i+1)):=by
 have i0:=P.i0;have e:(100-i).toNat=(100- (i+1)).toNat+1:=by omega
 have p1:=P.e;have p2:=P.b;rw[e]at p1 p2;simp only[Bi,a,if_true]at p1;simp only[EY,a,if_true]at p2;refine⟨fun b=>?_,fun b c=>?_,fun b c=>?_⟩
 ·simp only[b,ZT,if_false]at p1 p2;exact⟨p1,p2⟩
 ·simp only[b,c,if_true]at p1 p2;exact⟨p1,p2⟩
 ·simp only[b,c,if_true,if_false]at p1 p2;exact⟨Uc,Uc,P.c.ms,p1,p2⟩
structure Gx (X:HV)(K:Int)(h:HV)(m k:Int):Prop where
 m0:0<=m
 m1:m<=20
 c:oX h
 e:Qn m.toNat h=X
 n:maN m.toNat h k=K
def Gx.fin {X h:HV}{K m k:Int}(P:Gx X K h m k)(q:¬ m>0):h=X/\k=K:=by
 have e:m.toNat=0:=by have:=P.m0;omega
 have p1:=P.e;have p2:=P.n;rw[e]at p1 p2;exact⟨p1,p2⟩
def Gx.step {X h:HV}{K m k:Int}(P:Gx X K h m k)(q:m>0):(h.mt1=false->Gx X K h.mt (m-1) k)/\(h.mt1=true->EY 100 h.mt=true->Gx X K (Bi 100 h.mt) (m-1) (bQ .add Za k 1))/\(h.mt1=true->EY 100 h.mt=false->Gx X K (Bi 100 h.mt) (m-1) k):=by
 have m1:=P.m1;have e:m.toNat=(m-1).toNat+1:=by omega
 have p1:=P.e;have p2:=P.n;rw[e]at p1 p2;simp only[Qn]at p1;simp only[maN]at p2;refine⟨fun b=>?_,fun b c=>?_,fun b c=>?_⟩
 ·simp only[b,ZT,if_false]at p1 p2;exact⟨Uc,Uc,P.c.mt,p1,p2⟩
 ·simp only[b,if_true]at p1 p2;simp only[c,if_true]at p2;exact⟨Uc,Uc,oX.fj P.c.mt,p1,p2⟩
 ·simp only[b,if_true]at p1 p2;simp only[c,ZT,if_false]at p2;exact⟨Uc,Uc,oX.fj P.c.mt,p1,p2⟩
def NY {h:HV}{m:Int}(w:oX h)(g:Hf h m=true):(EY 100 h=true->Gx (h.ma m) (h.ma1 m) (Bi 100 h) m (bQ .add Za 0 1))/\(EY 100 h=false->Gx (h.ma m) (h.ma1 m) (Bi 100 h) m 0):=by
 have g':=g;simp only[Hf,Zb,VN]at g';have r:=ay.1 g'.2.2;refine⟨fun c=>⟨Uc,Uc,oX.fj w,?_,?_⟩,fun c=>⟨Uc,Uc,oX.fj w,?_,?_⟩⟩
 ·simp only[HV.ma,g,if_true]
 ·simp only[HV.ma1,g,c,if_true]
 ·simp only[HV.ma,g,if_true]
 ·simp only[HV.ma1,g,c,ZT,if_true,if_false]
def aea {h:HV}{m:Int}(g:Hf h m=false):h.ma m=h/\h.ma1 m=0:=by
 constructor
 ·simp only[HV.ma,g,ZT,if_false]
 ·simp only[HV.ma1,g,ZT,if_false]
def ajh {h:HV}{m:Int}(p:h.hp=false):Hf h m=false:=by unfold Hf;rw[p];rfl
def aji {h:HV}{m:Int}(p:h.a3>90000):Hf h m=false:=by unfold Hf;rw[VM Uc];simp
def ajj {h:HV}{m:Int}(p:inR m 0 20=false):Hf h m=false:=by unfold Hf;rw[p];simp
def ajk {h:HV}{m:Int}(p:h.hp=true)(q:¬ h.a3>90000)(r:inR m 0 20=true):Hf h m=true:=by unfold Hf;rw[p,VL Uc,r];rfl
def HV.sf (h:HV):Int:=sfI h.hp (mpT h.a2) (ufN h.a0 h.a1)
end Go.V
namespace Go.V
def v39:HV:=hvN 8 8 1 300 []
def Mh:Nat->HV
 |0=>v39
 |n+1=>(Mh n).al 0 8
def y39 (i j:Int):HV:=((Mh 4).fr 0 i).fr 0 j
def t39 (i j:Int):HV:=(y39 i j).tk 200
def z39 (i j:Int):HV:=(t39 i j).ma 1
def e39 (i j:Int):Int:=if i=j-16 then 0 else 1
def o39 (i j:Int):Bool:=
 ((Mh 4).fr 0 i).wf&&((y39 i j).wf&&((t39 i j).wf&&(decide ((y39 i j).tk1 200=2)&&(decide ((t39 i j).ma1 1=e39 i j)&&((z39 i j).hp&&decide ((z39 i j).sf=e39 i j))))))
set_option maxRecDepth 100000
set_option maxHeartbeats 40000000
def Pf:∀ n∈[0,1,2,3,4],(Mh n).wf=true:=by decide+kernel
def l39:((Mh 4).a8.length:Int)=4:=by decide+kernel
def Oh:∀ i∈[(0:Int),8],∀ j∈[(16:Int),24],o39 i j=true:=by decide+kernel
def f39 {i j:Int}(hi:i∈[(0:Int),8])(hj:j∈[(16:Int),24]):((Mh 4).fr 0 i).wf=true/\(y39 i j).wf=true/\(t39 i j).wf=true/\(y39 i j).tk1 200=2/\(t39 i j).ma1 1=e39 i j/\(z39 i j).hp=true/\(z39 i j).sf=e39 i j:=by
 have q:=Oh i hi j hj
 simpa only[o39,Zb,VN]using q
def g39 {i:Int}(h0:0<=i)(h1:i<=4):(Mh i.toNat).wf=true:=Pf i.toNat (by
 have:i=0\/i=1\/i=2\/i=3\/i=4:=by omega
 rcases this with rfl|rfl|rfl|rfl|rfl<;>decide)
def agC {i:Int}(h0:0<=i):Mh (i+1).toNat=(Mh i.toNat).al 0 8:=by
 rw[show(i+1).toNat=i.toNat+1 by omega];rfl
structure Jh (h:HV)(i:Int):Prop where
 i0:0<=i
 i1:i<=4
 e:h=Mh i.toNat
def Jh.wf {h:HV}{i:Int}(P:Jh h i):h.wf=true:=by rw[P.e];exact g39 P.i0 P.i1
def Jh.step {h:HV}{i:Int}(P:Jh h i)(q:i<4):Jh (h.al 0 8) (i+1):=⟨by have:=P.i0;omega,Uc,by rw[agC P.i0, <-P.e]⟩
def Jh.fin {h:HV}{i:Int}(P:Jh h i)(q:¬ i<4):h=Mh 4:=by
 have e:=P.e;have i1:=P.i1;rw[show i.toNat=4 by omega]at e;exact e
def r39 {x:Int}(h0:0<=x)(h1:x<2):x=0\/x=1:=by omega
def i39 {x:Int}(h:x=0\/x=1):bQ .mul Za x 8∈[(0:Int),8]:=by rcases h with rfl|rfl<;>decide+kernel
def j39 {x:Int}(h:x=0\/x=1):bQ .add Za 16 (bQ .mul Za x 8)∈[(16:Int),24]:=by rcases h with rfl|rfl<;>decide+kernel
def k39 {x y:Int}(h:x=0\/x=1)(g:y=0\/y=1):(x=y->e39 (bQ .mul Za x 8) (bQ .add Za 16 (bQ .mul Za y 8))=0)/\(x≠y->e39 (bQ .mul Za x 8) (bQ .add Za 16 (bQ .mul Za y 8))=1):=by
 rcases h with rfl|rfl<;>rcases g with rfl|rfl<;>decide+kernel
def b39 {x:Int}(h:x∈[(0:Int),8]): -9223372036854775808<=x/\x<=9223372036854775807:=by simp only[Zl,YJ,or_false]at h;omega
def c39 {x:Int}(h:x∈[(16:Int),24]): -9223372036854775808<=x/\x<=9223372036854775807:=by simp only[Zl,YJ,or_false]at h;omega
def ahV:hnB 8 8 1 300 []=true:=by decide+kernel
end Go.V