/- Plain facts. -/
import Derived.Test.YtpldpilhgjpkjaaGreatXHB
set_option linter.all false
open Go
open BitVec renaming ofInt_natCast->Xg,toNat_ofNat->Y2,toInt_eq_toNat_of_lt->Wh
open Bool renaming true_and->Yp,and_eq_true->Zc,not_eq_true'->Yv,and_false->Yh,or_eq_true->Z4,noConfusion->Xj
open Int renaming toNat_natCast->ZG,toNat->Ye,one_mul->Wc,eq_ofNat_of_zero_le->Z9,toNat_of_nonneg->Zr,mul_ediv_add_emod->WX,le_refl->Yg,not_le->WY
open IntKind renaming i64->Zs,wrap->YY,i64->Za
open List renaming take->Z7,drop->Ym,nil_append->Z0,take_of_length_le->Yl,length_drop->Zn,length_cons->Zj,length_nil->Zk,mem_cons->Zl,length_set->Zw,getD_eq_getElem?_getD->Zm,getElem?_append_left->ZO,length_take->Zh,getElem?_take_of_lt->Y4,getElem?_append_right->ZJ,length_append->Zf,mem_of_mem_drop->Yw,mem_of_mem_take->Xh,getElem?_set_self->Xi,set_set->Wl,append_assoc->Zp,mem_append->Zg
open Nat renaming le_refl->Ze,le_trans->ZN,zero_le->ZB,sub_self->XQ,not_lt_zero->Xw
open Option.some renaming injEq->Ya
open Value renaming int->Zi
namespace Go.V
theorem tC {o:af}{n:Int}{j:Nat}(h:Rw [tI,tI,tI] o)(n0:0<=n)(n1:n<o.length)(hj:j<3):∃ rec o',bQ (L.s 3 o) [(n.toNat,j)]=some (rec,o')/\o'+[L.v (Zi Zs 0)].length<=rec.length/\Z7 [L.v (Zi Zs 0)].length (Ym o' rec)=js aj (L.s 3 o) [(n.toNat,j)] 0 [L.v (Zi Zs 0)]:=by
 rcases(show j=0\/j=1\/j=2 by omega)with rfl|rfl|rfl
 ·exact dU (z0:=[.i 0,.i 0,.i 0]) (z:=[.i 0]) h.wf (by omega) rfl (by decide)
 ·exact dU (z0:=[.i 0,.i 0,.i 0]) (z:=[.i 0]) h.wf (by omega) rfl (by decide)
 ·exact dU (z0:=[.i 0,.i 0,.i 0]) (z:=[.i 0]) h.wf (by omega) rfl (by decide)
section
variable {a0 a1 a2: af} {a3: Int} {a4 a5 a6 a7 a8 a9 aA aB: af} {aC: Int} {aD: af} {aE aF aG aH: Int} {aI: Bool} {aJ aK: Int} {aL: af} {aM aN: Int} {i: Int}
theorem T8 {t l:Int}(m:lM a0 a1 a2)(h0:Rw [.sl [tI]] a0)(h1:Rw [tB] a1)(h2:Rw [tI,tI] a2):lM (duC a0 a1 a2 t l) (duU a0 a1 a2 t l) (duE a0 a1 a2 t l)/\Rw [.sl [tI]] (duC a0 a1 a2 t l)/\Rw [tB] (duU a0 a1 a2 t l)/\Rw [tI,tI] (duE a0 a1 a2 t l)/\(duE a0 a1 a2 t l).length=a2.length/\ap (duC a0 a1 a2 t l)<=1024/\ap (duU a0 a1 a2 t l)<=64/\ap (duE a0 a1 a2 t l)<=64:=by
 have h:=ER (t:=t) m h0 h1 h2 l.toNat;have e:∀ X:af->af->af->Int->Int->af,True:=fun _=>trivial
 have c:duC a0 a1 a2 t l=duC a0 a1 a2 t (l.toNat:Int):=by unfold duC;rw[ZG]
 have u:duU a0 a1 a2 t l=duU a0 a1 a2 t (l.toNat:Int):=by unfold duU;rw[ZG]
 have s:duE a0 a1 a2 t l=duE a0 a1 a2 t (l.toNat:Int):=by unfold duE;rw[ZG]
 rw[c,u,s];exact⟨h.m,h.rc,h.ru,h.re,h.l,ze h⟩
theorem TZ (hc:lq a0 a1 a2 a4 a5 a6 a7 a8 a9 aA aB aD aL):lq a0 a1 a2 a4 a5 (delL a6 i (i+1)) a7 a8 a9 aA aB aD aL:=by
 have s:=uE (i:=i) (j:=i+1) hc.r6 (by omega);have c6:=hc.c6;have n6:=hc.r6.cnt rfl;have z6:=s.1.cnt rfl;exact⟨hc.r0,hc.r1,hc.r2,hc.r4,hc.r5,s.1,hc.r7,hc.r8,hc.r9,hc.r10,hc.r11,hc.r13,hc.r21,hc.c0,hc.c1,hc.c2,hc.c4,hc.c5,by rw[z6];have:=s.2;omega,hc.c7,hc.c8,hc.c9,hc.c10,hc.c11,hc.c13,hc.c21⟩
theorem Py {a6:af}{i:Int}(i0:0<=i)(i1:i<a6.length):[]++jf a6 (Ye 0) (vM i 0)++jf a6 (i+1).toNat (vM (a6.length:Int) (i+1))=dsS a6 i:=by
 unfold dsS delL jf vM;rw[Z0];have e:Z7 (((a6.length:Int).toNat- (i+1).toNat:Nat)) (Ym (i+1).toNat a6)=Ym (i+1).toNat a6:=Yl (by rw[Zn];omega);rw[e];simp
theorem ad9:dsF a0 a1 a2 a5 a6 i=rpL (zlI (AE a2 (ag a6 i 0))) a5 (ag a6 i 0) 1:=by unfold dsF;rw[HM.2.2]
section
variable {k m: Bool} {c x y p: Int} {sp: af}
end
theorem aao (h:hpI a0 a1 a2 a3 a4 a5 a6 a7 a8 a9 aA aB aC aD aE aF aG aH aI aJ aK aL aM aN=true):a5.length<=32:=by
 have T:=wB (gB h).r;have n:=T.n1;have:∀ (l:List Pr) (t:Int),J8 l->(∀ x∈l,t<=x.1/\1<=x.2/\x.1+x.2<=(a2.length:Int))->t+l.length<=(a2.length:Int)\/l=[]:=by
  intro l
  induction l with
  |nil=>intro t _ _;exact .inr rfl
  | cons x l ih=>
    intro t c b;have bx:=b x (by simp);refine .inl ?_;rcases ih (x.1+x.2) (Hs c) (fun y hy=>by have:=CR c y hy;have:=b y (by simp[hy]);omega)with q|q
    ·rw[Zj];omega
    ·rw[q];simp only[Zj,Zk];omega
 have q:=this (qh a5) 0 T.c (fun x hx=>by have:=T.b x hx;omega);rw[pe]at q;rcases q with q|q;omega
 ·have:=congrArg List.length q;rw[pe]at this;simp at this;rw[this];decide
end
end Go.V
namespace Go.V
section
variable {a0 a1 a2: af} {a3: Int} {a4 a5 a6 a7 a8 a9 aA aB: af} {aC: Int} {aD: af} {aE aF aG aH: Int} {aI: Bool} {aJ aK: Int} {aL: af} {aM aN: Int} {p: Int}
end
end Go.V
namespace Go.V
end Go.V
namespace Go.V
def ltB (p n s z:Int):Bool:=lgOk p n s&&inR z 9 s
structure LtT (p n s z:Int):Prop where
 g:lgOk p n s=true
 zi:inR z 9 1000=true
 z0:9<=z/\z<=1000/\z<=s
 p0:0<=p
 n1:p+n<=32
 m0:1<=pfN z/\pfN z<=n
 m1:z<=pfN z*16/\pfN z*16<z+16
theorem IL {cs us es:af}{p:Int}(m:lM cs us es)(h:peM es p≠0):0<=peF es p/\peF es p<cs.length:=by
 have q:=Fg m (p:=p) (VP h);have e:=I8 h;rw[e.2.2];exact q
def pmB (p ad:Int):Bool:=eqB (bO .mul Za p 16) ad
def Bq (lg:af)(ad j:Int):Bool:=pmB (ag lg j 0) ad
def lhI (lg:af)(ad:Int):Int:=cQ (Bq lg ad) lg.length
def SN (cs:af)(f k:Int):Nat->af
 |0=>cs
 |i+1=>pF (SN cs f k i) f (k+i) 0
def tcC (cs es:af)(a n:Int):af:=SN cs (peF es (a/16)) (a%16) n.toNat
structure OQ (cs us es:af)(f k i:Int)(c:af):Prop where
 e:c=SN cs f k i.toNat
 m:lM c us es
 w:Rw [.sl [tI]] c
section
variable {cs us es c: af} {f k i p: Int}
theorem Oi (m:lM cs us es)(w:Rw [.sl [tI]] cs):OQ cs us es f k 0 cs:=⟨rfl,m,w⟩
theorem JN (h:OQ cs us es f k i c)(i0:0<=i)(hp:peM es p≠0)(ef:peF es p=f)(k0:0<=k)(k1:k+i<16):OQ cs us es f k (i+1) (pF c f (k+i) 0):=by
 refine⟨?_,acR h.m hp ef (by omega) k1 (by omega) (by omega),(have fr:=IL h.m hp;JI h.w (by omega) (by omega) (by omega))⟩;rw[show(i+1).toNat=i.toNat+1 by omega,h.e];show _=pF (SN cs f k i.toNat) f (k+(i.toNat:Int)) 0;rw[show(k+(i.toNat:Int))=k+i by omega]
theorem Ms (h:OQ cs us es f k i c){n:Int}(i1:i<=n)(i2:n<=i):c=SN cs f k n.toNat:=by rw[h.e,show i=n by omega]
theorem FO (m:lM cs us es)(w:Rw [.sl [tI]] cs)(hp:peM es p≠0)(ef:peF es p=f)(k0:0<=k):∀ n:Nat,k+n<=16->OQ cs us es f k n (SN cs f k n)
 |0,_=>Oi m w
 | n+1,h=>by
   have q:=JN (FO m w hp ef k0 n (by omega)) (by omega) hp ef k0 (by omega);have e:((n+1:Nat):Int)=(n:Int)+1:=by omega
   rw[e];exact q
end
end Go.V
namespace Go.V
def RV (a7:af)(ad:Int):Int:=ag a7 (lhI a7 ad) 0
def tmN (a7:af)(ad:Int):Int:=ag a7 (lhI a7 ad) 1
def tmS (a7:af)(ad:Int):Int:=ag a7 (lhI a7 ad) 2
def tmD (a0 a2 a7:af)(ad z:Int):af:=tcC a0 a2 (RV a7 ad*16+z) ((16- (RV a7 ad*16+z)%16)%16)
theorem F9 {c u e:af}{t:Int}:duC c u e t 0=c/\duU c u e t 0=u/\duE c u e t 0=e:=⟨rfl,rfl,rfl⟩
section
variable {a0 a1 a2: af} {a3: Int} {a4 a5 a6 a7 a8 a9 aA aB: af} {aC: Int} {aD: af} {aE aF aG aH: Int} {aI: Bool} {aJ aK: Int} {aL: af} {aM aN ad z k: Int}
structure TmT (a1 a2 a5 a7 a8 a0:af)(ad z:Int):Prop where
 k0:0<=lhI a7 ad
 k1:lhI a7 ad<a7.length
 p:RV a7 ad*16=ad
 t:LtT (RV a7 ad) (tmN a7 ad) (tmS a7 ad) z
 b:ltB (RV a7 ad) (tmN a7 ad) (tmS a7 ad) z=true
 o0:0<=obI a8 ad
 o1:obI a8 ad<a8.length
 m:lM a0 a1 a2
 g:∀ q:Int,RV a7 ad<=q->q<RV a7 ad+tmN a7 ad->peM a2 q≠0
 f:a5.length<=32
 d:lM (tmD a0 a2 a7 ad z) a1 a2
 dw:Rw [.sl [tI]] (tmD a0 a2 a7 ad z)
theorem afm {lg:af}(h:0<=lhI lg ad):lhI lg ad<lg.length/\bO .mul Za (ag lg (lhI lg ad) 0) 16=ad:=by
 have t:=fV h;change lhI lg ad<lg.length/\Bq lg ad (lhI lg ad)=true at t;exact⟨t.1,VV t.2⟩
theorem afS {es:af}{x y w:Int}{n:Nat}(h:Rw [tI,tI,tI] es)(hx: -9223372036854775808<=x/\x<=9223372036854775807)(hy: -9223372036854775808<=y/\y<=9223372036854775807)(hw: -9223372036854775808<=w/\w<=9223372036854775807):Rw [tI,tI,tI] (es.set n [.i x,.i y,.i w]):=Rw.set h (show bR [tI,tI,tI] [.i x,.i y,.i w]from⟨⟨rfl,hx⟩,⟨rfl,hy⟩,⟨rfl,hw⟩,trivial⟩) _
end
end Go.V
namespace Go.V
theorem tA {o:af}{n:Int}(h:Rw [tI,tI,tI] o)(n0:0<=n)(n1:n<o.length):∃ rec o',bQ (L.s 3 o) [(n.toNat,0)]=some (rec,o')/\o'+[L.v (Zi Zs 0),L.v (Zi Zs 0),L.v (Zi Zs 0)].length<=rec.length/\Z7 [L.v (Zi Zs 0),L.v (Zi Zs 0),L.v (Zi Zs 0)].length (Ym o' rec)=js aj (L.s 3 o) [(n.toNat,0)] 0 [L.v (Zi Zs 0),L.v (Zi Zs 0),L.v (Zi Zs 0)]:=
 dU (z0:=[.i 0,.i 0,.i 0]) (z:=[.i 0,.i 0,.i 0]) h.wf (by omega) rfl (by decide)
theorem acU {o:af}{n:Int}(h:Rw [tI,tI,tI] o)(n0:0<=n)(n1:n<o.length):∃ rec o',bQ (.s 3 o) [(n.toNat,0)]=some (rec,o')/\o'+3<=rec.length:=eS (by omega) (by rw[h.eta n0 n1];exact Ze _)
section
variable {a0 a1 a2 a5 a7 a8 c: af} {ad z x: Int}
end
end Go.V
namespace Go.V
section
variable {a0 a1 a2: af} {a3: Int} {a4 a5 a6 a7 a8 a9 aA aB: af} {aC: Int} {aD: af} {aE aF aG aH: Int} {aI: Bool} {aJ aK: Int} {aL: af} {aM aN ad z: Int}
end
end Go.V
namespace Go.V
def c1N (c:Int):Int:=c+1
def nhR (rs:af)(c:Int):Bool:= !hasB rs c
def kqN (k:Bool)(c:Int):Int:=if k=true then c+1 else c
section
variable {cs us es rs: af} {c p q m: Int}
end
theorem Bt {b x e b' x' e' r r':af}{c c':Int}{z z':Bool}(h1:b=b')(h2:x=x')(h3:e=e')(h4:c=c')(h5:r=r')(h6:z=z'):[DV.agg [.s 1 b,.s 1 x,.s 2 e,.i c,.s 1 r],DV.k z]=[DV.agg [.s 1 b',.s 1 x',.s 2 e',.i c',.s 1 r'],DV.k z']:=by rw[h1,h2,h3,h4,h5,h6]
end Go.V
namespace Go.V
def kcB (es:af)(p q:Int)(xs:af):Bool:=mapB es p&&(mapB es q&&inR (ag xs 0 0) 0 15)
def kcC (cs es:af)(p q:Int)(xs:af):af:=if kcB es p q xs=true then pF cs (peF es q) (ag xs 0 0) (ag (aw cs (peF es p) 0) (ag xs 0 0) 0)else cs
structure KcP (cs es:af)(p q:Int)(xs:af)(i:Int)(d:af):Prop where
 z:i=0->d=cs
 o:0<i->inR (ag xs 0 0) 0 15=true/\d=pF cs (peF es q) (ag xs 0 0) (ag (aw cs (peF es p) 0) (ag xs 0 0) 0)
section
variable {cs us es xs d: af} {p q i: Int}
end
end Go.V
namespace Go.V
def x1R (xs:af)(n:Int):af:=[[.i (ag xs n 0)]]
def ifN (b:Bool)(x y:Int):Int:=if b=true then x else y
def jmB (k:Bool)(es:af)(kp mv:Int)(xs:af)(ph nx:Int):Bool:=k&&(jbOk kp mv xs ph nx&&(mapB es kp&&(mapB es mv&& !decide (peF es kp=peF es mv))))
def jsC (cs us es:af)(c:Int)(rs:af)(kp mv:Int)(xs:af)(ph nx:Int):af:=
 if ph=1 then(if nx=xs.length then cs else kcC cs es mv kp (x1R xs nx))else if ph=2 then koC cs es c rs mv kp else if ph=3/\0<nx then stC cs us es (kp*16+ag xs (nx-1) 0) 0 else cs
def jsU (us es:af)(c:Int)(rs:af)(kp mv ph:Int):af:=if ph=2 then koU us es c rs mv kp else us
def jsE (es:af)(c:Int)(rs:af)(kp mv ph nx:Int):af:=
 if ph=0 then kpE es c rs mv 1 else if ph=2 then koE es c rs mv kp else if ph=3/\¬ 0<nx then kpE es c rs mv 2 else es
def jsN (c ph nx:Int):Int:=if ph=0\/ph=2\/(ph=3/\¬ 0<nx)then c+1 else c
def jsP (es:af)(c:Int)(rs:af)(kp mv:Int)(xs:af)(ph nx:Int):Int:=
 if ph=0 then(if kpB es c rs mv 1=true then 1 else 5)else if ph=1 then(if nx=xs.length then 2 else 1)else if ph=2 then(if koB es c rs mv kp=true then 4 else 3)else
 if ph=3 then(if¬ 0<nx/\kpB es c rs mv 2=true then 5 else 3)else ph
def jsX (xs:af)(ph nx:Int):Int:=if ph=1/\nx≠xs.length then nx+1 else if ph=3/\0<nx then nx-1 else nx
section
variable {cs us es rs xs: af} {c kp mv ph nx: Int} {k: Bool}
structure JbT (kp mv:Int)(xs:af)(ph nx:Int):Prop where
 k0:0<=kp
 k1:kp<=31
 m0:0<=mv
 m1:mv<=31
 p0:0<=ph
 p1:ph<=5
 n0:0<=nx
 n1:nx<=xs.length
 x:∀ i:Int,0<=i->i<xs.length->0<=ag xs i 0/\ag xs i 0<=15
def afF (ph:Int):Bool:=decide (ph=4)||decide (ph=5)
end
end Go.V
namespace Go.V
def GV (k:Bool)(c:Int)(me:Bool):Bool:=k&&(decide (c<=99000)&&me)
def SG (a0 a1 a2:af)(a3:Int)(a4:af)(aJ aK:Int)(aL:af)(aM aN:Int):Bool:=jmB (ccB a0 a1 a2 a3 a4) a2 aJ aK aL aM aN
def mzN (a0 a1 a2:af)(a3:Int)(a4:af)(aJ aK:Int)(aL:af)(aM aN:Int):Int:=ifN (SG a0 a1 a2 a3 a4 aJ aK aL aM aN) (jsP a2 a3 a4 aJ aK aL aM aN) aM
def myN (a0 a1 a2:af)(a3:Int)(a4:af)(aJ aK:Int)(aL:af)(aM aN:Int):Int:=ifN (SG a0 a1 a2 a3 a4 aJ aK aL aM aN) (jsX aL aM aN) aN
def mcC (g:Bool)(a0 a1 a2:af)(a3:Int)(a4:af)(aJ aK:Int)(aL:af)(aM aN:Int):af:=ifR (g&&SG a0 a1 a2 a3 a4 aJ aK aL aM aN) (jsC a0 a1 a2 a3 a4 aJ aK aL aM aN) a0
def mcU (g:Bool)(a0 a1 a2:af)(a3:Int)(a4:af)(aJ aK:Int)(aL:af)(aM aN:Int):af:=ifR (g&&SG a0 a1 a2 a3 a4 aJ aK aL aM aN) (jsU a1 a2 a3 a4 aJ aK aM) a1
def mcE (g:Bool)(a0 a1 a2:af)(a3:Int)(a4:af)(aJ aK:Int)(aL:af)(aM aN:Int):af:=ifR (g&&SG a0 a1 a2 a3 a4 aJ aK aL aM aN) (jsE a2 a3 a4 aJ aK aM aN) a2
def mcN (g:Bool)(a0 a1 a2:af)(a3:Int)(a4:af)(aJ aK:Int)(aL:af)(aM aN:Int):Int:=ifN (g&&SG a0 a1 a2 a3 a4 aJ aK aL aM aN) (jsN a3 aM aN) a3
def SH (g:Bool)(a0 a1 a2:af)(a3:Int)(a4:af)(aJ aK:Int)(aL:af)(aM aN:Int):Bool:=g&&afF (mzN a0 a1 a2 a3 a4 aJ aK aL aM aN)
def meB (o me:Bool):Bool:= !o&&me
section
variable {a0 a1 a2: af} {a3: Int} {a4 a5 a6 a7 a8 a9 aA aB: af} {aC: Int} {aD: af} {aJ aK: Int} {aL: af} {aM aN: Int} {g: Bool}
end
end Go.V
namespace Go.V
def woN (b i:Int):Int:=if slB b i=true then bO .andNot Za b (JD .shl Za 1 i)else b
theorem OS {a b:Int}:bO .andNot Za a b=(rL a&&& ~~~ rL b).toInt:=Ay _
theorem Od {t:Nat}(ht:t<=15):JD .shl Za 1 (t:Int)=((2^t:Nat):Int):=by
 show YY Za (1*2^(min (t:Int).toNat 64))=_;rw[show min (t:Int).toNat 64=t by omega,Wc];have h:t=0\/t=1\/t=2\/t=3\/t=4\/t=5\/t=6\/t=7\/t=8\/t=9\/t=10\/t=11\/t=12\/t=13\/t=14\/t=15:=by omega
 rcases h with rfl|rfl|rfl|rfl|rfl|rfl|rfl|rfl|rfl|rfl|rfl|rfl|rfl|rfl|rfl|rfl<;>rfl
theorem J0 {b:Int}{i t:Nat}(b0:0<=b)(b1:b<65536)(hi:i<=15)(ht:t<=15):(0<=woN b i/\woN b i<=b)/\hsB (woN b i) t=(hsB b t&&decide (t≠i)):=by
 have hs:slB b i=true:=BQ.2 ⟨b0,by omega,by omega⟩;obtain⟨n,rfl⟩:=Z9 b0;have w:woN (n:Int) i=(rL n&&& ~~~ rL ((2^i:Nat):Int)).toInt:=by unfold woN;rw[VT hs,Od hi,OS]
 have x:(rL (n:Int)).toNat=n:=by unfold rL;rw[Xg,Y2];omega
 have l:(rL (n:Int)&&& ~~~ rL ((2^i:Nat):Int)).toNat<=n:=by rw[BitVec.toNat_and];exact ZN Nat.and_le_left (by rw[x];exact Ze _)
 have e:(rL (n:Int)&&& ~~~ rL ((2^i:Nat):Int)).toInt=((rL (n:Int)&&& ~~~ rL ((2^i:Nat):Int)).toNat:Int):=Wh (by omega);have bd:0<=woN (n:Int) i/\woN (n:Int) i<=n:=by rw[w,e];omega
 refine⟨bd,?_⟩;rw[C9 bd.1 (by omega) ht,C9 b0 b1 ht,w,OY,BitVec.getLsbD_and,BitVec.getLsbD_not];have p:(rL ((2^i:Nat):Int)).getLsbD t=decide (t=i):=by
  unfold rL;rw[Xg,BitVec.getLsbD_ofNat,Nat.testBit_two_pow,VP (show t<64 by omega),Yp];by_cases c:t=i
  ·rw[VP c,VP c.symm]
  ·rw[VQ c,VQ (fun e=>c e.symm)]
 rw[p,VP (show t<64 by omega),Yp];by_cases c:t=i
 ·rw[VP c,VQ (fun h=>h c)];rfl
 ·rw[VQ c,VP c];rfl
theorem Ld {t:Int}:hsB 0 t=false:=by
 cases q:hsB 0 t with
 |false=>rfl
 | true=>
   exfalso;have s:slB 0 t=true:=by
    cases s:slB 0 t with
    |true=>rfl
    |false=>rw[Ib s]at q;cases q
   have r:=BQ.1 s;obtain⟨n,rfl⟩:=Z9 r.2.1;rw[C9 (by omega) (by omega) (by omega)]at q;simp[rL]at q
structure qj (S:af):Prop where
 s:∀ i:Nat,i<S.length->spOk (ag S i 0) (ag S i 1) (ag S i 2)=true
 d:∀ i j:Nat,i<S.length->j<S.length->ag S i 0=ag S j 0->i=j
structure nU (S:af)(a:Int)(i:Nat):Prop where
 l:i<S.length
 p:ag S i 0=a/16
 b:hsB (ag S i 2) ((a-ag S i 0*16)/clsSz (ag S i 1))=true
 o:(a-ag S i 0*16)%clsSz (ag S i 1)=0
theorem JG {sp lg:af}(h:MG sp lg):qj sp:=⟨h.s,h.ss⟩
section
variable {S: af} {a b: Int} {i j: Nat}
theorem Ny (g:qj S)(h:nU S a i):Ct (ag S i 0) (ag S i 1) (ag S i 2) a=true:=by
 have p:=h.p;exact sK.2 ⟨g.s i h.l,by omega,by omega⟩
theorem j6 (g:qj S)(h:nU S a i):gn S a=i/\spI S (a/16)=i/\xv S a i=(a-ag S i 0*16)/clsSz (ag S i 1):=by
 have t:=Ny g h;refine⟨?_,?_,?_⟩
 ·refine dI (fun k k0 k1=>?_) (by omega) (by have:=h.l;omega) (wK.2 t);refine gj ?_;cases c:yD S a k with
  |false=>rfl
  | true=>
    exfalso;have u:=(sK.1 (wK.1 c)).2;have p:=h.p;have e:=g.d k.toNat i (by have:=h.l;omega) h.l (by rw[Zr k0];omega);omega
 ·refine dI (fun k k0 k1=>?_) (by omega) (by have:=h.l;omega) (ya h.p);refine gj ?_;cases c:isSp S (a/16) k with
  |false=>rfl
  | true=>
    exfalso;have c':ag S k 0=a/16:=VV c;have p:=h.p;have e:=g.d k.toNat i (by have:=h.l;omega) h.l (by rw[Zr k0];omega);omega
 ·unfold xv saS;rw[VT t]
end
end Go.V
namespace Go.V
def EX (S:af)(i s:Int):af:=S.set i.toNat [.i (ag S i 0),.i (ag S i 1),.i (woN (ag S i 2) s)]
def jC (S:af)(a:Int):af:=EX S (gn S a) (xv S a (gn S a))
def Cq (me:Bool)(kp mv:Int)(S:af)(a:Int):Bool:=decide (ag (jC S a) (gn S a) 2=0)&& !bsB me kp mv (ag (jC S a) (gn S a) 0)
structure AA where
 C:af
 U:af
 E:af
 F:af
 S:af
def f1 (me:Bool)(kp mv:Int)(s:AA)(a:Int):AA:=
 ⟨ifR (Cq me kp mv s.S a) (dsC s.C s.U s.E (jC s.S a) (gn s.S a)) s.C,ifR (Cq me kp mv s.S a) (dsU s.C s.U s.E (jC s.S a) (gn s.S a)) s.U,ifR (Cq me kp mv s.S a) (dsE s.C s.U s.E (jC s.S a) (gn s.S a)) s.E,
  ifR (Cq me kp mv s.S a) (dsF s.C s.U s.E s.F (jC s.S a) (gn s.S a)) s.F,ifR (Cq me kp mv s.S a) (dsS (jC s.S a) (gn s.S a)) (jC s.S a)⟩
structure MC (s:AA):Prop where
 m:lM s.C s.U s.E
 rc:Rw [.sl [tI]] s.C
 ru:Rw [tB] s.U
 re:Rw [tI,tI] s.E
 rf:Rw [tI,tI] s.F
 rs:Rw [tI,tI,tI] s.S
 lf:s.F.length<=65
 ls:s.S.length<=1073741824
 g:qj s.S
theorem Ht {n:Int}:∀ {l:List Pr},J8 l->(∀ x∈l,1<=x.2/\x.1+x.2<=n)->∀ {m:Int},(∀ x,l.head?=some x->m<=x.1)->l=[]\/m+l.length<=n
 |[],_,_,_,_=>.inl rfl
 |[x],_,b,m,h=>.inr (by have:=b x (by simp);have:=h x rfl;simp only[Zj,Zk];omega)
 | x::y::l,c,b,m,h=>by
   have q:=Ht (l:=y::l) c.2.2 (fun z hz=>b z (by simp only[Zl]at hz ⊢;exact .inr hz)) (m:=m+1) (fun z hz=>by
    simp only[List.head?_cons,Ya]at hz;subst hz;have:=b x (by simp);have:=h x rfl;have:=c.2.1;omega)
   rcases q with q|q
   ·cases q
   ·right;simp only[Zj]at q ⊢;omega
theorem Jl {n:Int}{rs:af}(h:rgOk n rs=true):rs.length<=32:=by
 have T:=wB h;have q:=Ht (n:=n) T.c (fun x hx=>⟨(T.b x hx).2.1,(T.b x hx).2.2⟩) (m:=0) (fun x hx=>(T.b x (List.mem_of_mem_head? hx)).1);have l:(qh rs).length=rs.length:=by unfold qh;rw[List.length_map]
 have n1:=T.n1;rcases q with q|q
 ·rw[q]at l;simp only[Zk]at l;omega
 ·omega
theorem Mb {n a l:Int}{rs:af}(w:Rw [tI,tI] rs)(hl:rs.length<=65):(rpL n rs a l).length<=65:=by
 cases h:rpB n rs a l with
 |false=>rw[Jr h];exact hl
 | true=>
   have g:rgOk n rs=true:=by unfold rpB at h;simp only[Zc]at h;exact h.1
   have q:=Jq (n:=n) (a0:=a) (l0:=l) w (by omega);have:=Jl g;omega
section
variable {S: af} {a b x: Int} {i j: Nat}
theorem Bb (h:i<S.length)(s k:Int)(k0:0<=k):ag (EX S i s) k 0=ag S k 0/\ag (EX S i s) k 1=ag S k 1/\ag (EX S i s) k 2=if k=i then woN (ag S i 2) s else ag S k 2:=by
 unfold EX;refine⟨?_,?_,?_⟩
 ·rw[Ni (by omega) (by omega) k0];split
  ·rename_i e;rw[e];rfl
  ·rfl
 ·rw[Ni (by omega) (by omega) k0];split
  ·rename_i e;rw[e];rfl
  ·rfl
 ·rw[Ni (by omega) (by omega) k0];rfl
theorem sv {s:Int}:(EX S i s).length=S.length:=Zw
theorem RH {p k b b':Int}(h:spOk p k b=true)(h0:0<=b')(h1:b'<=b):spOk p k b'=true:=by
 unfold spOk bmOk at h ⊢;simp only[Zc,be]at h ⊢;exact⟨h.1,h.2.1,h0,by omega⟩
theorem aeq (g:qj S)(h:i<S.length){t:Nat}(ht:t<=15):qj (EX S i t):=by
 have sb:=zZ (g.s i h);refine⟨fun k hk=>?_,fun k k' hk hk' e=>?_⟩
 ·rw[sv]at hk;have q:=Bb h t k (by omega);rw[q.1,q.2.1,q.2.2];split
  ·rename_i e;have e':k=i:=by omega
   subst e';have w:=(J0 sb.1 sb.2 ht (ZB 15)).1;exact RH (g.s k h) w.1 w.2
  ·exact g.s k hk
 ·rw[sv]at hk hk';rw[(Bb h t k (by omega)).1,(Bb h t k' (by omega)).1]at e;exact g.d k k' hk hk' e
theorem wN (g:qj S)(h:nU S a i):∃ t:Nat,t<=15/\xv S a i=t/\hsB (ag S i 2) t=true:=by
 have q:=j6 g h;have b:=h.b;rw[<-q.2.2]at b;have s:slB (ag S i 2) (xv S a i)=true:=by
  cases s:slB (ag S i 2) (xv S a i)with
  |true=>rfl
  |false=>rw[Ib s]at b;cases b
 have r:=BQ.1 s;exact⟨(xv S a i).toNat,by omega,by omega,by rw[Zr r.2.1];exact b⟩
theorem aaz (g:qj S)(h:nU S a i)(k:nU S b j)(ne:a≠b):nU (jC S a) b j:=by
 obtain⟨t,ht,es,hb⟩:=wN g h;have q:=j6 g h;have e1:jC S a=EX S i t:=by unfold jC;rw[q.1,es]
 have f:=Bb h.l t j (by omega);rw[e1];refine⟨by rw[sv];exact k.l,by rw[f.1];exact k.p,?_,by rw[f.1,f.2.1];exact k.o⟩;rw[f.1,f.2.1,f.2.2];split
 ·rename_i e;have e':j=i:=by omega
  subst e';obtain⟨u,hu,eu,hbu⟩:=wN g k;have qk:=j6 g k;have sb:=zZ (g.s j h.l);rw[<-qk.2.2,eu,(J0 sb.1 sb.2 ht hu).2,hbu];have:u≠t:=fun c=>by
   subst c;have o1:=h.o;have o2:=k.o;have w1:=q.2.2;have w2:=qk.2.2;rw[es]at w1;rw[eu]at w2;have d1:=WX (a-ag S j 0*16) (clsSz (ag S j 1));have d2:=WX (b-ag S j 0*16) (clsSz (ag S j 1));rw[<-w1,o1]at d1;rw[<-w2,o2]at d2;omega
  rw[VP this];rfl
 ·exact k.b
theorem fu {k:Int}(h:i<S.length)(k0:0<=k)(n:Nat):ag (delL S i (i+1)) k n=ag S (if k<i then k else k+1) n:=by
 unfold delL ag;simp only[Zm];rw[show((i:Int)).toNat=i by omega,show((i:Int)+1).toNat=i+1 by omega];by_cases c:k<i
 ·rw[VT c,ZO (by rw[Zh];omega),Y4 (by omega)]
 ·rw[VU c,ZJ (by rw[Zh];omega),List.getElem?_drop];rw[show i+1+(k.toNat- (Z7 i S).length)=(k+1).toNat by rw[Zh];omega]
theorem EJ (h:i<S.length):(delL S i (i+1)).length+1=S.length:=by
 unfold delL;rw[Zf,Zh,Zn];omega
theorem TO (g:qj S)(h:i<S.length):qj (delL S i (i+1)):=by
 have l:=EJ h;have z:∀ k:Nat,k<(delL S i (i+1)).length->∃ k':Nat,k'<S.length/\(if(k:Int)<i then(k:Int)else(k:Int)+1)=k'/\(k'=if k<i then k else k+1):=fun k hk=>by
  by_cases c:k<i;exact⟨k,by omega,by rw[VT (by omega)],by rw[VT c]⟩;exact⟨k+1,by omega,by rw[VU (by omega)];omega,by rw[VU c]⟩
 refine⟨fun k hk=>?_,fun k k' hk hk' e=>?_⟩
 ·obtain⟨u,u1,u2,_⟩:=z k hk;rw[fu h (by omega),fu h (by omega),fu h (by omega),u2];exact g.s u u1
 ·obtain⟨u,u1,u2,u3⟩:=z k hk;obtain⟨v,v1,v2,v3⟩:=z k' hk';rw[fu h (by omega),fu h (by omega),u2,v2]at e;have:=g.d u v u1 v1 e;subst this;rw[u3]at v3;split at v3<;>split at v3<;>omega
theorem Pp (h:i<S.length)(z:ag S i 2=0)(k:nU S b j):∃ j',nU (delL S i (i+1)) b j':=by
 have l:=EJ h;have ne:j≠i:=fun e=>by subst e;have:=k.b;rw[z,Ld]at this;cases this
 have kl:=k.l;by_cases c:j<i
 ·refine⟨j,by omega,?_,?_,?_⟩
  ·rw[fu h (by omega),VT (by omega)];exact k.p
  ·rw[fu h (by omega),fu h (by omega),fu h (by omega),VT (by omega)];exact k.b
  ·rw[fu h (by omega),fu h (by omega),VT (by omega)];exact k.o
 ·refine⟨j-1,by omega,?_,?_,?_⟩
  ·rw[fu h (by omega),VU (by omega),show((j-1:Nat):Int)+1=j by omega];exact k.p
  ·rw[fu h (by omega),fu h (by omega),fu h (by omega),VU (by omega),show((j-1:Nat):Int)+1=j by omega];exact k.b
  ·rw[fu h (by omega),fu h (by omega),VU (by omega),show((j-1:Nat):Int)+1=j by omega];exact k.o
end
end Go.V
namespace Go.V
theorem Nh {S:af}{i t:Nat}(w:Rw [tI,tI,tI] S)(g:qj S)(h:i<S.length)(ht:t<=15):Rw [tI,tI,tI] (EX S i t):=by
 have ok:=li (g.s i h);have sb:=zZ (g.s i h);have wo:=(J0 sb.1 sb.2 ht (ZB 15)).1;have k:=be.1 ok.2.2.1;exact w.set (show bR [tI,tI,tI] [.i (ag S i 0),.i (ag S i 1),.i (woN (ag S i 2) t)]from⟨⟨rfl,show-9223372036854775808<=ag S i 0/\ag S i 0<=9223372036854775807 from by omega⟩,⟨rfl,show-9223372036854775808<=ag S i 1/\ag S i 1<=9223372036854775807 from by omega⟩,⟨rfl,show-9223372036854775808<=woN (ag S i 2) t/\woN (ag S i 2) t<=9223372036854775807 from by omega⟩,trivial⟩) _
section
variable {s: AA} {a b: Int} {i j: Nat} {me: Bool} {kp mv: Int}
theorem PF (h:MC s)(v:nU s.S a i):MC (f1 me kp mv s a):=by
 obtain⟨t,ht,es,hb⟩:=wN h.g v;have q:=j6 h.g v;have e1:jC s.S a=EX s.S i t:=by unfold jC;rw[q.1,es]
 have g1:qj (jC s.S a):=by rw[e1];exact aeq h.g v.l ht
 have w1:Rw [tI,tI,tI] (jC s.S a):=by rw[e1];exact Nh h.rs h.g v.l ht
 have l1:(jC s.S a).length=s.S.length:=by rw[e1];exact sv
 have vl:=v.l;unfold f1;cases c:Cq me kp mv s.S a with
 |false=>exact⟨h.m,h.rc,h.ru,h.re,h.rf,w1,h.lf,by show(jC s.S a).length<=_;rw[l1];exact h.ls,g1⟩
 | true=>
   rw[q.1];have k:=HM (a0:=s.C) (a1:=s.U) (a2:=s.E) (a6:=jC s.S a) (i:=i);have r:=Ns (p:=ag (jC s.S a) i 0) h.rc h.ru h.re;have d:=uE (i:=i) (j:=(i:Int)+1) w1 (by omega);refine⟨?_,?_,?_,?_,?_,d.1,?_,?_,TO g1 (by rw[l1];exact vl)⟩
   ·show lM (dsC _ _ _ _ _) (dsU _ _ _ _ _) (dsE _ _ _ _ _);rw[k.1,k.2.1,k.2.2];exact abu h.m
   ·show Rw _ (dsC _ _ _ _ _);rw[k.1];exact r.1
   ·show Rw _ (dsU _ _ _ _ _);rw[k.2.1];exact r.2.1
   ·show Rw _ (dsE _ _ _ _ _);rw[k.2.2];exact r.2.2
   ·exact(Jq (n:=zlI (dsE s.C s.U s.E (jC s.S a) i)) (a0:=ag (jC s.S a) i 0) (l0:=1) h.rf (by have:=h.lf;omega)).1
   ·exact Mb (n:=zlI (dsE s.C s.U s.E (jC s.S a) i)) (a:=ag (jC s.S a) i 0) (l:=1) h.rf h.lf
   ·have:=h.ls;show(delL _ _ _).length<=_;omega
theorem aaf (h:MC s)(v:nU s.S a i)(k:nU s.S b j)(ne:a≠b):∃ j',nU (f1 me kp mv s a).S b j':=by
 have q:=j6 h.g v;have w:=aaz h.g v k ne;unfold f1;cases c:Cq me kp mv s.S a with
 |false=>exact⟨j,w⟩
 | true=>
   obtain⟨t,ht,es,hb⟩:=wN h.g v;have e1:jC s.S a=EX s.S i t:=by unfold jC;rw[q.1,es]
   have l1:(jC s.S a).length=s.S.length:=by rw[e1];exact sv
   unfold Cq at c;simp only[Zc,VR]at c;have z:=c.1;rw[q.1]at z ⊢;exact Pp (by rw[l1];exact v.l) z w
end
def fN (me:Bool)(kp mv:Int)(l:af)(s:AA):Nat->AA
 |0=>s
 |n+1=>f1 me kp mv (fN me kp mv l s n) (ag l n 0)
structure FqI (l:af)(i:Nat)(s:AA):Prop where
 fr:MC s
 q:∀ j:Nat,i<=j->j<l.length->∃ k,nU s.S (ag l j 0) k
def AL (l:af):Prop:=∀ i j:Nat,i<j->j<l.length->ag l i 0≠ag l j 0
theorem yf {p:Int->Bool}{n:Nat}(h:¬ 0<=cQ p n){j:Nat}(hj:j<n):p j=false:=by
 unfold cQ at h;split at h
 ·exact absurd (by omega) h
 ·rename_i e;have:=List.find?_eq_none.1 e j (List.mem_range.2 hj)
  simpa using this
section
variable {a0 a1 a2: af} {a3: Int} {a4 a5 a6 a7 a8 a9 aA aB: af} {aC: Int} {aD: af} {aE aF aG aH: Int} {aI: Bool} {aJ aK: Int} {aL: af} {aM aN: Int}
theorem acA {rm:Int}{qs:af}(h:quarOk rm qs=true):AL qs:=fun i j ij hj e=>by
 unfold quarOk at h;simp only[Zc]at h;have q:=dh.1 h.1 j (by omega) (by omega);unfold Rk stlOk at q;simp only[Zc,Yv]at q;have nq:=q.2.2.2.1;unfold qtB qtI at nq;have l:(qs.take (j:Int).toNat).length=j:=by rw[Zh];omega
 have z:=yf (VW nq) (j:=i) (by rw[l];exact ij);unfold Dl at z;have t:ag (qs.take (j:Int).toNat) i 0=ag qs i 0:=by
  unfold ag;rw[Zm (l:=Z7 _ _),Zm (l:=qs),Y4 (by omega)]
 rw[t,e]at z;unfold eqB at z;exact absurd rfl (VW z)
theorem C8 {S L:af}{a k:Int}(h:hlB S L a k=true):∃ i,nU S a i:=by
 unfold hlB at h;simp only[Zc,VR]at h;obtain⟨e,q,l,t⟩:=HK h.1;have o:=h.2.1;unfold dnO at o;rw[VT q]at o;have u:=(sK.1 t).2;have hk:=h.1;unfold dnK at hk;rw[VT q]at hk;have hb:hsB (ag S (gn S a) 2) (xv S a (gn S a))=true:=by
  cases c:hsB (ag S (gn S a) 2) (xv S a (gn S a))with
  |true=>rfl
  |false=>rw[c]at hk;simp at hk
 unfold xv saS at hb;rw[VT t]at hb;unfold Mi saO at o;rw[VT t]at o;obtain⟨n,en⟩:=Z9 q;rw[en]at hb o u l;exact⟨n,by omega,by omega,hb,o⟩
theorem Nm (hc:lq a0 a1 a2 a4 a5 a6 a7 a8 a9 aA aB aD aL)(h:hpI a0 a1 a2 a3 a4 a5 a6 a7 a8 a9 aA aB aC aD aE aF aG aH aI aJ aK aL aM aN=true):MC ⟨a0,a1,a2,a5,a6⟩:=by
 have T:=gB h;have l6:=aO (es:=a6);have c6:=hc.c6;exact⟨(jt T.k).1,hc.r0,hc.r1,hc.r2,hc.r5,hc.r6,by have:=Jl T.r;show a5.length<=65;omega,by show a6.length<=_;omega,JG (LC T.l)⟩
theorem aa0 (h:hpI a0 a1 a2 a3 a4 a5 a6 a7 a8 a9 aA aB aC aD aE aF aG aH aI aJ aK aL aM aN=true)(j:Nat)(hj:j<aD.length):∃ k,nU a6 (ag aD j 0) k:=by
 have T:=(gB h).h;unfold hoI at T;simp only[Zc]at T;have q:=dh.1 T.2.1 j (by omega) (by omega);unfold D1 qA at q;simp only[Zc]at q;exact C8 q.1
theorem P0 {l:af}{n j k:Nat}(h:j<n):ag (l.take n) j k=ag l j k:=by
 unfold ag;rw[Zm (l:=Z7 _ _),Zm (l:=l),Y4 (by omega)]
theorem KQ {l:af}{n:Nat}(h:AL l):AL (l.take n):=fun i j ij hj=>by
 rw[Zh]at hj;rw[P0 (by omega),P0 (by omega)];exact h i j ij (by omega)
theorem Na {s:AA}{b13:af}(hc:lq a0 a1 a2 a4 a5 a6 a7 a8 a9 aA aB aD aL)(h:MC s)(w:Rw [tI,tI,tI] b13)(l:b13.length<=1073741824):lq s.C s.U s.E a4 s.F s.S a7 a8 a9 aA aB b13 aL:=by
 have n:=uI h.m h.rc h.ru h.re;have f:ap s.F=s.F.length:=h.rf.cnt rfl;have g:ap s.S=s.S.length:=h.rs.cnt rfl;have b:ap b13=b13.length:=w.cnt rfl;have lf:=h.lf;have ls:=h.ls;exact⟨h.rc,h.ru,h.re,hc.r4,h.rf,h.rs,hc.r7,hc.r8,hc.r9,hc.r10,hc.r11,w,hc.r21,by omega,by omega,by omega,hc.c4,by omega,by omega,hc.c7,hc.c8,hc.c9,hc.c10,hc.c11,by omega,hc.c21⟩
end
end Go.V
namespace Go.V
def snB (p k b s:Int):Bool:=spOk p k b&&hsB b s
def snN (p k b s:Int):Int:=if snB p k b s=true then woN b s else b
def fzC (me:Bool)(kp mv:Int)(c u e f s:af)(a:Int):af:=(f1 me kp mv ⟨c,u,e,f,s⟩ a).C
def fzU (me:Bool)(kp mv:Int)(c u e f s:af)(a:Int):af:=(f1 me kp mv ⟨c,u,e,f,s⟩ a).U
def fzE (me:Bool)(kp mv:Int)(c u e f s:af)(a:Int):af:=(f1 me kp mv ⟨c,u,e,f,s⟩ a).E
def fzF (me:Bool)(kp mv:Int)(c u e f s:af)(a:Int):af:=(f1 me kp mv ⟨c,u,e,f,s⟩ a).F
def fzS (me:Bool)(kp mv:Int)(c u e f s:af)(a:Int):af:=(f1 me kp mv ⟨c,u,e,f,s⟩ a).S
def tkC (me:Bool)(kp mv:Int)(c u e f s l:af):af:=(fN me kp mv l ⟨c,u,e,f,s⟩ l.length).C
def tkU (me:Bool)(kp mv:Int)(c u e f s l:af):af:=(fN me kp mv l ⟨c,u,e,f,s⟩ l.length).U
def tkE (me:Bool)(kp mv:Int)(c u e f s l:af):af:=(fN me kp mv l ⟨c,u,e,f,s⟩ l.length).E
def tkF (me:Bool)(kp mv:Int)(c u e f s l:af):af:=(fN me kp mv l ⟨c,u,e,f,s⟩ l.length).F
def tkS (me:Bool)(kp mv:Int)(c u e f s l:af):af:=(fN me kp mv l ⟨c,u,e,f,s⟩ l.length).S
def lenI (l:af):Int:=l.length
def RL (k:Bool)(c n ck:Int):Bool:=k&&(decide (c≠100000)&&(inR n 0 1000&&decide (ck+n<=1000000)))
def t0B (k:Bool)(c t:Int)(m:af):Bool:=k&&(decide (c≠100000)&&inR t 0 (m.length-1))
structure TkP (me:Bool)(kp mv:Int)(l:af)(s:AA)(i:Int)(c u e f t:af):Prop where
 c:c=(fN me kp mv l s i.toNat).C
 u:u=(fN me kp mv l s i.toNat).U
 e:e=(fN me kp mv l s i.toNat).E
 f:f=(fN me kp mv l s i.toNat).F
 t:t=(fN me kp mv l s i.toNat).S
section
variable {me: Bool} {kp mv: Int} {l c u e f t c0 u0 e0 f0 t0: af} {s: AA} {i a: Int}
theorem acS {p k b x:Int}(h:spOk p k b=true)(g:hsB b x=true):snB p k b x=true/\snN p k b x=woN b x:=by
 have q:snB p k b x=true:=by unfold snB;rw[h,g];rfl
 exact⟨q,by unfold snN;rw[VT q]⟩
theorem af0 {p k b x:Int}(h:spOk p k b=false):snB p k b x=false/\snN p k b x=b:=by
 have q:snB p k b x=false:=by unfold snB;rw[h];rfl
 exact⟨q,by unfold snN;rw[q];rfl⟩
theorem af1 {p k b x:Int}(h:hsB b x=false):snB p k b x=false/\snN p k b x=b:=by
 have q:snB p k b x=false:=by unfold snB;rw[h];simp
 exact⟨q,by unfold snN;rw[q];rfl⟩
end
theorem zU {l:af}{i:Int}(i0:0<=i)(i1:i<=l.length):jf l i.toNat (vM (l.length:Int) i)=l.drop i.toNat:=by
 unfold jf vM;exact Yl (by rw[Zn];omega)
theorem rr {l:af}{i:Int}:jf l (Ye 0) (vM i 0)=l.take i.toNat:=by
 unfold jf vM;rw[show Ye 0=0 from rfl,List.drop_zero,Nat.sub_zero]
theorem N6 {fs:List Ty}{l:af}{a b:Nat}(h:Rw fs l):Rw fs (jf l a b)/\(jf l a b).length<=l.length:=by
 have q:(jf l a b).length<=l.length:=by unfold jf;rw[Zh,Zn];omega
 exact⟨⟨ZN q h.1,fun e he=>h.2 e (Yw (Xh he))⟩,q⟩
section
variable {rm now age: Int} {qs: af}
end
end Go.V
namespace Go.V
section
variable {S L: af} {a: Int} {i: Nat}
theorem Dx (g:qj S)(h:nU S a i):dnK S L a=1/\dnI S L a=i/\dnS S a=xv S a i:=by
 have q:=j6 g h;have n:(0:Int)<=gn S a:=by rw[q.1];omega
 have b:=h.b;rw[<-q.2.2]at b;refine⟨?_,?_,?_⟩
 ·unfold dnK;rw[VT n,q.1,b];rfl
 ·unfold dnI;rw[VT n,q.1]
 ·unfold dnS;rw[VT n,q.1]
theorem zy (g:qj S)(h:nU S a i):0<=a/\a<=511/\0<=ag S i 0/\ag S i 0<=31:=by
 have t:=(sK.1 (Ny g h)).2;have p:=li (g.s i h.l);omega
theorem aag (w:Rw [tI,tI,tI] S)(g:qj S)(h:nU S a i):
 jq (.s 3 S) [((i:Int).toNat,0)] [.i (ag S i 0),.i (ag S i 1),.i (snN (ag S i 0) (ag S i 1) (ag S i 2) (xv S a i))]=jC S a:=by
 obtain⟨t,ht,es,hb⟩:=wN g h;have q:=j6 g h;have n:=acS (p:=ag S i 0) (k:=ag S i 1) (g.s i h.l) hb;have hl:=h.l;rw[es,n.2];unfold jC;rw[q.1,es];unfold EX;exact eG (by rw[w.eta (by omega) (by omega)];rfl)
theorem EV (g:qj S)(h:nU S a i):ag (jC S a) i 0=ag S i 0/\(jC S a).length=S.length:=by
 obtain⟨t,ht,es,hb⟩:=wN g h;have q:=j6 g h;have e1:jC S a=EX S i t:=by unfold jC;rw[q.1,es]
 rw[e1];exact⟨(Bb h.l t i (by omega)).1,sv⟩
theorem M3 (w:Rw [tI,tI,tI] S)(g:qj S)(h:nU S a i):Rw [tI,tI,tI] (jC S a):=by
 obtain⟨t,ht,es,hb⟩:=wN g h;have q:=j6 g h;have e1:jC S a=EX S i t:=by unfold jC;rw[q.1,es]
 rw[e1];exact Nh w g h.l ht
end
section
variable {me: Bool} {kp mv: Int} {c u e f t: af} {a: Int} {i: Nat}
theorem aae (g:qj t)(h:nU t a i)(z:ag (jC t a) i 2=0)(n:bsB me kp mv (ag (jC t a) i 0)=false):Cq me kp mv t a=true:=by
 unfold Cq;rw[(j6 g h).1,VP z,n];rfl
theorem aac (g:qj t)(h:nU t a i)(z:ag (jC t a) i 2≠0):Cq me kp mv t a=false:=by
 unfold Cq;rw[(j6 g h).1,VQ z];rfl
theorem aad (g:qj t)(h:nU t a i)(n:bsB me kp mv (ag (jC t a) i 0)=true):Cq me kp mv t a=false:=by
 unfold Cq;rw[(j6 g h).1,n];simp
theorem aer (g:qj t)(h:nU t a i)(b:Cq me kp mv t a=true):fzC me kp mv c u e f t a=dsC c u e (jC t a) i/\fzU me kp mv c u e f t a=dsU c u e (jC t a) i/\fzE me kp mv c u e f t a=dsE c u e (jC t a) i/\fzF me kp mv c u e f t a=dsF c u e f (jC t a) i/\fzS me kp mv c u e f t a=dsS (jC t a) i:=by
 unfold fzC fzU fzE fzF fzS f1;rw[(j6 g h).1];simp only[b];exact⟨rfl,rfl,rfl,rfl,rfl⟩
theorem aaC (b:Cq me kp mv t a=false):fzC me kp mv c u e f t a=c/\fzU me kp mv c u e f t a=u/\fzE me kp mv c u e f t a=e/\fzF me kp mv c u e f t a=f/\fzS me kp mv c u e f t a=jC t a:=by
 unfold fzC fzU fzE fzF fzS f1;simp only[b];exact⟨rfl,rfl,rfl,rfl,rfl⟩
end
section
variable {a0 a1 a2 a4 a5 a6 a7 a8 a9 aA aB aD aL: af} {a: Int} {i: Nat}
theorem aaG (hc:lq a0 a1 a2 a4 a5 a6 a7 a8 a9 aA aB aD aL)(g:qj a6)(h:nU a6 a i):lq a0 a1 a2 a4 a5 (jC a6 a) a7 a8 a9 aA aB aD aL:=by
 have w:=M3 hc.r6 g h;have c:ap (jC a6 a)=(jC a6 a).length:=w.cnt rfl;have c6:ap a6=a6.length:=hc.r6.cnt rfl;have l:=(EV g h).2;have k:=hc.c6;exact⟨hc.r0,hc.r1,hc.r2,hc.r4,hc.r5,w,hc.r7,hc.r8,hc.r9,hc.r10,hc.r11,hc.r13,hc.r21,hc.c0,hc.c1,hc.c2,hc.c4,hc.c5,by omega,hc.c7,hc.c8,hc.c9,hc.c10,hc.c11,hc.c13,hc.c21⟩
end
end Go.V
namespace Go.V
def EF (ck n:Int):Int:=ck+n
section
variable {k: Bool} {c n ck t: Int} {m: af}
theorem acW (h:t0B k c t m=true):k=true/\c≠100000/\inR t 0 (m.length-1)=true:=by
 unfold t0B at h;simp only[Zc,VR]at h;exact h
end
section
variable {a0 a1 a2: af} {a3: Int} {a4 a5 a6 a7 a8 a9 aA aB: af} {aC: Int} {aD: af} {aE aF aG aH: Int} {aI: Bool} {aJ aK: Int} {aL: af} {aM aN: Int} {n i: Int} {c u e f t: af}
structure TiT (aC:Int)(aD:af)(aF n:Int)(s:AA):Prop where
 b:qeB aC aD (EF aF n) 100=true
 d:AL (L1 aC aD (EF aF n) 100)
 q:FqI (L1 aC aD (EF aF n) 100) 0 s
 w:Rw [tI,tI,tI] (qeL aC aD (EF aF n) 100)
 l:(qeL aC aD (EF aF n) 100).length<=aD.length
 m:(L1 aC aD (EF aF n) 100).length<=aD.length
 r:Rw [tI,tI,tI] (L1 aC aD (EF aF n) 100)
end
end Go.V
namespace Go.V
def Q1 (s:Int):Int:=(1103515245*s+12345)%1073741824
def nxS (s:Int):Int:=if inR s 0 1073741823=true then Q1 s else 0
def HE (s n:Int):Bool:=inR s 0 1073741823&&inR n 1 1000
def cuI (s n:Int):Int:=if HE s n=true then Q1 s/1024%n else 0
def cuS (s n:Int):Int:=if HE s n=true then Q1 s else s
theorem IW {s:Int}:0<=Q1 s/\Q1 s<=1073741823:=by unfold Q1;omega
theorem afA {s:Int}(h:inR s 0 1073741823=true):nxS s=bO .rem Za (bO .add Za (bO .mul Za 1103515245 s) 12345) 1073741824:=by
 have q:=be.1 h;unfold nxS;rw[VT h,wh (by omega),cG (by omega),BK (by omega)];rfl
theorem afz {s:Int}(h:inR s 0 1073741823=false):nxS s=0:=by unfold nxS;rw[h];rfl
theorem TN {s n:Int}(h1:inR s 0 1073741823=true)(h2:inR n 1 1000=true):cuI s n=bO .rem Za (bO .quo Za (nxS s) 1024) n/\cuS s n=nxS s:=by
 have q:=be.1 h2;have e:nxS s=Q1 s:=by unfold nxS;rw[VT h1]
 have r:=IW (s:=s);have b:HE s n=true:=by unfold HE;rw[h1,h2];rfl
 unfold cuI cuS;rw[VT b,VT b,e,BH (by omega) (by omega) (by omega),BK (by omega)];exact⟨rfl,rfl⟩
theorem KO {s n:Int}(h:HE s n=false):cuI s n=0/\cuS s n=s:=by unfold cuI cuS;rw[h];exact⟨rfl,rfl⟩
theorem TJ {s n:Int}(h:inR s 0 1073741823=false):HE s n=false:=by unfold HE;rw[h];rfl
theorem TK {s n:Int}(h:inR n 1 1000=false):HE s n=false:=by unfold HE;rw[h,Yh]
theorem TM {s n:Int}(h1:inR s 0 1073741823=true)(n1:1<=n)(n2:n<=1000):0<=cuI s n/\cuI s n<n/\inR (cuS s n) 0 1073741823=true:=by
 have b:HE s n=true:=by unfold HE;rw[h1,be.2 ⟨n1,n2⟩];rfl
 have r:=IW (s:=s);unfold cuI cuS;rw[VT b,VT b];exact⟨Int.emod_nonneg _ (by omega),Int.emod_lt_of_pos _ (by omega),be.2 r⟩
def shB (s n:Int):Bool:=inR s 0 1073741823&&inR n 0 64
def ioN:Nat->af
 |0=>[]
 |n+1=>ioN n++[[.i (n:Int)]]
def swE (es:af)(i j:Int):af:=(es.set i.toNat [.i (ag es j 0)]).set j.toNat [.i (ag es i 0)]
def shL:Nat->af->Int->af
 |0,es,_=>es
 |k+1,es,s=>shL k (swE es ((k:Int)+1) (cuI s ((k:Int)+2))) (cuS s ((k:Int)+2))
def shS:Nat->Int->Int
 |0,s=>s
 |k+1,s=>shS k (cuS s ((k:Int)+2))
def afX (s n:Int):af:=if shB s n=true then shL (n-1).toNat (ioN n.toNat) s else[]
def afY (s n:Int):Int:=if shB s n=true then shS (n-1).toNat s else s
structure IoP (i:Int)(o:af):Prop where
 e:o=ioN i.toNat
structure ShP (n s0 i:Int)(o:af)(s:Int):Prop where
 r:Rw [tI] o
 l:(o.length:Int)=n
 k:inR s 0 1073741823=true
 e:shL i.toNat o s=shL (n-1).toNat (ioN n.toNat) s0
 f:shS i.toNat s=shS (n-1).toNat s0
end Go.V
namespace Go.V
def ppB (p k b q l c:Int):Bool:=decide ((D8 p k b).length<(D8 q l c).length)
def ppK (p k b q l c:Int):Int:=if mshB p k b q l c=true then(if ppB p k b q l c=true then q else p)else 0
def ppM (p k b q l c:Int):Int:=if mshB p k b q l c=true then(if ppB p k b q l c=true then p else q)else 0
def ppC (p k b q l c:Int):af:=if mshB p k b q l c=true then(if ppB p k b q l c=true then D8 p k b else D8 q l c)else[]
def tnH (es:af)(x i:Int):Bool:=decide (ag es i 0=x)||decide (ag es i 1=x)
def tnI (es:af)(x:Int):Int:=cQ (tnH es x) es.length
def tnB (es:af)(x:Int):Bool:=decide (0<=tnI es x)
end Go.V
namespace Go.V
theorem zb {es:af}:jf es (Ye 1) (vM (es.length:Int) 1)=es.drop 1:=by
 unfold jf vM;rw[show Ye 1=1 from rfl,show((es.length:Int).toNat-1)=es.length-1 by rw[ZG]];exact Yl (by rw[Zn];exact Ze _)
theorem ad7 {b:af}{f:Int}(h:Rw [.sl [tI,tI]] b)(h0:0<=f)(h1:f<b.length):jq (.s 1 b) [(f.toNat,0)] [.s 2 (jf (kh (.s 1 b) [(f.toNat,0)]) (Ye 1) (vM ((kh (.s 1 b) [(f.toNat,0)]).length:Int) 1))]=b.set f.toNat [.s 2 ((aw b f 0).drop 1)]:=by
 rw[eE,zb];exact Ol h h0 h1
theorem TW {b:af}{f:Int}(h:Rw [.sl [tI,tI]] b)(h0:0<=f)(h1:f<b.length):jq (.s 1 b) [(f.toNat,0)] [.s 2 ([]++jf (aw b f 0) (Ye 1) (vM ((aw b f 0).length:Int) 1))]=b.set f.toNat [.s 2 ((aw b f 0).drop 1)]:=by
 rw[zb,Z0];exact Ol h h0 h1
theorem Pu {x:af}{a:Int}(h:Rw [.sl [tI]] x)(h0:0<=a)(h1:a<x.length):jq (.s 1 x) [(a.toNat,0)] [.g]=x.set a.toNat [.g]:=eG (by rw[h.eta h0 h1];rfl)
theorem TX {x r:af}{a:Int}(h:Rw [.sl [tI]] x)(h0:0<=a)(h1:a<x.length):jq (.s 1 (jq (.s 1 x) [(a.toNat,0)] [.g])) [(a.toNat,0)] [.s 1 r]=x.set a.toNat [.s 1 r]:=by
 rw[Pu h h0 h1,eG (by rw[Zm,Xi (by omega)];rfl),Wl]
theorem HG {x:af}{a:Int}(h:Rw [.sl [tI]] x)(h0:0<=a)(h1:a<x.length):(jq (.s 1 x) [(a.toNat,0)] [.g]).length=x.length:=by rw[Pu h h0 h1,Zw]
theorem HF {x:af}{a:Int}(h:Rw [.sl [tI]] x)(h0:0<=a)(h1:a<x.length):∃ rec o,bQ (.s 1 (jq (.s 1 x) [(a.toNat,0)] [.g])) [(a.toNat,0)]=some (rec,o)/\o+1<=rec.length:=by
 rw[Pu h h0 h1];exact eS (by rw[Zw];omega) (by rw[Zm,Xi (by omega)];exact Ze _)
theorem HI {l:L}{p:List (Nat×Nat)}{k:Nat}{es:af}(h:fC l p=some (k,es)):fC l p=some (k,kh l p):=by unfold kh;rw[h]
theorem ad6 {b x:af}{f:Int}(T:Sc b x f)(h:Rw [.sl [tI,tI]] b):(0:Int)<=1/\(1:Int)<=(kh (.s 1 b) [(f.toNat,0)]).length/\((kh (.s 1 b) [(f.toNat,0)]).length:Int)<=(kh (.s 1 b) [(f.toNat,0)]).length/\∃ es,fC (.s 1 b) [(f.toNat,0)]=some (2,es):=by
 have n:=T.n;rw[eE];exact⟨by omega,by omega,Yg _,sx h T.f0 T.f1⟩
theorem TU {b x:af}{f:Int}(T:Sc b x f)(h:Rw [.sl [tI,tI]] b):fC (.s 1 b) [(f.toNat,0)]=some (2,kh (.s 1 b) [(f.toNat,0)])/\bE (kh (.s 1 b) [(f.toNat,0)]):=by
 obtain⟨es,e⟩:=sx h T.f0 T.f1;refine⟨HI e,?_⟩;rw[eE];exact(kV h T.f0 T.f1).scal rfl
theorem TV {x:af}{a:Int}{r:af}(h:Rw [.sl [tI]] x)(h0:0<=a)(h1:a<x.length)(hc:ap x<=1073741824)(hr:r.length=1):fC (.s 1 x) [(a.toNat,0)]=some (1,kh (.s 1 x) [(a.toNat,0)])/\bE (kh (.s 1 x) [(a.toNat,0)])/\((kh (.s 1 x) [(a.toNat,0)]).length+r.length)*8<=70368744177664/\(kh (.s 1 x) [(a.toNat,0)]).length+r.length<=70368744177664:=by
 obtain⟨es,e⟩:=vT h h0 h1;have g:=eX (es:=x) (i:=a) (j:=0);have l:(aw x a 0).length<=ap (aw x a 0):=by unfold ap;omega
 refine⟨HI e,?_,?_⟩
 ·rw[eE];exact(Rw.sub (fs:=[.sl [tI]]) (j:=0) (i:=a) h (by omega) rfl).scal rfl
 ·rw[eE];constructor<;>omega
theorem TQ {b x:af}{f:Int}(T:Sc b x f)(h:Rw [.sl [tI,tI]] b):bE (jf (aw b f 0) (Ye 1) (vM ((aw b f 0).length:Int) 1)):=by
 rw[zb];exact(Rw.drop (kV h T.f0 T.f1) 1).scal rfl
theorem TR {b x:af}{f:Int}(T:Sc b x f)(hc:ap b<=1073741824):(0+(jf (aw b f 0) (Ye 1) (vM ((aw b f 0).length:Int) 1)).length)*16<=70368744177664/\0+(jf (aw b f 0) (Ye 1) (vM ((aw b f 0).length:Int) 1)).length<=70368744177664:=by
 have g:=eX (es:=b) (i:=f) (j:=0);have l:(aw b f 0).length<=ap (aw b f 0):=by unfold ap;omega
 rw[zb,Zn];constructor<;>omega
theorem TS {b x:af}{f:Int}(T:Sc b x f)(hb:Rw [.sl [tI,tI]] b)(hx:Rw [.sl [tI]] x)(cb:ap b<=1073741824)(cx:ap x<=1073741824):Rw [.sl [tI,tI]] (b.set f.toNat [.s 2 ((aw b f 0).drop 1)])/\Rw [.sl [tI]] (x.set (xI b f).toNat [.s 1 (aw x (xI b f) 0++[[.i (ag (aw b f 0) 0 1)]])])/\ap (b.set f.toNat [.s 2 ((aw b f 0).drop 1)])<=1099511627776/\ap (x.set (xI b f).toNat [.s 1 (aw x (xI b f) 0++[[.i (ag (aw b f 0) 0 1)]])])<=1099511627776:=by
 have T0:=T.f0;have T1:=T.f1;have T2:=T.t0;have T3:=T.t1;have T4:=T.l;have T5:=T.n;have gb:=eX (es:=b) (i:=f) (j:=0);have gx:=eX (es:=x) (i:=xI b f) (j:=0);have rb:=Rw.sub (fs:=[.sl [tI,tI]]) (j:=0) (i:=f) hb (by omega) rfl;have rx:=Rw.sub (fs:=[.sl [tI]]) (j:=0) (i:=xI b f) hx (by omega) rfl;have lx:(aw x (xI b f) 0).length<=ap (aw x (xI b f) 0):=by unfold ap;omega
 have c:=yl (i:=0) (j:=1) rb rfl (by omega);have d:=HA (l:=aw b f 0) (n:=1);have r2:Rw [tI] (aw x (xI b f) 0++[[.i (ag (aw b f 0) 0 1)]]):=Rw.append rx (Rw.one ⟨⟨rfl,c⟩,trivial⟩) (by unfold maxLen;simp only[Zj,Zk];omega);refine⟨Rw.set hb (show bR [.sl [tI,tI]] [.s 2 ((aw b f 0).drop 1)]from⟨⟨rfl,Rw.drop rb 1⟩,trivial⟩) _,Rw.set hx (show bR [.sl [tI]] [.s 1 (aw x (xI b f) 0++[[.i (ag (aw b f 0) 0 1)]])]from⟨⟨rfl,r2⟩,trivial⟩) _,?_,?_⟩
 ·have s:=mA (es:=b) (n:=f.toNat) (e:=[.s 2 ((aw b f 0).drop 1)]);simp only[fj,pQ]at s;unfold ap at d gb cb s ⊢;omega
 ·have s:=mA (es:=x) (n:=(xI b f).toNat) (e:=[.s 1 (aw x (xI b f) 0++[[.i (ag (aw b f 0) 0 1)]])]);simp only[fj,pQ]at s;have a:=qI (a:=aw x (xI b f) 0) (b:=[[.i (ag (aw b f 0) 0 1)]]);have o:ap [[L.i (ag (aw b f 0) 0 1)]]<=4:=by simp[ap,cK,fj,pQ]
  unfold ap at a o gx cx s ⊢;omega
end Go.V
namespace Go.V
def MF (n:Int)(es:af):Prop:=∀ j:Nat,j<es.length->0<=ag es (j:Int) 0/\ag es (j:Int) 0<n
theorem aaF {es:af}{i j:Nat}{x:Int}(hj:j<es.length):ag (es.set i [.i x]) (j:Int) 0=if i=j then x else ag es (j:Int) 0:=by
 unfold ag;simp only[ZG,Zm];by_cases c:i=j
 ·subst c;rw[VT rfl,Xi hj];rfl
 ·rw[VU c,List.getElem?_set_ne c]
theorem MF.st {n x:Int}{es:af}{i:Nat}(h:MF n es)(x0:0<=x)(x1:x<n):MF n (es.set i [.i x]):=fun j hj=>by
 rw[Zw]at hj;rw[aaF hj];split;exact⟨x0,x1⟩;exact h j hj
theorem MF.at {n i:Int}{es:af}(h:MF n es)(i0:0<=i)(i1:i<es.length):0<=ag es i 0/\ag es i 0<n:=by
 have:=h i.toNat (by omega);rw[Zr i0]at this;exact this
theorem MF.sw {n i j:Int}{es:af}(h:MF n es)(i0:0<=i)(i1:i<es.length)(j0:0<=j)(j1:j<es.length):MF n (swE es i j):=by
 have a:=h.at i0 i1;have b:=h.at j0 j1;exact(h.st b.1 b.2).st a.1 a.2
theorem EY {a:af}{r:aT}{n j:Nat}(h:n<a.length):ag (a++[r]) (n:Int) j=ag a (n:Int) j:=by
 unfold ag;simp only[ZG,Zm];rw[ZO h]
theorem H5 {a:af}{r:aT}{j:Nat}:ag (a++[r]) (a.length:Int) j=Ly (r.getD j .g):=by
 unfold ag;simp only[ZG,Zm];rw[ZJ (Ze _),XQ];rfl
def spM (sp:af)(a b:Int):Bool:=mshB (ag sp a 0) (ag sp a 1) (ag sp a 2) (ag sp b 0) (ag sp b 1) (ag sp b 2)
def spR (od:af)(h p i:Int):Int:=ag od (h+(i+p)%(od.length-h)) 0
def spT (sp od:af)(h p i:Int)(o:af):Bool:= !tnB o (ag od i 0)&&(!tnB o (spR od h p i)&&spM sp (ag od i 0) (spR od h p i))
def sp1 (sp od:af)(h p i:Int)(o:af):af:=if spT sp od h p i o=true then o++[[.i (ag od i 0),.i (spR od h p i)]]else o
def RE (sp od:af)(h p:Int):Nat->af->af
 |0,o=>o
 |i+1,o=>sp1 sp od h p (i:Int) (RE sp od h p i o)
def spO (sp od:af)(h:Int):Nat->af
 |0=>[]
 |p+1=>RE sp od h (p:Int) h.toNat (spO sp od h p)
def sqB (sp:af)(s k:Int):Bool:=decide ((sp.length:Int)<=16)&&(inR k 0 16&&inR s 0 1073741823)
def sqL (sp:af)(s k:Int):af:=if sqB sp s k=true then spO sp (afX s sp.length) ((sp.length:Int)/2) k.toNat else[]
def sqS (sp:af)(s k:Int):Int:=if sqB sp s k=true then afY s sp.length else s
end Go.V
namespace Go.V
structure UsP (n:Int)(o u:af):Prop where
 r:Rw [tB] u
 l:(u.length:Int)=n
 e:∀ x:Int,0<=x->x<n->pX u x 0=tnB o x
structure SoP (sp od:af)(h p:Int)(o:af):Prop where
 e:o=spO sp od h p.toNat
 r:Rw [tI,tI] o
 l:(o.length:Int)<=h*p
structure SiP (sp od:af)(h p i:Int)(o q:af):Prop where
 e:q=RE sp od h p i.toNat o
 r:Rw [tI,tI] q
 l:(q.length:Int)<=o.length+i
section
variable {sp od o q: af} {h p i: Int}
end
end Go.V
namespace Go.V
end Go.V
namespace Go.V
structure P2 (n:Int)(o:af):Prop where
 r:Rw [tI,tI] o
 i:∀ j:Nat,j<o.length->(0<=ag o (j:Int) 0/\ag o (j:Int) 0<n)/\(0<=ag o (j:Int) 1/\ag o (j:Int) 1<n)
def mtT (e s:af):af:=(msS e s).take 16
def mtP (e s:af)(d:Int):af:=sqL (mtT e s) d 3
def AF (e s:af)(d:Int)(c j:Nat):Int:=ag (mtT e s) (ag (mtP e s d) 0 c) j
def mtK (e s:af)(d:Int):Int:=ppK (AF e s d 0 0) (AF e s d 0 1) (AF e s d 0 2) (AF e s d 1 0) (AF e s d 1 1) (AF e s d 1 2)
def mtM (e s:af)(d:Int):Int:=ppM (AF e s d 0 0) (AF e s d 0 1) (AF e s d 0 2) (AF e s d 1 0) (AF e s d 1 1) (AF e s d 1 2)
def mtC (e s:af)(d:Int):af:=ppC (AF e s d 0 0) (AF e s d 0 1) (AF e s d 0 2) (AF e s d 1 0) (AF e s d 1 1) (AF e s d 1 2)
def QU (k me:Bool):Bool:= !me&&k
def mtB (g:Bool)(e s:af)(d:Int):Bool:=g&&decide (0<(mtP e s d).length)
def mtD (g:Bool)(e s:af)(d:Int):Int:=if g=true then sqS (mtT e s) d 3 else d
def afx (g:Bool)(e s:af)(d x:Int):Int:=if mtB g e s d=true then ifZ (plOk (mtK e s d) (mtM e s d) (mtC e s d)) (mtK e s d)else x
def afy (g:Bool)(e s:af)(d x:Int):Int:=if mtB g e s d=true then ifZ (plOk (mtK e s d) (mtM e s d) (mtC e s d)) (mtM e s d)else x
def afw (g:Bool)(e s:af)(d:Int)(x:af):af:=if mtB g e s d=true then ifR (plOk (mtK e s d) (mtM e s d) (mtC e s d)) (mtC e s d) []else x
def abJ (g:Bool)(e s:af)(d x:Int):Int:=if mtB g e s d=true then 0 else x
def mtO (g:Bool)(e s:af)(d:Int)(me:Bool):Bool:=if mtB g e s d=true then true else me
section
variable {g me k: Bool} {e s x: af} {d y: Int}
end
end Go.V
namespace Go.V
theorem O0 {ls:af}(w:Rw [.sl [tI]] ls)(h:caOk ls=true):ap ls<=36:=by
 have c:=Tj h;have q:cK ls<=8*ls.length:=yY fun e he=>by
  obtain⟨i,hi,rfl⟩:=List.getElem_of_mem he;have a:=w.eta (i:=i) (by omega) (by omega);rw[Zm,ZG,List.getElem?_eq_getElem hi,Option.getD_some]at a;rw[a];show fj [.s 1 (aw ls i 0)]<=8;have l:=c.2 i (by omega);have x:=(Rw.sub (fs:=[.sl [tI]]) (j:=0) (i:=(i:Int)) w (by omega) rfl).cnt rfl;have e:fj [.s 1 (aw ls i 0)]=ap (aw ls i 0):=by simp only[fj,pQ,ap];omega
  rw[e,x];omega
 have:=c.1;unfold ap;omega
def Kf (S:af)(a:Int):Int:=ag S (gn S a) 1
def Ke (S D:af)(t a:Int):Bool:=pw (aw D t 0) (Kf S a) a
def rcD (S D:af)(t a:Int):af:=if Ke S D t a=true then D.set t.toNat [.s 1 (x7 (aw D t 0) (Kf S a) a)]else D
structure RS where
 s:AA
 D:af
def r1 (me:Bool)(kp mv t:Int)(z:RS)(a:Int):RS:=⟨if Ke z.s.S z.D t a=true then z.s else f1 me kp mv z.s a,rcD z.s.S z.D t a⟩
def rN (me:Bool)(kp mv t:Int)(l:af)(z:RS):Nat->RS
 |0=>z
 |n+1=>r1 me kp mv t (rN me kp mv t l z n) (ag l n 0)
structure CdI (D:af)(n B:Nat):Prop where
 w:Rw [.sl [.sl [tI]]] D
 l:D.length=n
 c:ap D<=B
structure OO (l:af)(n B i:Nat)(z:RS):Prop where
 fr:MC z.s
 q:∀ j:Nat,i<=j->j<l.length->∃ k,nU z.s.S (ag l j 0) k
 d:CdI z.D n (B+40*i)
section
variable {S D l: af} {t a: Int} {n B i: Nat} {me: Bool} {kp mv: Int} {z: RS}
theorem acD (h:CdI D n B)(t0:0<=t)(t1:t<n)(ha: -9223372036854775808<=a/\a<=9223372036854775807):CdI (rcD S D t a) n (B+40):=by
 have hl:=h.l;have hc:=h.c;unfold rcD;split
 ·rename_i b;unfold Ke pw at b;rw[Zc]at b;have gw:Rw [.sl [tI]] (aw D t 0):=kV h.w t0 (by omega);have u:=MY gw b.1 ha;have k:=O0 u.1 b.2;have q:=mA (es:=D) (n:=t.toNat) (e:=[.s 1 (x7 (aw D t 0) (Kf S a) a)]);have e:fj [.s 1 (x7 (aw D t 0) (Kf S a) a)]=ap (x7 (aw D t 0) (Kf S a) a):=by simp only[fj,pQ,ap];omega
  exact⟨Rw.set h.w (show bR [.sl [.sl [tI]]] [.s 1 (x7 (aw D t 0) (Kf S a) a)]from⟨⟨rfl,u.1⟩,trivial⟩) _,by rw[Zw];exact hl,by omega⟩
 ·exact⟨h.w,hl,by omega⟩
theorem acF (d:AL l)(h:OO l n B i z)(hi:i<l.length)(t0:0<=t)(t1:t<n):OO l n B (i+1) (r1 me kp mv t z (ag l i 0)):=by
 obtain⟨k,v⟩:=h.q i (Ze _) hi;have bd:=zy h.fr.g v;have e:B+40*(i+1)=B+40*i+40:=by omega
 have D':=acD (S:=z.s.S) (a:=ag l i 0) h.d t0 t1 (by omega);rw[<-e]at D';by_cases b:Ke z.s.S z.D t (ag l i 0)=true
 ·have r:r1 me kp mv t z (ag l i 0)=⟨z.s,rcD z.s.S z.D t (ag l i 0)⟩:=by unfold r1;rw[VT b]
  rw[r];exact⟨h.fr,fun j j0 j1=>h.q j (by omega) j1,D'⟩
 ·have r:r1 me kp mv t z (ag l i 0)=⟨f1 me kp mv z.s (ag l i 0),rcD z.s.S z.D t (ag l i 0)⟩:=by unfold r1;rw[VU b]
  rw[r];refine⟨PF h.fr v,fun j j0 j1=>?_,D'⟩;obtain⟨k',v'⟩:=h.q j (by omega) j1;exact aaf h.fr v v' (d i j (by omega) j1)
theorem Rv (d:AL l)(h:OO l n B 0 z)(t0:0<=t)(t1:t<n):∀ m:Nat,m<=l.length->OO l n B m (rN me kp mv t l z m)
 |0,_=>h
 |m+1,hm=>acF d (Rv d h t0 t1 m (by omega)) (by omega) t0 t1
end
def rcC (me:Bool)(kp mv:Int)(c u e f s x:af)(t a:Int):af:=(r1 me kp mv t ⟨⟨c,u,e,f,s⟩,x⟩ a).s.C
def rcU (me:Bool)(kp mv:Int)(c u e f s x:af)(t a:Int):af:=(r1 me kp mv t ⟨⟨c,u,e,f,s⟩,x⟩ a).s.U
def rcE (me:Bool)(kp mv:Int)(c u e f s x:af)(t a:Int):af:=(r1 me kp mv t ⟨⟨c,u,e,f,s⟩,x⟩ a).s.E
def rcF (me:Bool)(kp mv:Int)(c u e f s x:af)(t a:Int):af:=(r1 me kp mv t ⟨⟨c,u,e,f,s⟩,x⟩ a).s.F
def rcS (me:Bool)(kp mv:Int)(c u e f s x:af)(t a:Int):af:=(r1 me kp mv t ⟨⟨c,u,e,f,s⟩,x⟩ a).s.S
def raC (me:Bool)(kp mv:Int)(c u e f s x:af)(t:Int)(l:af):af:=(rN me kp mv t l ⟨⟨c,u,e,f,s⟩,x⟩ l.length).s.C
def raU (me:Bool)(kp mv:Int)(c u e f s x:af)(t:Int)(l:af):af:=(rN me kp mv t l ⟨⟨c,u,e,f,s⟩,x⟩ l.length).s.U
def raE (me:Bool)(kp mv:Int)(c u e f s x:af)(t:Int)(l:af):af:=(rN me kp mv t l ⟨⟨c,u,e,f,s⟩,x⟩ l.length).s.E
def raF (me:Bool)(kp mv:Int)(c u e f s x:af)(t:Int)(l:af):af:=(rN me kp mv t l ⟨⟨c,u,e,f,s⟩,x⟩ l.length).s.F
def raS (me:Bool)(kp mv:Int)(c u e f s x:af)(t:Int)(l:af):af:=(rN me kp mv t l ⟨⟨c,u,e,f,s⟩,x⟩ l.length).s.S
def raD (me:Bool)(kp mv:Int)(c u e f s x:af)(t:Int)(l:af):af:=(rN me kp mv t l ⟨⟨c,u,e,f,s⟩,x⟩ l.length).D
section
variable {me: Bool} {kp mv t a: Int} {c u e f s x: af}
theorem afO (b:Ke s x t a=true):rcC me kp mv c u e f s x t a=c/\rcU me kp mv c u e f s x t a=u/\rcE me kp mv c u e f s x t a=e/\rcF me kp mv c u e f s x t a=f/\rcS me kp mv c u e f s x t a=s/\rcD s x t a=x.set t.toNat [.s 1 (x7 (aw x t 0) (Kf s a) a)]:=by
 unfold rcC rcU rcE rcF rcS r1 rcD;simp only[b,if_true];exact⟨trivial,trivial,trivial,trivial,trivial,trivial⟩
theorem afN (b:Ke s x t a=false):rcC me kp mv c u e f s x t a=fzC me kp mv c u e f s a/\rcU me kp mv c u e f s x t a=fzU me kp mv c u e f s a/\rcE me kp mv c u e f s x t a=fzE me kp mv c u e f s a/\rcF me kp mv c u e f s x t a=fzF me kp mv c u e f s a/\rcS me kp mv c u e f s x t a=fzS me kp mv c u e f s a/\rcD s x t a=x:=by
 unfold rcC rcU rcE rcF rcS r1 rcD;simp only[b];exact⟨rfl,rfl,rfl,rfl,rfl,rfl⟩
end
structure G7 (me:Bool)(kp mv t:Int)(l:af)(z:RS)(i:Int)(c u e f s x:af):Prop where
 c:c=(rN me kp mv t l z i.toNat).s.C
 u:u=(rN me kp mv t l z i.toNat).s.U
 e:e=(rN me kp mv t l z i.toNat).s.E
 f:f=(rN me kp mv t l z i.toNat).s.F
 s:s=(rN me kp mv t l z i.toNat).s.S
 x:x=(rN me kp mv t l z i.toNat).D
section
variable {me: Bool} {kp mv t: Int} {l c u e f s x c0 u0 e0 f0 s0 x0: af} {z: RS} {i: Int}
theorem NP:G7 me kp mv t l ⟨⟨c,u,e,f,s⟩,x⟩ 0 c u e f s x:=⟨rfl,rfl,rfl,rfl,rfl,rfl⟩
theorem Jf (h:G7 me kp mv t l z i c u e f s x)(i0:0<=i):G7 me kp mv t l z (i+1) (rcC me kp mv c u e f s x t (ag l i 0)) (rcU me kp mv c u e f s x t (ag l i 0)) (rcE me kp mv c u e f s x t (ag l i 0)) (rcF me kp mv c u e f s x t (ag l i 0)) (rcS me kp mv c u e f s x t (ag l i 0)) (rcD s x t (ag l i 0)):=by
 have n:(i+1).toNat=i.toNat+1:=by omega
 have g:ag l i 0=ag l (i.toNat:Int) 0:=by rw[Zr i0]
 obtain⟨rfl,rfl,rfl,rfl,rfl,rfl⟩:=h;refine⟨?_,?_,?_,?_,?_,?_⟩<;>rw[n,g]<;>rfl
theorem NQ (h:G7 me kp mv t l z i c u e f s x):(⟨⟨c,u,e,f,s⟩,x⟩:RS)=rN me kp mv t l z i.toNat:=by
 obtain⟨rfl,rfl,rfl,rfl,rfl,rfl⟩:=h;rfl
theorem FC (h:G7 me kp mv t l ⟨⟨c0,u0,e0,f0,s0⟩,x0⟩ i c u e f s x)(e1:i=l.length):c=raC me kp mv c0 u0 e0 f0 s0 x0 t l/\u=raU me kp mv c0 u0 e0 f0 s0 x0 t l/\e=raE me kp mv c0 u0 e0 f0 s0 x0 t l/\f=raF me kp mv c0 u0 e0 f0 s0 x0 t l/\s=raS me kp mv c0 u0 e0 f0 s0 x0 t l/\x=raD me kp mv c0 u0 e0 f0 s0 x0 t l:=by
 obtain⟨rfl,rfl,rfl,rfl,rfl,rfl⟩:=h;have n:i.toNat=l.length:=by omega
 rw[n];exact⟨rfl,rfl,rfl,rfl,rfl,rfl⟩
end
theorem zt {l:af}{f:Nat}:∀ {n j:Nat},j<n->(lh l f n)[j]?=some (ag l j f)
 |0,_,h=>absurd h (Xw _)
 | n+1,j,h=>by
   simp only[lh];by_cases c:j<n
   ·rw[ZO (by rw[fY];exact c)];exact zt c
   ·have e:j=n:=by omega
    subst e;rw[ZJ (by rw[fY];exact Ze _),fY,XQ];rfl
theorem T7 {l:af}(h:(lh l 0 l.length).Nodup):AL l:=fun i j ij hj e=>by
 have a:=zt (l:=l) (f:=0) (n:=l.length) (j:=i) (by omega);have b:=zt (l:=l) (f:=0) (n:=l.length) hj;rw[e, <-b]at a;have:=(List.getElem?_inj (by rw[fY];omega) h).1 a;omega
theorem H4 {x:af}:∀ {n t:Nat},t<n->∃ p r,Cr x n=p++aw x t 0++r
 |0,_,h=>absurd h (Xw _)
 | n+1,t,h=>by
   simp only[Cr];by_cases c:t<n
   ·obtain⟨p,r,e⟩:=H4 (x:=x) c;exact⟨p,r++aw x n 0,by rw[e,Zp]⟩
   ·have e:t=n:=by omega
    subst e;exact⟨Cr x t,[],by rw[List.append_nil]⟩
theorem C5 {p m r:af}{j k:Nat}(h:j<m.length):ag (p++m++r) ((p.length+j:Nat):Int) k=ag m j k:=by
 have e:(p++m++r).getD (p.length+j) []=m.getD j []:=by
  rw[Zm,Zm,Zp,ZJ (by omega),ZO (by omega),Nat.add_sub_cancel_left]
 unfold ag;rw[ZG,ZG,e]
theorem Il {b x:af}{t:Int}(h:mailOk b x=true)(t0:0<=t)(t1:t<x.length):∃ p r,ifL b x=p++aw x t 0++r:=by
 obtain⟨p,r,e⟩:=H4 (x:=x) (n:=x.length) (t:=t.toNat) (by omega);rw[Zr t0]at e;unfold ifL;rw[VT h,e];exact⟨GT b b.length++p,r,by simp only[Zp]⟩
theorem PC {p m r:af}(h:AL (p++m++r)):AL m:=fun i j ij hj=>by
 have q:=h (p.length+i) (p.length+j) (by omega) (by simp only[Zf];omega);rw[C5 (by omega),C5 hj]at q;exact q
section
variable {a0 a1 a2: af} {a3: Int} {a4 a5 a6 a7 a8 a9 aA aB: af} {aC: Int} {aD: af} {aE aF aG aH: Int} {aI: Bool} {aJ aK: Int} {aL: af} {aM aN t: Int}
theorem aaY (h:hpI a0 a1 a2 a3 a4 a5 a6 a7 a8 a9 aA aB aC aD aE aF aG aH aI aJ aK aL aM aN=true):AL (ifL aA aB)/\∀ j:Nat,j<(ifL aA aB).length->∃ k,nU a6 (ag (ifL aA aB) j 0) k:=by
 have T:=gB h;have q:=T.h;refine⟨?_,fun j hj=>?_⟩
 ·rw[aaV T.l T.o]at q;unfold hoS at q;simp only[Zc,VR]at q;have nd:=q.1.2.2.2.1;unfold La at nd;exact T7 (List.nodup_append.1 nd).2.1
 ·unfold hoI at q;simp only[Zc]at q;have z:=dh.1 q.2.2.1 j (by omega) (by omega);unfold jA at z;exact C8 z
theorem aaZ (h:hpI a0 a1 a2 a3 a4 a5 a6 a7 a8 a9 aA aB aC aD aE aF aG aH aI aJ aK aL aM aN=true)(t0:0<=t)(t1:t<aB.length):AL (aw aB t 0)/\∀ j:Nat,j<(aw aB t 0).length->∃ k,nU a6 (ag (aw aB t 0) j 0) k:=by
 have T:=gB h;have f:=aaY h;obtain⟨p,r,e⟩:=Il T.m t0 t1;rw[e]at f;refine⟨PC f.1,fun j hj=>?_⟩;have q:=f.2 (p.length+j) (by simp only[Zf];omega);rw[C5 hj]at q;exact q
end
end Go.V
namespace Go.V
def Kg (to a:Int):aT:=[.i to,.i a]
def sdU (b:af)(f to a:Int):af:=b.set f.toNat [.s 2 (aw b f 0++[Kg to a])]
def sdB (b x:af)(f to a:Int):Bool:=htB b x f&&mailOk (sdU b f to a) x
def sdL (b x:af)(f to a:Int):af:=if sdB b x f to a=true then sdU b f to a else b
def coX (b x:af)(t:Int):af:=if htB b x t=true then x.set t.toNat [.s 1 []]else x
def coT (b x:af)(t:Int):af:=if htB b x t=true then aw x t 0 else[]
section
variable {b x: af} {f t to a: Int}
theorem afU (h:htB b x f=false):sdB b x f to a=false:=by unfold sdB;rw[h];rfl
theorem afV (h:mailOk (sdU b f to a) x=false):sdB b x f to a=false:=by unfold sdB;rw[h];simp
theorem afW (h:htB b x f=true)(g:mailOk (sdU b f to a) x=true):sdB b x f to a=true:=by unfold sdB;rw[h,g];rfl
theorem Ob (h:sdB b x f to a=false):sdL b x f to a=b:=by unfold sdL;rw[h];rfl
theorem Oc (h:sdB b x f to a=true):sdL b x f to a=sdU b f to a:=by unfold sdL;rw[VT h]
theorem adX (h:htB b x t=false):coX b x t=x/\coT b x t=[]:=by unfold coX coT;rw[h];exact⟨rfl,rfl⟩
theorem Tx (h:htB b x t=true):coX b x t=x.set t.toNat [.s 1 []]/\coT b x t=aw x t 0:=by unfold coX coT;rw[VT h,VT h];exact⟨rfl,rfl⟩
theorem aa7 (h:htB b x f=true):mailOk b x=true:=by unfold htB at h;rw[Zc]at h;exact h.2
theorem aa9 (h:htB b x t=true):0<=t/\t<x.length:=by
 have q:=Da h;have m:=IJ (aa7 h);omega
theorem RA (hb:Rw [.sl [tI,tI]] b)(f0:0<=f)(f1:f<b.length)(cb:ap b<=1073741824)(ht: -9223372036854775808<=to/\to<=9223372036854775807)(ha: -9223372036854775808<=a/\a<=9223372036854775807):Rw [.sl [tI,tI]] (sdU b f to a)/\ap (sdU b f to a)<=2*ap b+8:=by
 have rb:=Rw.sub (fs:=[.sl [tI,tI]]) (j:=0) (i:=f) hb (by omega) rfl;have gb:=eX (es:=b) (i:=f) (j:=0);have lb:(aw b f 0).length<=ap (aw b f 0):=by unfold ap;omega
 have r2:Rw [tI,tI] (aw b f 0++[Kg to a]):=Rw.append rb (Rw.one (show bR [tI,tI] (Kg to a)from⟨⟨rfl,ht⟩,⟨rfl,ha⟩,trivial⟩)) (by unfold maxLen;simp only[Zj,Zk];omega);refine⟨Rw.set hb (show bR [.sl [tI,tI]] [.s 2 (aw b f 0++[Kg to a])]from⟨⟨rfl,r2⟩,trivial⟩) _,?_⟩;unfold sdU;have s:=mA (es:=b) (n:=f.toNat) (e:=[.s 2 (aw b f 0++[Kg to a])]);have e:fj [.s 2 (aw b f 0++[Kg to a])]=ap (aw b f 0++[Kg to a]):=by simp only[fj,pQ,ap];omega
 have p:=qI (a:=aw b f 0) (b:=[Kg to a]);have o:ap [Kg to a]<=8:=by simp[Kg,ap,cK,fj,pQ]
 omega
theorem Pj (hx:Rw [.sl [tI]] x):Rw [.sl [tI]] (coX b x t)/\ap (coX b x t)<=ap x+4:=by
 unfold coX;split
 ·have s:=mA (es:=x) (n:=t.toNat) (e:=[.s 1 []]);have e:fj [.s 1 []]<=4:=by simp[fj,pQ,cK]
  exact⟨Rw.set hx (show bR [.sl [tI]] [.s 1 []]from⟨⟨rfl,Rw.nil⟩,trivial⟩) _,by omega⟩
 ·exact⟨hx,by omega⟩
theorem HB (hx:Rw [.sl [tI]] x)(cx:ap x<=1073741824):Rw [tI] (coT b x t)/\(coT b x t).length<=1073741824:=by
 unfold coT;split
 ·rename_i h;have q:=aa9 h;have g:=eX (es:=x) (i:=t) (j:=0);have l:(aw x t 0).length<=ap (aw x t 0):=by unfold ap;omega
  exact⟨kV hx q.1 q.2,by omega⟩
 ·exact⟨Rw.nil,ZB _⟩
end
section
variable {a0 a1 a2: af} {a3: Int} {a4 a5 a6 a7 a8 a9 aA aB: af} {aC: Int} {aD: af} {aE aF aG aH: Int} {aI: Bool} {aJ aK: Int} {aL: af} {aM aN t i: Int} {c u e f s x: af}
theorem QH {b x:af}{t:Int}(h:mailOk b x=true)(t0:0<=t)(t1:t<x.length):(aw x t 0).length<=30:=by
 obtain⟨p,r,e⟩:=Il h t0 t1;have:=Im (b:=b) (x:=x);rw[e]at this;simp only[Zf]at this;omega
structure CoI (a9 aA aB:af)(t:Int)(z:AA):Prop where
 h:htB aA aB t=true
 t0:0<=t
 t1:t<a9.length
 d:AL (coT aA aB t)
 q:OO (coT aA aB t) a9.length 1000000000 0 ⟨z,a9⟩
 l:(coT aA aB t).length<=30
theorem Pi (hc:lq a0 a1 a2 a4 a5 a6 a7 a8 a9 aA aB aD aL)(h9:ap a9<=1000000000)(h:hpI a0 a1 a2 a3 a4 a5 a6 a7 a8 a9 aA aB aC aD aE aF aG aH aI aJ aK aL aM aN=true)(g:inR t 0 (a9.length-1)=true):CoI a9 aA aB t ⟨a0,a1,a2,a5,a6⟩:=by
 have T:=gB h;have n:a9.length=aA.length:=VV T.n;have r:=be.1 g;have hb:htB aA aB t=true:=by unfold htB;rw[T.m, <-n,g];rfl
 have m:=IJ T.m;have z:=Tx hb;have p:=aaZ (t:=t) h r.1 (by omega);refine⟨hb,r.1,by omega,by rw[z.2];exact p.1,⟨Nm hc h,fun j _ hj=>?_,⟨hc.r9,rfl,h9⟩⟩,by rw[z.2];exact QH T.m r.1 (by omega)⟩;rw[z.2]at hj ⊢;exact p.2 j hj
theorem HC (hc:lq a0 a1 a2 a4 a5 a6 a7 a8 a9 aA aB aD aL)(h:hpI a0 a1 a2 a3 a4 a5 a6 a7 a8 a9 aA aB aC aD aE aF aG aH aI aJ aK aL aM aN=true)(h11:ap aB<=1000000000)(hn:a3≠100000)(T:CoI a9 aA aB t ⟨a0,a1,a2,a5,a6⟩) 
 (P:G7 aI aJ aK t (coT aA aB t) ⟨⟨a0,a1,a2,a5,a6⟩,a9⟩ i c u e f s x) (i0:0<=i) (i1:i<(coT aA aB t).length):
 lq c u e a4 f s a7 a8 x aA (coX aA aB t) aD aL/\kerOk c u e a3 a4=true/\a3≠100000/\f.length<=65/\qj s/\(∃ k,nU s (ag (coT aA aB t) i 0) k)/\0<=t/\t<x.length:=by
 have I:=Rv (me:=aI) (kp:=aJ) (mv:=aK) T.d T.q T.t0 T.t1 i.toNat (by omega);rw[<-NQ P]at I;have k:=jt (gB h).k;have H:=Na (b13:=aD) hc I.fr hc.r13 (by rw[<-hc.r13.cnt rfl];exact hc.c13);have X:=Pj (b:=aA) (t:=t) hc.r11;have D:=I.d;have dw:=D.w;have dl:=D.l;have dc:=D.c;have tl:=T.l;have t0:=T.t0;have t1:=T.t1;simp only at dw dl dc;obtain⟨j,v⟩:=I.q i.toNat (Ze _) (by omega);rw[Zr i0]at v;exact⟨{H with r9:=dw,c9:=by omega,r11:=X.1,c11:=by omega},v5 I.fr.m k.2.1 k.2.2.1 k.2.2.2,hn,I.fr.lf,I.fr.g,⟨j,v⟩,t0,by omega⟩
end
end Go.V
namespace Go.V
def aft (g:Bool)(a0 a1 a2:af)(a3:Int)(a4:af)(aJ aK:Int)(aL:af)(aM aN:Int):Int:=ifN g (mzN a0 a1 a2 a3 a4 aJ aK aL aM aN) aM
def afu (g:Bool)(a0 a1 a2:af)(a3:Int)(a4:af)(aJ aK:Int)(aL:af)(aM aN:Int):Int:=ifN g (myN a0 a1 a2 a3 a4 aJ aK aL aM aN) aN
section
variable {a0 a1 a2: af} {a3: Int} {a4: af} {aJ aK: Int} {aL: af} {aM aN: Int} {g k me j: Bool} {c x y: Int} {u v: af}
end
end Go.V
namespace Go.V
def feI (sp lg:af)(a:Int):Int:=if dzK sp lg a=0 then 3 else if dzO sp lg a≠0 then 1 else if dzK sp lg a=2 then 2 else 0
def Nn (sp lg:af)(a:Int):Int:=if feI sp lg a=3 then 2 else if feI sp lg a=1 then 3 else 4
section
variable {sp lg: af} {a: Int}
theorem aej (h:dzK sp lg a=0):feI sp lg a=3:=by unfold feI;rw[VT h]
theorem aek (h:dzK sp lg a≠0)(g:dzO sp lg a≠0):feI sp lg a=1:=by unfold feI;rw[VU h,VT g]
theorem ael (h:dzK sp lg a=2)(g:dzO sp lg a=0):feI sp lg a=2:=by unfold feI;rw[VU (by omega),VU (fun n=>n g),VT h]
theorem aem (h:dzK sp lg a≠0)(g:dzO sp lg a=0)(k:dzK sp lg a≠2):feI sp lg a=0:=by unfold feI;rw[VU h,VU (fun n=>n g),VU k]
theorem aeT (h:feI sp lg a=3):Nn sp lg a=2:=by unfold Nn;rw[VT h]
theorem aeS (h:feI sp lg a=1):Nn sp lg a=3:=by unfold Nn;rw[VU (by omega),VT h]
theorem aeU (h:feI sp lg a≠3)(g:feI sp lg a≠1):Nn sp lg a=4:=by unfold Nn;rw[VU h,VU g]
end
def foS (os:af)(ad:Int):Int:=ag os (obI os ad) 2
def foT (os:af)(ad:Int):Int:=ag os (obI os ad) 3
def lc (os:af)(ad:Int):Int:=clsOf (foS os ad)
def foO (os:af)(ad:Int):af:=delL os (obI os ad) (obI os ad+1)
def PN (g:Bool)(os:af)(ad:Int):Bool:=g&&decide (0<=obI os ad)
def fbL (g:Bool)(os:af)(ad:Int):Bool:=PN g os ad&&decide (lc os ad<0)
def PH (g:Bool)(es os:af)(ad:Int):Bool:=PN g os ad&&(decide (0<=lc os ad)&&decide (peM es (ad/16)≠1))
def fbP (g:Bool)(es os b x:af)(t ad:Int):Bool:=PH g es os ad&&(decide (t≠foT os ad)&&sdB b x t (foT os ad) ad)
def fbQ (g:Bool)(es os:af)(t ad:Int):Bool:=PH g es os ad&&decide (t=foT os ad)
def fcC (cs es os:af)(ad:Int):af:=tcC cs es ad (clsSz (lc os ad))
def fqR (os:af)(rm:Int)(qs:af)(ck ad:Int):af:=qaR rm qs ad (lc os ad) ck
def fqL (os:af)(rm:Int)(qs:af)(ck ad:Int):af:=qaL rm qs ad (lc os ad) ck
def J9 (lg:af)(ad:Int):Int:=ag lg (lhI lg ad) 0
def LA (lg:af)(ad:Int):Int:=ag lg (lhI lg ad) 1
structure FoT (es sp lg os cs:af)(ad:Int):Prop where
 k0:0<=obI os ad
 k1:obI os ad<os.length
 e:ag os (obI os ad) 1=ad
 ok:okO sp lg ad (foS os ad)=true
 th:inR (foT os ad) 0 (cs.length-1)=true
 s0:1<=foS os ad
 s1:foS os ad<=1000
theorem IZ {sp lg:af}{a s:Int}(F:MG sp lg)(h:okO sp lg a s=true)(c:0<=clsOf s):hlB sp lg a (clsOf s)=true:=by
 unfold okO at h;simp only[Zc,Z4,VR]at h;obtain⟨o,⟨k,e⟩|⟨k,e⟩⟩:=h
 ·unfold hlB;rw[VP k,VP o,VP e];simp
 ·exfalso;have b:=M2 k;have q:=F.l (dnI sp lg a).toNat (by omega);rw[Zr b.1]at q;have r:=be.1 (ma q).1;rw[e]at r;unfold clsOf at c;rw[VU (by omega),VU (by omega),VU (by omega),VU (by omega),VU (by omega)]at c;omega
section
variable {a0 a1 a2: af} {a3: Int} {a4 a5 a6 a7 a8 a9 aA aB: af} {aC: Int} {aD: af} {aE aF aG aH: Int} {aI: Bool} {aJ aK: Int} {aL: af} {aM aN t ad: Int}
theorem PO (h:hpI a0 a1 a2 a3 a4 a5 a6 a7 a8 a9 aA aB aC aD aE aF aG aH aI aJ aK aL aM aN=true)(k:0<=obI a8 ad):FoT a2 a6 a7 a8 a9 ad:=by
 have T:=gB h;have p:=fV (p:=fun j=>eqB (ag a8 j 1) ad) (n:=a8.length) k;have k1:obI a8 ad<a8.length:=p.1;have e:ag a8 (obI a8 ad) 1=ad:=VV p.2;have o:=dh.1 T.o (obI a8 ad) k k1;have b:=ab0 T.o k k1;unfold yv at o;simp only[Zc]at o;have ok:=o.2.2.2.2;rw[e]at ok;exact⟨k,k1,e,ok,o.2.2.1,b.2.2.1,b.2.2.2⟩
structure SQ (a0 a1 a2 a6 a8:af)(ad:Int):Prop where
 lv:∃ i,nU a6 ad i
 d0:0<=ad
 d1:ad<=511
 mp:peM a2 (ad/16)≠0
 n0:1<=clsSz (lc a8 ad)
 n1:ad%16+clsSz (lc a8 ad)<=16
 m:lM (fcC a0 a2 a8 ad) a1 a2
 w:Rw [.sl [tI]] (fcC a0 a2 a8 ad)
theorem PY (hc:lq a0 a1 a2 a4 a5 a6 a7 a8 a9 aA aB aD aL)(h:hpI a0 a1 a2 a3 a4 a5 a6 a7 a8 a9 aA aB aC aD aE aF aG aH aI aJ aK aL aM aN=true)(F:FoT a2 a6 a7 a8 a9 ad)(c:0<=lc a8 ad):SQ a0 a1 a2 a6 a8 ad:=by
 have T:=gB h;have g:=JG (LC T.l);have hl:=IZ (LC T.l) F.ok c;have s0:=F.s0;have mp:=Q2 (i:=0) T.l T.p F.ok (Yg _) (by omega);rw[Int.add_zero]at mp;have K:=(jt T.k).1;obtain⟨i,v⟩:=C8 hl;have bd:=zy g v;have kk:ag a6 i 1=lc a8 ad:=by
  unfold hlB at hl;simp only[Zc,Z4,VR]at hl;have d:=Dx (L:=a7) g v;rcases hl.2.2 with q|q;exact absurd c (by unfold lc at c ⊢;omega)
  ·rw[d.2.1]at q;exact q
 have sp:=li (g.s i v.l);have c4:=Hu sp.2.2.1;rw[kk]at c4;have o:=v.o;rw[kk]at o;have p:=v.p;have fit:=EW c4 (d:=ad-ag a6 i 0*16) (by omega) (by omega) o;have e16:ad-ag a6 i 0*16=ad%16:=by omega
 rw[e16]at fit;have n0:1<=clsSz (lc a8 ad):=by rcases c4 with q|q|q|q<;>omega
 have z:=FO (f:=peF a2 (ad/16)) (k:=ad%16) (p:=ad/16) K hc.r0 mp.2.2 rfl (by omega) (clsSz (lc a8 ad)).toNat (by omega);exact⟨⟨i,v⟩,bd.1,bd.2.1,mp.2.2,n0,fit,z.m,z.w⟩
theorem Pz {qs:af}{a c s:Int}(h:AL qs)(n:qtB qs a=false):AL (qs++[BU a c s]):=fun i j ij hj=>by
 rw[Zf]at hj;rw[EY (by simp only[Zj,Zk]at hj;omega)];by_cases q:j<qs.length
 ·rw[EY q];exact h i j ij q
 ·have e:j=qs.length:=by simp only[Zj,Zk]at hj;omega
  subst e;rw[H5];intro e;have z:=yf (VW n) (j:=i) ij;unfold Dl at z;have e':ag qs i 0=a:=e;rw[e']at z;unfold eqB at z;exact absurd rfl (VW z)
theorem aar (hc:lq a0 a1 a2 a4 a5 a6 a7 a8 a9 aA aB aD aL)(h9:ap a9<=1000000000)(h:hpI a0 a1 a2 a3 a4 a5 a6 a7 a8 a9 aA aB aC aD aE aF aG aH aI aJ aK aL aM aN=true)(S:SQ a0 a1 a2 a6 a8 ad):
 AL (fqR a8 aC aD aF ad)/\OO (fqR a8 aC aD aF ad) a9.length 1000000000 0 ⟨⟨fcC a0 a2 a8 ad,a1,a2,a5,a6⟩,a9⟩/\(fqR a8 aC aD aF ad).length<=aD.length+1:=by
 have T:=gB h;have fr:=Nm hc h;have fr2:MC ⟨fcC a0 a2 a8 ad,a1,a2,a5,a6⟩:=⟨S.m,S.w,fr.ru,fr.re,fr.rf,fr.rs,fr.lf,fr.ls,fr.g⟩;unfold fqR;cases b:Gx aC aD ad (lc a8 ad) aF with
 | false=>
   rw[(Je b).2];exact⟨fun i j _ hj=>absurd hj (by simp),⟨fr2,fun j _ hj=>absurd hj (by simp),⟨hc.r9,rfl,h9⟩⟩,by simp⟩
 | true=>
   rw[(LZ b).2];unfold Gx stlOk at b;simp only[Zc,Yv]at b;have d:=Pz (a:=ad) (c:=lc a8 ad) (s:=aF) (acA T.q) b.2.2.2.2.1;refine⟨KQ d,⟨fr2,fun j _ hj=>?_,⟨hc.r9,rfl,h9⟩⟩,by rw[Zh,Zf];simp only[Zj,Zk];omega⟩;rw[Zh]at hj;rw[P0 (by omega)];by_cases q:j<aD.length
   ·rw[EY q];exact aa0 h j q
   ·have e:j=aD.length:=by simp only[Zf,Zj,Zk]at hj;omega
    subst e;rw[H5];exact S.lv
end
end Go.V
namespace Go.V
section
variable {es rs xs: af} {c kp mv ph nx: Int} {k: Bool}
end
section
variable {a0 a1 a2: af} {a3: Int} {a4: af} {aJ aK: Int} {aL: af} {aM aN: Int}
end
end Go.V
namespace Go.V
theorem IV {ls:af}(h:Rw [.sl [tI]] ls)(hc:ap ls<=1099511627776):OI ls:=by
 refine⟨h,by unfold ap at hc;omega,fun i=>?_⟩;have:=eX (es:=ls) (i:=i) (j:=0);unfold ap at this hc;omega
theorem abU {b x:af}(hb:Rw [.sl [tI,tI]] b)(hx:Rw [.sl [tI]] x)(cb:ap b<=1099511627776)(cx:ap x<=1099511627776):GO b x:=by
 refine⟨hb,hx,by unfold ap at cb;omega,by unfold ap at cx;omega,fun i=>?_,fun i=>?_⟩
 ·have:=eX (es:=b) (i:=i) (j:=0);unfold ap at this cb;omega
 ·have:=eX (es:=x) (i:=i) (j:=0);unfold ap at this cx;omega
section
variable {ls: af} {k a: Int}
theorem Ts (h:inR k 0 3=false):clB ls k=false:=by unfold clB;rw[h];rfl
theorem Tt (h:inR k 0 3=true):clB ls k=caOk ls:=by unfold clB;rw[h];rfl
theorem Tu (h:caOk ls=false):clB ls k=false:=by unfold clB;rw[h];simp
theorem Tv (h:caOk ls=true):clB ls k=inR k 0 3:=by unfold clB;rw[h];simp
theorem adZ (h:clB ls k=false):pw ls k a=false:=by unfold pw;rw[h];rfl
theorem ad0 (h:caOk (x7 ls k a)=false):pw ls k a=false:=by unfold pw;rw[h];simp
theorem ad1 (h:clB ls k=true)(g:caOk (x7 ls k a)=true):pw ls k a=true:=by unfold pw;rw[h,g];rfl
theorem ad2 (h:Rw [.sl [tI]] ls)(g:clB ls k=true):jq (.s 1 (jq (.s 1 ls) [(k.toNat,0)] [.g])) [(k.toNat,0)] [.s 1 (aw ls k 0++[[.i a]])]=x7 ls k a:=by
 have c:=xU g;rw[TX h c.1 (by omega)];rfl
theorem IC {b b':af}{r r':Bool}(h1:b=b')(h3:r=r'):[DV.agg [.s 1 b],DV.k r]=[DV.agg [.s 1 b'],DV.k r']:=by rw[h1,h3]
theorem Pn (h:Rw [.sl [tI]] ls)(hc:ap ls<=1073741824)(g:clB ls k=true)(ha: -9223372036854775808<=a/\a<=9223372036854775807):Rw [.sl [tI]] (x7 ls k a)/\ap (x7 ls k a)<=1099511627776:=by
 have q:=MY h g ha;exact⟨q.1,by omega⟩
theorem TL (h:Rw [.sl [tI]] ls)(hc:ap ls<=1073741824)(g:clB ls k=true):fC (.s 1 ls) [(k.toNat,0)]=some (1,aw ls k 0)/\bE (aw ls k 0)/\((aw ls k 0).length+1)*8<=70368744177664/\(aw ls k 0).length+1<=70368744177664:=by
 have c:=xU g;have q:=TV (r:=[[.i 0]]) h c.1 (by omega) hc rfl;simp only[eE,Zj,Zk]at q;exact q
end
section
variable {b x: af} {f to a t: Int}
theorem acK (h:Rw [.sl [tI,tI]] b)(f0:0<=f)(f1:f<b.length):jq (.s 1 (jq (.s 1 b) [(f.toNat,0)] [.g])) [(f.toNat,0)] [.s 2 (aw b f 0++[[.i to,.i a]])]=sdU b f to a:=by
 have q:jq (.s 1 b) [(f.toNat,0)] [.g]=b.set f.toNat [.g]:=eG (by rw[h.eta f0 f1];rfl);rw[q,eG (by rw[Zm,Xi (by omega)];rfl),Wl];rfl
theorem Mf (h:Rw [.sl [tI,tI]] b)(f0:0<=f)(f1:f<b.length):(jq (.s 1 b) [(f.toNat,0)] [.g]).length=b.length:=by
 have q:jq (.s 1 b) [(f.toNat,0)] [.g]=b.set f.toNat [.g]:=eG (by rw[h.eta f0 f1];rfl);rw[q,Zw]
theorem Me (h:Rw [.sl [tI,tI]] b)(f0:0<=f)(f1:f<b.length):∃ rec o,bQ (.s 1 (jq (.s 1 b) [(f.toNat,0)] [.g])) [(f.toNat,0)]=some (rec,o)/\o+1<=rec.length:=by
 have q:jq (.s 1 b) [(f.toNat,0)] [.g]=b.set f.toNat [.g]:=eG (by rw[h.eta f0 f1];rfl);rw[q];exact eS (by rw[Zw];omega) (by rw[Zm,Xi (by omega)];exact Ze _)
theorem acJ (h:Rw [.sl [tI,tI]] b)(hc:ap b<=1073741824)(f0:0<=f)(f1:f<b.length):fC (.s 1 b) [(f.toNat,0)]=some (2,aw b f 0)/\bE (aw b f 0)/\((aw b f 0).length+1)*16<=70368744177664/\(aw b f 0).length+1<=70368744177664:=by
 obtain⟨es,e⟩:=sx h f0 f1;have g:=eX (es:=b) (i:=f) (j:=0);have l:(aw b f 0).length<=ap (aw b f 0):=by unfold ap;omega
 have p:=HI e;rw[eE]at p;exact⟨p,(kV h f0 f1).scal rfl,by omega,by omega⟩
theorem adY (h:Rw [.sl [tI]] x)(t0:0<=t)(t1:t<x.length):jq (.s 1 x) [(t.toNat,0)] [.s 1 []]=x.set t.toNat [.s 1 []]:=FP h t0 t1
end
section
variable {D s: af} {t ad: Int} {i: Nat}
theorem ac8 {b x:af}{i:Int}(h:Rw [.sl [.sl [tI]]] b)(h0:0<=i)(h1:i<b.length):jq (.s 1 b) [(i.toNat,0)] [.s 1 x]=b.set i.toNat [.s 1 x]:=eG (by rw[h.eta h0 h1];rfl)
theorem Bg {cs:af}{fr:Int}(h:Rw [.sl [.sl [tI]]] cs)(h0:0<=fr)(h1:fr<cs.length):∃ rec o,bQ (.s 1 cs) [(fr.toNat,0)]=some (rec,o)/\o+[L.s 1 []].length<=rec.length/\Z7 [L.s 1 []].length (Ym o rec)=js aj (.s 1 cs) [(fr.toNat,0)] 0 [L.s 1 []]:=by
 refine⟨[.s 1 (aw cs fr 0)],0,?_,Ze _,?_⟩
 ·show(cs[fr.toNat]?).map (·,0)=_;rw[uC h h0 h1];rfl
 ·show[L.s 1 (aw cs fr 0)]=[L.s 1 (kh (.s 1 cs) [(fr.toNat,0)])];rw[eE]
theorem yk {cs:af}{fr:Int}(h:Rw [.sl [.sl [tI]]] cs)(h0:0<=fr)(h1:fr<cs.length):fC (.s 1 cs) [(fr.toNat,0)]=some (1,aw cs fr 0):=by
 unfold fC;show(match(cs[fr.toNat]?).map (·,0)with
  | some (rec,o)=>match rec[o]? with
    |some (.s sz es)=>some (sz,es)
    |_=>none
  |none=>none)=_
 rw[uC h h0 h1];rfl
theorem abA {o:af}{n:Int}(h:Rw [tI] o)(n0:0<=n)(n1:n<o.length):∃ rec o',bQ (L.s 1 o) [(n.toNat,0)]=some (rec,o')/\o'+[L.v (Zi Zs 0)].length<=rec.length/\Z7 [L.v (Zi Zs 0)].length (Ym o' rec)=js aj (L.s 1 o) [(n.toNat,0)] 0 [L.v (Zi Zs 0)]:=
 dU (z0:=[.i 0]) (z:=[.i 0]) h.wf (by omega) rfl (by decide)
theorem abB {o:af}{n:Int}(h:Rw [tI,tI,tI,tI] o)(n0:0<=n)(n1:n<o.length):∃ rec o',bQ (L.s 4 o) [(n.toNat,0)]=some (rec,o')/\o'+[L.v (Zi Zs 0),L.v (Zi Zs 0),L.v (Zi Zs 0),L.v (Zi Zs 0)].length<=rec.length/\Z7 [L.v (Zi Zs 0),L.v (Zi Zs 0),L.v (Zi Zs 0),L.v (Zi Zs 0)].length (Ym o' rec)=js aj (L.s 4 o) [(n.toNat,0)] 0 [L.v (Zi Zs 0),L.v (Zi Zs 0),L.v (Zi Zs 0),L.v (Zi Zs 0)]:=
 dU (z0:=[.i 0,.i 0,.i 0,.i 0]) (z:=[.i 0,.i 0,.i 0,.i 0]) h.wf (by omega) rfl (by decide)
theorem Nt {o:af}{n:Int}{j:Nat}(h:Rw [tI,tI,tI,tI] o)(n0:0<=n)(n1:n<o.length)(hj:j<4):∃ rec o',bQ (L.s 4 o) [(n.toNat,j)]=some (rec,o')/\o'+[L.v (Zi Zs 0)].length<=rec.length/\Z7 [L.v (Zi Zs 0)].length (Ym o' rec)=js aj (L.s 4 o) [(n.toNat,j)] 0 [L.v (Zi Zs 0)]:=by
 rcases(show j=0\/j=1\/j=2\/j=3 by omega)with rfl|rfl|rfl|rfl
 ·exact dU (z0:=[.i 0,.i 0,.i 0,.i 0]) (z:=[.i 0]) h.wf (by omega) rfl (by decide)
 ·exact dU (z0:=[.i 0,.i 0,.i 0,.i 0]) (z:=[.i 0]) h.wf (by omega) rfl (by decide)
 ·exact dU (z0:=[.i 0,.i 0,.i 0,.i 0]) (z:=[.i 0]) h.wf (by omega) rfl (by decide)
 ·exact dU (z0:=[.i 0,.i 0,.i 0,.i 0]) (z:=[.i 0]) h.wf (by omega) rfl (by decide)
theorem NS (g:qj s)(v:nU s ad i):Kf s ad=ag s i 1:=by unfold Kf;rw[(j6 g v).1]
theorem NR (g:qj s)(v:nU s ad i):Ke s D t ad=pw (aw D t 0) (ag s i 1) ad:=by unfold Ke;rw[NS g v]
theorem acE (g:qj s)(v:nU s ad i)(h:Rw [.sl [.sl [tI]]] D)(t0:0<=t)(t1:t<D.length)(b:pw (aw D t 0) (ag s i 1) ad=true):jq (.s 1 D) [(t.toNat,0)] [.s 1 (F7 (aw D t 0) (ag s i 1) ad)]=D.set t.toNat [.s 1 (x7 (aw D t 0) (Kf s ad) ad)]:=by
 rw[ac8 h t0 t1,TA b,NS g v]
end
section
variable {k: Bool} {c t: Int} {m: af}
theorem Og (h:inR t 0 (m.length-1)=false):t0B k c t m=false:=by unfold t0B;rw[h];simp
theorem Oh (h:c=100000):t0B k c t m=false:=by unfold t0B;rw[VQ (p:=c≠100000) (fun n=>n h)];simp
theorem JK (h:inR t 0 (m.length-1)=true)(g:c≠100000):t0B k c t m=k:=by unfold t0B;rw[h,VP g];simp
theorem acX (h:k=false):t0B k c t m=false:=by unfold t0B;rw[h];rfl
end
section
variable {ls: af} {k n: Int}
end
end Go.V
namespace Go.V
section
variable {ls: af} {k n: Int}
end
section
variable {c: af}
end
def fxD (D:af)(t:Int):Nat->af
 |0=>D
 |n+1=>(fxD D t n).set t.toNat [.s 1 (clK (aw (fxD D t n) t 0) n 8)]
def fuL (D:af)(t:Int):af:=Cr (aw D t 0) 4
section
variable {D: af} {t: Int} {n B: Nat}
end
section
variable {a0 a1 a2: af} {a3: Int} {a4 a5 a6 a7 a8 a9 aA aB: af} {aC: Int} {aD: af} {aE aF aG aH: Int} {aI: Bool} {aJ aK: Int} {aL: af} {aM aN t: Int}
structure FuT (a9:af)(t:Int)(z:AA):Prop where
 t0:0<=t
 t1:t<a9.length
 k:caOk (aw a9 t 0)=true
 d:AL (fuL a9 t)
 q:FqI (fuL a9 t) 0 z
 l:(fuL a9 t).length<=32
 c:CdI a9 a9.length 1000000000
end
structure FuO (me:Bool)(kp mv t:Int)(D:af)(s:AA)(k n:Int)(c u e f z x:af):Prop where
 en:n=(Cr (aw D t 0) k.toNat).length
 p:TkP me kp mv (fuL D t) s n c u e f z
 x:x=fxD D t k.toNat
structure FuN (me:Bool)(kp mv t:Int)(D:af)(s:AA)(k i n:Int)(c u e f z:af):Prop where
 en:n=(Cr (aw D t 0) k.toNat).length+i
 p:TkP me kp mv (fuL D t) s n c u e f z
section
variable {me: Bool} {kp mv t k n i: Int} {D c u e f z x c0 u0 e0 f0 z0: af} {s: AA}
end
section
variable {a0 a1 a2: af} {a3: Int} {a4 a5 a6 a7 a8 a9 aA aB: af} {aC: Int} {aD: af} {aE aF aG aH: Int} {aI: Bool} {aJ aK: Int} {aL: af} {aM aN t k i n m: Int} {c u e f s x c1 u1 e1 f1 s1: af}
end
end Go.V
namespace Go.V
theorem IY {sp lg:af}{a s:Int}(h:okO sp lg a s=true)(c:clsOf s<0):0<=k9 lg a/\k9 lg a<lg.length/\ag lg (k9 lg a) 0*16=a:=by
 unfold okO at h;simp only[Zc,Z4,VR]at h;obtain⟨o,⟨k,e⟩|⟨k,e⟩⟩:=h
 ·exfalso;obtain⟨d,q,l,t⟩:=HK k;have b:=be.1 (li (sK.1 t).1).2.2.1;rw[d]at e;omega
 ·unfold dnK at k;by_cases z:0<=gn sp a
  ·rw[VT z]at k;split at k<;>omega
  ·rw[VU z]at k;by_cases y:0<=k9 lg a
   ·have p:=fV (p:=yq lg a) (n:=lg.length) y;unfold dnO at o;rw[VU z,VT y]at o;unfold SF loI at o;have p2:lhB (ag lg (k9 lg a) 0) (ag lg (k9 lg a) 1) (ag lg (k9 lg a) 2) a=true:=p.2;rw[VT p2]at o;exact⟨y,p.1,by omega⟩
   ·rw[VU y]at k;omega
structure LfT (a5 a7:af)(ad:Int):Prop where
 k0:0<=lhI a7 ad
 k1:lhI a7 ad<a7.length
 p:J9 a7 ad*16=ad
 p0:0<=J9 a7 ad
 n1:1<=LA a7 ad
 m:J9 a7 ad+LA a7 ad<=32
 f:a5.length<=32
section
variable {a0 a1 a2: af} {a3: Int} {a4 a5 a6 a7 a8 a9 aA aB: af} {aC: Int} {aD: af} {aE aF aG aH: Int} {aI: Bool} {aJ aK: Int} {aL: af} {aM aN t ad i: Int} {c u e f s x: af}
theorem Qx (h:hpI a0 a1 a2 a3 a4 a5 a6 a7 a8 a9 aA aB aC aD aE aF aG aH aI aJ aK aL aM aN=true)(F:FoT a2 a6 a7 a8 a9 ad)(c:lc a8 ad<0):LfT a5 a7 ad:=by
 have T:=gB h;have L:=LC T.l;obtain⟨y,y1,ye⟩:=IY F.ok c;have k0:0<=lhI a7 ad:=by
  have g:=ma (L.l (k9 a7 ad).toNat (by omega));rw[Zr y]at g;have n:=oP g.1;refine vQ (p:=Bq a7 ad) (i:=(k9 a7 ad).toNat) (by omega) ?_;unfold Bq pmB;rw[Zr y];have q:bO .mul Za (ag a7 (k9 a7 ad) 0) 16=ag a7 (k9 a7 ad) 0*16:=wh (by omega);rw[q,ye];exact VP rfl
 have kk:=afm k0;have g:=ma (L.l (lhI a7 ad).toNat (by omega));rw[Zr k0]at g;have n:=oP g.1;have q:bO .mul Za (ag a7 (lhI a7 ad) 0) 16=ag a7 (lhI a7 ad) 0*16:=wh (by omega);exact⟨k0,kk.1,by unfold J9;have:=kk.2;omega,g.2.2.1,by unfold LA;omega,by unfold J9 LA;omega,aao h⟩
theorem M8 (h:Rw [tI,tI,tI,tI] a8):Rw [tI,tI,tI,tI] (foO a8 ad)/\ap (foO a8 ad)<=ap a8:=by
 have d:=uE (i:=obI a8 ad) (j:=obI a8 ad+1) h (by omega);exact⟨d.1,by show ap (delL _ _ _)<=_;rw[d.1.cnt rfl,h.cnt rfl];exact d.2⟩
theorem aaj (hc:lq a0 a1 a2 a4 a5 a6 a7 a8 a9 aA aB aD aL)(S:SQ a0 a1 a2 a6 a8 ad):lq (fcC a0 a2 a8 ad) a1 a2 a4 a5 a6 a7 (foO a8 ad) a9 aA aB aD aL:=by
 have n:=uI S.m S.w hc.r1 hc.r2;have o:=M8 (ad:=ad) hc.r8;have c8:=hc.c8;exact {hc with r0:=S.w,c0:=by omega,r8:=o.1,c8:=by omega}
theorem acz {rm:Int}{qs:af}(h:quarOk rm qs=true):qs.length<=500:=by
 unfold quarOk at h;simp only[Zc,VR]at h;have r:=be.1 h.2.1;have q:∀ n:Nat,n<=qs.length->(n:Int)<=Kd qs n:=fun n=>by
  induction n with
  |zero=>intro _;exact Yg _
  | succ n ih=>
    intro hn;have a:=dh.1 h.1 n (by omega) (by omega);unfold Rk stlOk at a;simp only[Zc]at a;have c:=Hu a.1;have:=ih (by omega);rw[Kd];rcases c with c|c|c|c<;>omega
 have:=q qs.length (Ze _);have e:qcI qs=Kd qs qs.length:=rfl;omega
structure FqT (a8 a9:af)(aC:Int)(aD:af)(aF t ad:Int)(z:AA):Prop where
 t0:0<=t
 t1:t<a9.length
 d:AL (fqR a8 aC aD aF ad)
 q:OO (fqR a8 aC aD aF ad) a9.length 1000000000 0 ⟨z,a9⟩
 l:(fqR a8 aC aD aF ad).length<=501
 w:Rw [tI,tI,tI] (fqL a8 aC aD aF ad)
 wl:(fqL a8 aC aD aF ad).length<=501
 r:Rw [tI,tI,tI] (fqR a8 aC aD aF ad)
theorem PR (hc:lq a0 a1 a2 a4 a5 a6 a7 a8 a9 aA aB aD aL)(h9:ap a9<=1000000000)(h:hpI a0 a1 a2 a3 a4 a5 a6 a7 a8 a9 aA aB aC aD aE aF aG aH aI aJ aK aL aM aN=true)(S:SQ a0 a1 a2 a6 a8 ad)(g:inR t 0 (a9.length-1)=true):FqT a8 a9 aC aD aF t ad ⟨fcC a0 a2 a8 ad,a1,a2,a5,a6⟩:=by
 have T:=gB h;have r:=be.1 g;have q:=aar hc h9 h S;have l:=acz T.q;have ck:=be.1 T.t;have d0:=S.d0;have d1:=S.d1;have wk: -9223372036854775808<=lc a8 ad/\lc a8 ad<=9223372036854775807:=by
  unfold lc clsOf;repeat' split
  all_goals omega
 have wa:Rw [tI,tI,tI] (aD++[BU ad (lc a8 ad) aF]):=Rw.append hc.r13 (Rw.one (show bR [tI,tI,tI] (BU ad (lc a8 ad) aF)from⟨⟨rfl,show-9223372036854775808<=ad/\ad<=9223372036854775807 from by omega⟩,⟨rfl,wk⟩,⟨rfl,show-9223372036854775808<=aF/\aF<=9223372036854775807 from by omega⟩,trivial⟩)) (by unfold maxLen;simp only[Zj,Zk];omega);have w:Rw [tI,tI,tI] (fqL a8 aC aD aF ad)/\(fqL a8 aC aD aF ad).length<=501/\Rw [tI,tI,tI] (fqR a8 aC aD aF ad):=by
  unfold fqL fqR;cases b:Gx aC aD ad (lc a8 ad) aF with
  |false=>rw[(Je b).1,(Je b).2];exact⟨hc.r13,by omega,Rw.nil⟩
  | true=>
    rw[(LZ b).1,(LZ b).2];exact⟨Rw.drop wa _,by rw[Zn,Zf];simp only[Zj,Zk];omega,Rw.take wa _⟩
 exact⟨r.1,by omega,q.1,q.2.1,by omega,w.1,w.2.1,w.2.2⟩
theorem HY (hc:lq a0 a1 a2 a4 a5 a6 a7 a8 a9 aA aB aD aL)(h:hpI a0 a1 a2 a3 a4 a5 a6 a7 a8 a9 aA aB aC aD aE aF aG aH aI aJ aK aL aM aN=true)(hn:a3≠100000)(S:SQ a0 a1 a2 a6 a8 ad)(T:FqT a8 a9 aC aD aF t ad ⟨fcC a0 a2 a8 ad,a1,a2,a5,a6⟩) 
 (P:G7 aI aJ aK t (fqR a8 aC aD aF ad) ⟨⟨fcC a0 a2 a8 ad,a1,a2,a5,a6⟩,a9⟩ i c u e f s x) (i0:0<=i) (i1:i<(fqR a8 aC aD aF ad).length):
 lq c u e a4 f s a7 (foO a8 ad) x aA aB (fqL a8 aC aD aF ad) aL/\kerOk c u e a3 a4=true/\a3≠100000/\f.length<=65/\qj s/\(∃ k,nU s (ag (fqR a8 aC aD aF ad) i 0) k)/\0<=t/\t<x.length:=by
 have I:=Rv (me:=aI) (kp:=aJ) (mv:=aK) T.d T.q T.t0 T.t1 i.toNat (by omega);rw[<-NQ P]at I;have k:=jt (gB h).k;have wl:=T.wl;have H:=Na (b13:=fqL a8 aC aD aF ad) (aaj hc S) I.fr T.w (by omega);have D:=I.d;have dw:=D.w;have dl:=D.l;have dc:=D.c;have tl:=T.l;have t0:=T.t0;have t1:=T.t1;simp only at dw dl dc;obtain⟨j,v⟩:=I.q i.toNat (Ze _) (by omega);rw[Zr i0]at v;exact⟨{H with r9:=dw,c9:=by omega},v5 I.fr.m k.2.1 k.2.2.1 k.2.2.2,hn,I.fr.lf,I.fr.g,⟨j,v⟩,t0,by omega⟩
end
def hfK (k:Bool)(c:Int)(es sp lg os m b x:af)(t ad:Int):Int:=
 if k=false\/c=100000 then 6 else if inR t 0 (m.length-1)=false then 1 else if obI os ad<0 then Nn sp lg ad else if lc os ad<0 then 0 else if peM es (ad/16)=1 then 5 else if t=foT os ad then 0 else if sdB b x t (foT os ad) ad=true then 0 else 5
section
variable {k g: Bool} {c t ad: Int} {es sp lg os m b x: af}
theorem PI (h:g=false):fbL g os ad=false/\fbP g es os b x t ad=false/\fbQ g es os t ad=false:=by
 subst h;exact⟨rfl,rfl,rfl⟩
theorem KS (h:obI os ad<0):fbL g os ad=false/\fbP g es os b x t ad=false/\fbQ g es os t ad=false:=by
 have q:PN g os ad=false:=by unfold PN;rw[VQ (p:=0<=obI os ad) (by omega)];simp
 unfold fbL fbP fbQ PH;rw[q];exact⟨rfl,rfl,rfl⟩
theorem aee (h:g=true)(o:0<=obI os ad)(c:lc os ad<0):fbL g os ad=true/\fbP g es os b x t ad=false/\fbQ g es os t ad=false:=by
 unfold fbL fbP fbQ PH PN;rw[h,VP o,VP c,VQ (p:=0<=lc os ad) (by omega)];exact⟨rfl,rfl,rfl⟩
theorem aei (c:0<=lc os ad)(r:peM es (ad/16)=1):fbL g os ad=false/\fbP g es os b x t ad=false/\fbQ g es os t ad=false:=by
 unfold fbL fbP fbQ PH;rw[VQ (p:=lc os ad<0) (by omega),VQ (p:=peM es (ad/16)≠1) (fun n=>n r)];simp
theorem aef (c:0<=lc os ad)(n:t≠foT os ad)(s:sdB b x t (foT os ad) ad=false):fbL g os ad=false/\fbP g es os b x t ad=false/\fbQ g es os t ad=false:=by
 unfold fbL fbP fbQ;rw[VQ (p:=lc os ad<0) (by omega),VQ (p:=t=foT os ad) n,s];simp
theorem aeg (h:g=true)(o:0<=obI os ad)(c:0<=lc os ad)(r:peM es (ad/16)≠1)(n:t≠foT os ad)(s:sdB b x t (foT os ad) ad=true):fbL g os ad=false/\fbP g es os b x t ad=true/\fbQ g es os t ad=false:=by
 unfold fbL fbP fbQ PH PN;rw[h,VP o,VP c,VQ (p:=lc os ad<0) (by omega),VP r,VP n,VQ (p:=t=foT os ad) n,s];exact⟨rfl,rfl,rfl⟩
theorem aeh (h:g=true)(o:0<=obI os ad)(c:0<=lc os ad)(r:peM es (ad/16)≠1)(n:t=foT os ad):fbL g os ad=false/\fbP g es os b x t ad=false/\fbQ g es os t ad=true:=by
 unfold fbL fbP fbQ PH PN;rw[h,VP o,VP c,VQ (p:=lc os ad<0) (by omega),VP r,VP n,VQ (p:=t≠foT os ad) (fun z=>z n)];exact⟨rfl,rfl,rfl⟩
theorem Nk (h:k=false\/c=100000):hfK k c es sp lg os m b x t ad=6:=by unfold hfK;rw[VT h]
theorem C7 (h:k=true)(n:c≠100000):¬ (k=false\/c=100000):=by rw[h];rintro(q|q);cases q;exact n q
theorem aaJ (h:k=true)(n:c≠100000)(i:inR t 0 (m.length-1)=false):hfK k c es sp lg os m b x t ad=1:=by unfold hfK;rw[VU (C7 h n),VT i]
theorem Gd (i:inR t 0 (m.length-1)=true):¬ inR t 0 (m.length-1)=false:=by rw[i];exact Xj
theorem EZ (h:k=true)(n:c≠100000)(i:inR t 0 (m.length-1)=true)(o:obI os ad<0):hfK k c es sp lg os m b x t ad=Nn sp lg ad:=by unfold hfK;rw[VU (C7 h n),VU (Gd i),VT o]
theorem aaK (h:k=true)(n:c≠100000)(i:inR t 0 (m.length-1)=true)(o:0<=obI os ad)(l:lc os ad<0):hfK k c es sp lg os m b x t ad=0:=by unfold hfK;rw[VU (C7 h n),VU (Gd i),VU (by omega),VT l]
theorem aaO (h:k=true)(n:c≠100000)(i:inR t 0 (m.length-1)=true)(o:0<=obI os ad)(l:0<=lc os ad)(r:peM es (ad/16)=1):hfK k c es sp lg os m b x t ad=5:=by unfold hfK;rw[VU (C7 h n),VU (Gd i),VU (by omega),VU (by omega),VT r]
theorem aaN (h:k=true)(n:c≠100000)(i:inR t 0 (m.length-1)=true)(o:0<=obI os ad)(l:0<=lc os ad)(r:peM es (ad/16)≠1)(q:t=foT os ad):hfK k c es sp lg os m b x t ad=0:=by unfold hfK;rw[VU (C7 h n),VU (Gd i),VU (by omega),VU (by omega),VU r,VT q]
theorem aaM (h:k=true)(n:c≠100000)(i:inR t 0 (m.length-1)=true)(o:0<=obI os ad)(l:0<=lc os ad)(r:peM es (ad/16)≠1)(q:t≠foT os ad)(s:sdB b x t (foT os ad) ad=true):hfK k c es sp lg os m b x t ad=0:=by unfold hfK;rw[VU (C7 h n),VU (Gd i),VU (by omega),VU (by omega),VU r,VU q,VT s]
theorem aaL (h:k=true)(n:c≠100000)(i:inR t 0 (m.length-1)=true)(o:0<=obI os ad)(l:0<=lc os ad)(r:peM es (ad/16)≠1)(q:t≠foT os ad)(s:sdB b x t (foT os ad) ad=false):hfK k c es sp lg os m b x t ad=5:=by unfold hfK;rw[VU (C7 h n),VU (Gd i),VU (by omega),VU (by omega),VU r,VU q,VU (by rw[s];exact Xj)]
end
end Go.V
namespace Go.V
section
variable {rm a c s i: Int} {qs: af}
theorem acq (h:quarOk rm qs=false):Gx rm qs a c s=false:=by unfold Gx;rw[h];rfl
theorem acr (h:stlOk qs a c s=false):Gx rm qs a c s=false:=by unfold Gx;rw[h];simp
theorem acs (h:quarOk rm qs=true)(g:stlOk qs a c s=true):Gx rm qs a c s=true:=by unfold Gx;rw[h,g];rfl
theorem Re:((qs++[BU a c s]).length:Int)=qs.length+1:=by rw[Zf];rfl
theorem acp (w:Rw [tI,tI,tI] qs)(l:qs.length<=1073741823)(ha: -9223372036854775808<=a/\a<=9223372036854775807)(hc: -9223372036854775808<=c/\c<=9223372036854775807)(hs: -9223372036854775808<=s/\s<=9223372036854775807):Rw [tI,tI,tI] (qs++[BU a c s]):=
 Rw.append w (Rw.one (show bR [tI,tI,tI] (BU a c s)from⟨⟨rfl,ha⟩,⟨rfl,hc⟩,⟨rfl,hs⟩,trivial⟩)) (by unfold maxLen;simp only[Zj,Zk];omega)
end
theorem afL {rm:Int}{qs:af}(h:quarOk rm qs=true):inR rm 0 500=true:=by
 unfold quarOk at h;simp only[Zc]at h;exact h.2.1
def gi1 (l:af)(i:Int):Int:=ag l i 1
def lgC (c u e l:af)(ad:Int):af:=duC c u e (J9 l ad) (LA l ad)
def lgU (c u e l:af)(ad:Int):af:=duU c u e (J9 l ad) (LA l ad)
def lgE (c u e l:af)(ad:Int):af:=duE c u e (J9 l ad) (LA l ad)
def lgF (c u e f l:af)(ad:Int):af:=rpL (zlI (lgE c u e l ad)) f (J9 l ad) (LA l ad)
def lgL (l:af)(ad:Int):af:=delL l (lhI l ad) (lhI l ad+1)
end Go.V
namespace Go.V
section
variable {a0 a1 a2: af} {a3: Int} {a4 a5 a6 a7 a8 a9 aA aB: af} {aC: Int} {aD: af} {aE aF aG aH: Int} {aI: Bool} {aJ aK: Int} {aL: af} {aM aN t ad: Int}
theorem IE (hc:lq a0 a1 a2 a4 a5 a6 a7 a8 a9 aA aB aD aL):lq a0 a1 a2 a4 a5 a6 (lgL a7 ad) (foO a8 ad) a9 aA aB aD aL:=by
 have l:=uE (i:=lhI a7 ad) (j:=lhI a7 ad+1) hc.r7 (by omega);have o:=M8 (ad:=ad) hc.r8;have c7:=hc.c7;have c8:=hc.c8;exact {hc with r7:=l.1,c7:=by show ap (delL _ _ _)<=_;rw[l.1.cnt rfl];rw[hc.r7.cnt rfl]at c7;omega,r8:=o.1,c8:=by omega}
theorem aaq (h:Rw [tI,tI,tI,tI] a8)(k0:0<=obI a8 ad)(k1:obI a8 ad<a8.length):(-9223372036854775808<=foT a8 ad/\foT a8 ad<=9223372036854775807)/\ -9223372036854775808<=lc a8 ad/\lc a8 ad<=9223372036854775807:=by
 refine⟨yl h (j:=3) rfl (by omega),?_⟩;unfold lc clsOf;repeat' split
 all_goals omega
theorem ab1 (k0:0<=obI a8 ad):obI a8 ad<a8.length:=(fV (p:=Br a8 ad) (n:=a8.length) k0).1
end
end Go.V
namespace Go.V
theorem Ll {us es rs:af}{c p:Int}:(E7 us es c rs p).length=us.length:=by unfold E7;split<;>simp
theorem E6 {us es rs:af}{c p:Int}:(Dn us es c rs p).length=es.length:=by
 unfold Dn;split;exact rt;rfl
theorem afa {us es rs:af}{c p:Int}(h:tx us es c rs p=false):E7 us es c rs p=us/\Dn us es c rs p=es:=by unfold E7 Dn;rw[h];exact⟨rfl,rfl⟩
theorem afb {us es rs:af}{c p:Int}(h:tx us es c rs p=true):E7 us es c rs p=us.set (dJ us).toNat [.v (.bool true)]/\Dn us es c rs p=xu es p 2 (dJ us):=by unfold E7 Dn;rw[VT h,VT h];exact⟨rfl,rfl⟩
theorem ae6 {us es rs:af}{c p:Int}(h:hasB rs c=true):tx us es c rs p=false:=by unfold tx;rw[h];rfl
theorem ae7 {us es rs:af}{c p:Int}(h:dJ us<0):tx us es c rs p=false:=by unfold tx;rw[VQ (p:=0<=dJ us) (by omega)];simp
theorem ae8 {us es rs:af}{c p:Int}(h:inR p 0 (es.length-1)=false):tx us es c rs p=false:=by unfold tx;rw[h];simp
theorem ae9 {us es rs:af}{c p:Int}(h:peM es p≠0):tx us es c rs p=false:=by unfold tx;rw[VQ h];simp
theorem afc {us es rs:af}{c p:Int}(h1:hasB rs c=false)(h2:0<=dJ us)(h3:inR p 0 (es.length-1)=true)(h4:peM es p=0):tx us es c rs p=true:=by unfold tx;rw[h1,h3,VP h2,VP h4];rfl
structure U2 where
 u:af
 e:af
def Az (a1 a2:af)(c:Int)(rs:af)(t:Int):Nat->U2
 |0=>⟨a1,a2⟩
 |n+1=>⟨E7 (Az a1 a2 c rs t n).u (Az a1 a2 c rs t n).e (c+n) rs (t+n),Dn (Az a1 a2 c rs t n).u (Az a1 a2 c rs t n).e (c+n) rs (t+n)⟩
theorem J4 {a1 a2 rs:af}{c t:Int}{n:Nat}:Az a1 a2 c rs t (n+1)=⟨E7 (Az a1 a2 c rs t n).u (Az a1 a2 c rs t n).e (c+n) rs (t+n),Dn (Az a1 a2 c rs t n).u (Az a1 a2 c rs t n).e (c+n) rs (t+n)⟩:=rfl
def xqB (a1 a2:af)(c:Int)(rs:af)(t i:Int):Bool:=tx (Az a1 a2 c rs t i.toNat).u (Az a1 a2 c rs t i.toNat).e (c+i) rs (t+i)
def xqF (a1 a2:af)(c:Int)(rs:af)(t n:Int):Int:=cQ (cR (xqB a1 a2 c rs t)) n.toNat
structure AO (a0 a1 a2:af)(c:Int)(rs:af)(t i:Int)(u e:af):Prop where
 m:lM a0 u e
 ru:Rw [tB] u
 re:Rw [tI,tI] e
 l:e.length=a2.length
 lu:u.length=a1.length
 eu:u=(Az a1 a2 c rs t i.toNat).u
 ee:e=(Az a1 a2 c rs t i.toNat).e
 g:upto (cR (cR (xqB a1 a2 c rs t))) i
section
variable {a0 a1 a2 rs u e: af} {c t i n: Int}
theorem adK (m:lM a0 a1 a2)(ru:Rw [tB] a1)(re:Rw [tI,tI] a2):AO a0 a1 a2 c rs t 0 a1 a2:=⟨m,ru,re,rfl,rfl,rfl,rfl,cg⟩
theorem Ox (h:AO a0 a1 a2 c rs t i u e):tx u e (c+i) rs (t+i)=xqB a1 a2 c rs t i:=by unfold xqB;rw[<-h.eu, <-h.ee]
theorem R6 (h:AO a0 a1 a2 c rs t i u e)(i0:0<=i)(b:tx u e (c+i) rs (t+i)=true):AO a0 a1 a2 c rs t (i+1) (E7 u e (c+i) rs (t+i)) (Dn u e (c+i) rs (t+i)):=by
 have k:=(h.m).u;have k2:=h.m.n1;have w:=Nq (c:=c+i) (rs:=rs) (p:=t+i) h.ru h.re (by omega);have s:(i+1).toNat=i.toNat+1:=by omega
 have q:((i.toNat:Nat):Int)=i:=by omega
 refine⟨abq h.m,w.1,w.2,by rw[E6];exact h.l,by rw[Ll];exact h.lu,?_,?_,bN h.g (gj ?_)⟩
 ·rw[s,J4,q, <-h.eu, <-h.ee]
 ·rw[s,J4,q, <-h.eu, <-h.ee]
 ·show cR (xqB a1 a2 c rs t) i=false;unfold cR;rw[<-Ox h,b];rfl
theorem R5 (h:AO a0 a1 a2 c rs t i u e)(i0:0<=i)(i1:i<n)(b:tx u e (c+i) rs (t+i)=false):xqF a1 a2 c rs t n=i:=
 dI h.g i0 (by omega) (gj (by rw[<-Ox h];exact b))
theorem MB (h:AO a0 a1 a2 c rs t i u e)(i1:n<=i)(i0:0<=i):xqF a1 a2 c rs t n= -1:=eN h.g (by omega)
theorem FX (m:lM a0 a1 a2)(ru:Rw [tB] a1)(re:Rw [tI,tI] a2):∀ k:Nat,lM a0 (Az a1 a2 c rs t k).u (Az a1 a2 c rs t k).e/\Rw [tB] (Az a1 a2 c rs t k).u/\Rw [tI,tI] (Az a1 a2 c rs t k).e/\(Az a1 a2 c rs t k).e.length=a2.length
 |0=>⟨m,ru,re,rfl⟩
 | k+1=>by
   obtain⟨q1,q2,q3,q4⟩:=FX m ru re k;have k1:=q1.u;have k2:=q1.n1;have w:=Nq (c:=c+k) (rs:=rs) (p:=t+k) q2 q3 (by omega);exact⟨abq q1,w.1,w.2,by rw[J4];show(Dn _ _ _ _ _).length=_;rw[E6];exact q4⟩
end
def xq (a2 a5:af)(n:Int):Int:=tkA (zlI a2) a5 n
def MA (a1 a2:af)(a3:Int)(a4 a5:af)(n:Int):Int:=xqF a1 a2 a3 a4 (xq a2 a5 n) n
def Ot (a1 a2:af)(a3:Int)(a4 a5:af)(n:Int):Int:=if tkB (zlI a2) a5 n=true then(if MA a1 a2 a3 a4 a5 n<0 then n else MA a1 a2 a3 a4 a5 n)else 0
def Kh (a1 a2:af)(a3:Int)(a4 a5:af)(n:Int):Int:=if tkB (zlI a2) a5 n=true then(if MA a1 a2 a3 a4 a5 n<0 then 0 else MA a1 a2 a3 a4 a5 n)else 0
def xpB (a1 a2:af)(a3:Int)(a4 a5:af)(n:Int):Bool:=tkB (zlI a2) a5 n&&decide (MA a1 a2 a3 a4 a5 n<0)
def GX (a1 a2:af)(a3:Int)(a4 a5:af)(n:Int):U2:=Az a1 a2 a3 a4 (xq a2 a5 n) (Ot a1 a2 a3 a4 a5 n).toNat
def xpC (a0 a1 a2:af)(a3:Int)(a4 a5:af)(n:Int):af:=duC a0 (GX a1 a2 a3 a4 a5 n).u (GX a1 a2 a3 a4 a5 n).e (xq a2 a5 n) (Kh a1 a2 a3 a4 a5 n)
def xpU (a0 a1 a2:af)(a3:Int)(a4 a5:af)(n:Int):af:=duU a0 (GX a1 a2 a3 a4 a5 n).u (GX a1 a2 a3 a4 a5 n).e (xq a2 a5 n) (Kh a1 a2 a3 a4 a5 n)
def xpE (a0 a1 a2:af)(a3:Int)(a4 a5:af)(n:Int):af:=duE a0 (GX a1 a2 a3 a4 a5 n).u (GX a1 a2 a3 a4 a5 n).e (xq a2 a5 n) (Kh a1 a2 a3 a4 a5 n)
def xpK (a1 a2:af)(a3:Int)(a4 a5:af)(n:Int):Int:=if tkB (zlI a2) a5 n=true then(if MA a1 a2 a3 a4 a5 n<0 then a3+n else a3+MA a1 a2 a3 a4 a5 n+1)else a3
def xpF (a1 a2:af)(a3:Int)(a4 a5:af)(n:Int):af:=if xpB a1 a2 a3 a4 a5 n=true then tkL (zlI a2) a5 n else a5
def xpA (a1 a2:af)(a3:Int)(a4 a5:af)(n:Int):Int:=if xpB a1 a2 a3 a4 a5 n=true then xq a2 a5 n else-1
section
variable {a0 a1 a2: af} {a3: Int} {a4 a5 u e c' u' e': af} {n i: Int}
theorem adF (h:tkB (zlI a2) a5 n=false):xpC a0 a1 a2 a3 a4 a5 n=a0/\xpU a0 a1 a2 a3 a4 a5 n=a1/\xpE a0 a1 a2 a3 a4 a5 n=a2/\xpK a1 a2 a3 a4 a5 n=a3/\xpF a1 a2 a3 a4 a5 n=a5/\xpA a1 a2 a3 a4 a5 n= -1/\xpB a1 a2 a3 a4 a5 n=false:=by
 have d:Kh a1 a2 a3 a4 a5 n=0:=by unfold Kh;rw[h];rfl
 have j:Ot a1 a2 a3 a4 a5 n=0:=by unfold Ot;rw[h];rfl
 have b:xpB a1 a2 a3 a4 a5 n=false:=by unfold xpB;rw[h];rfl
 have v:GX a1 a2 a3 a4 a5 n=⟨a1,a2⟩:=by unfold GX;rw[j];rfl
 refine⟨?_,?_,?_,?_,?_,?_,b⟩
 ·unfold xpC;rw[d,v];exact F9.1
 ·unfold xpU;rw[d,v];exact(F9 (c:=a0)).2.1
 ·unfold xpE;rw[d,v];exact(F9 (c:=a0) (u:=a1)).2.2
 ·unfold xpK;rw[h];rfl
 ·unfold xpF;rw[b];rfl
 ·unfold xpA;rw[b];rfl
theorem agk (h:tkB (zlI a2) a5 n=true)(p:AO a0 a1 a2 a3 a4 (xq a2 a5 n) i u e)(i0:0<=i)(i1:n<=i)(i2:i<=n):xpC a0 a1 a2 a3 a4 a5 n=a0/\xpU a0 a1 a2 a3 a4 a5 n=u/\xpE a0 a1 a2 a3 a4 a5 n=e/\xpK a1 a2 a3 a4 a5 n=a3+n/\xpF a1 a2 a3 a4 a5 n=tkL (zlI a2) a5 n/\xpA a1 a2 a3 a4 a5 n=xq a2 a5 n/\xpB a1 a2 a3 a4 a5 n=true:=by
 have f:MA a1 a2 a3 a4 a5 n= -1:=MB p i1 i0;have d:Kh a1 a2 a3 a4 a5 n=0:=by unfold Kh;rw[VT h,f];rfl
 have j:Ot a1 a2 a3 a4 a5 n=n:=by unfold Ot;rw[VT h,f];rfl
 have b:xpB a1 a2 a3 a4 a5 n=true:=by unfold xpB;rw[h,f];rfl
 have v:GX a1 a2 a3 a4 a5 n=⟨u,e⟩:=by
  unfold GX;rw[j,p.eu,p.ee,show i=n by omega]
 refine⟨?_,?_,?_,?_,?_,?_,b⟩
 ·unfold xpC;rw[d,v];exact F9.1
 ·unfold xpU;rw[d,v];exact(F9 (c:=a0)).2.1
 ·unfold xpE;rw[d,v];exact(F9 (c:=a0) (u:=u)).2.2
 ·unfold xpK;rw[VT h,f];rfl
 ·unfold xpF;rw[VT b]
 ·unfold xpA;rw[VT b]
theorem agj (h:tkB (zlI a2) a5 n=true)(p:AO a0 a1 a2 a3 a4 (xq a2 a5 n) i u e)(i0:0<=i)(i1:i<n)(g:tx u e (a3+i) a4 (xq a2 a5 n+i)=false):xpC a0 a1 a2 a3 a4 a5 n=duC a0 u e (xq a2 a5 n) i/\xpU a0 a1 a2 a3 a4 a5 n=duU a0 u e (xq a2 a5 n) i/\xpE a0 a1 a2 a3 a4 a5 n=duE a0 u e (xq a2 a5 n) i/\xpK a1 a2 a3 a4 a5 n=a3+i+1/\xpF a1 a2 a3 a4 a5 n=a5/\xpA a1 a2 a3 a4 a5 n= -1/\xpB a1 a2 a3 a4 a5 n=false:=by
 have f:MA a1 a2 a3 a4 a5 n=i:=R5 p i0 i1 g;have d:Kh a1 a2 a3 a4 a5 n=i:=by unfold Kh;rw[VT h,f,VU (by omega)]
 have j:Ot a1 a2 a3 a4 a5 n=i:=by unfold Ot;rw[VT h,f,VU (by omega)]
 have b:xpB a1 a2 a3 a4 a5 n=false:=by unfold xpB;rw[h,f,VQ (by omega)];rfl
 have v:GX a1 a2 a3 a4 a5 n=⟨u,e⟩:=by unfold GX;rw[j,p.eu,p.ee]
 refine⟨?_,?_,?_,?_,?_,?_,b⟩
 ·unfold xpC;rw[d,v]
 ·unfold xpU;rw[d,v]
 ·unfold xpE;rw[d,v]
 ·unfold xpK;rw[VT h,f,VU (by omega)]
 ·unfold xpF;rw[b];rfl
 ·unfold xpA;rw[b];rfl
theorem agi (m:lM a0 a1 a2)(rc:Rw [.sl [tI]] a0)(ru:Rw [tB] a1)(re:Rw [tI,tI] a2):lM (xpC a0 a1 a2 a3 a4 a5 n) (xpU a0 a1 a2 a3 a4 a5 n) (xpE a0 a1 a2 a3 a4 a5 n)/\Rw [.sl [tI]] (xpC a0 a1 a2 a3 a4 a5 n)/\Rw [tB] (xpU a0 a1 a2 a3 a4 a5 n)/\Rw [tI,tI] (xpE a0 a1 a2 a3 a4 a5 n)/\(xpE a0 a1 a2 a3 a4 a5 n).length=a2.length/\ap (xpC a0 a1 a2 a3 a4 a5 n)<=1024/\ap (xpU a0 a1 a2 a3 a4 a5 n)<=64/\ap (xpE a0 a1 a2 a3 a4 a5 n)<=64:=by
 have v:=FX (c:=a3) (rs:=a4) (t:=xq a2 a5 n) m ru re (Ot a1 a2 a3 a4 a5 n).toNat;have d:=T8 (t:=xq a2 a5 n) (l:=Kh a1 a2 a3 a4 a5 n) v.1 rc v.2.1 v.2.2.1;exact⟨d.1,d.2.1,d.2.2.1,d.2.2.2.1,d.2.2.2.2.1.trans v.2.2.2,d.2.2.2.2.2⟩
theorem R3 (h:Rw [tI,tI] a5):Rw [tI,tI] (xpF a1 a2 a3 a4 a5 n)/\(xpF a1 a2 a3 a4 a5 n).length<=a5.length:=by
 unfold xpF;split;exact ac0 h;exact⟨h,Ze _⟩
theorem adE (h:xpB a1 a2 a3 a4 a5 n=true):tkB (zlI a2) a5 n=true/\xpA a1 a2 a3 a4 a5 n=xq a2 a5 n/\TkT (zlI a2) a5 n:=by
 have q:=h;unfold xpB at q;rw[Zc]at q;exact⟨q.1,by unfold xpA;rw[VT h],Aa q.1⟩
theorem J2 (h:tkB (zlI a2) a5 n=true):0<=xq a2 a5 n/\xq a2 a5 n+n<=a2.length/\1<=n/\(a2.length:Int)<=32:=by
 have T:=Aa h;have e:xq a2 a5 n=ag a5 (dV a5 n) 0:=by unfold xq tkA;rw[VT h]
 have q1:=T.a0;have q2:=T.l0;have q3:=T.e;have q4:=T.p0;have q5:=T.n0;unfold zlI at q3 q4;omega
end
end Go.V
namespace Go.V
def kwU (k:Bool)(us es:af)(c:Int)(rs:af)(p:Int):af:=if k=true then E7 us es c rs p else us
def kwE (k:Bool)(us es:af)(c:Int)(rs:af)(p:Int):af:=if k=true then Dn us es c rs p else es
def kwB (k:Bool)(us es:af)(c:Int)(rs:af)(p:Int):Bool:=k&&tx us es c rs p
section
variable {cs us es rs: af} {c p n: Int}
theorem sC (h:tx us es c rs p=false):us=kwU true us es c rs p/\es=kwE true us es c rs p/\false=kwB true us es c rs p:=by
 have q:=afa h;refine⟨?_,?_,?_⟩
 ·unfold kwU;rw[VT rfl,q.1]
 ·unfold kwE;rw[VT rfl,q.2]
 ·unfold kwB;rw[h];rfl
theorem Qu (h:tx us es c rs p=true):us.set (dJ us).toNat [.v (.bool true)]=kwU true us es c rs p/\xu es p 2 (dJ us)=kwE true us es c rs p/\true=kwB true us es c rs p:=by
 have q:=afb h;refine⟨?_,?_,?_⟩
 ·unfold kwU;rw[VT rfl,q.1]
 ·unfold kwE;rw[VT rfl,q.2]
 ·unfold kwB;rw[h];rfl
theorem Qr (h:kerOk cs us es c rs=true):framesOk cs us=true:=by
 unfold kerOk at h;simp only[Zc]at h;exact(NB h.1.1).1
theorem aax (f:framesOk cs us=true)(h:ftB cs us=true):ftU cs us=us.set (dJ us).toNat [.v (.bool true)]/\ftI cs us=dJ us/\0<=dJ us/\dJ us<us.length:=by
 have q:=aaw h;have b:=uG (us:=us);exact⟨q.2.2.2,q.2.2.1,by omega,by omega⟩
theorem aay (f:framesOk cs us=true)(h:ftB cs us=false):dJ us<0:=by
 unfold ftB at h;rw[f,Yp]at h;have:=VW h;omega
theorem abO (h:nhR rs c=false):hasB rs c=true:=by unfold nhR at h;simpa using h
theorem abP (h:nhR rs c=true):hasB rs c=false:=by unfold nhR at h;simpa using h
theorem afs (h:mapB es p=false):peM es p=0:=by unfold mapB at h;have:=VW h;omega
theorem acO {m f:Int}(h:Rw [tI,tI] es)(p0:0<=p)(p1:p<es.length):jq (.s 2 es) [(p.toNat,0)] [.i m,.i f]=xu es p m f:=by
 unfold xu;exact eG (by rw[h.eta p0 p1];rfl)
theorem qd {rs o:af}{a:Int}{b:Bool}(h1:tkL p rs n=o/\tkA p rs n=a)(h2:tkB p rs n=b):[DV.one (.s 2 o),DV.j a,DV.k b]=[DV.one (.s 2 (tkL p rs n)),DV.j (tkA p rs n),DV.k (tkB p rs n)]:=by rw[h1.1,h1.2,h2]
theorem Of {o:af}{n:Int}(h:Rw [tI,tI] o)(n0:0<=n)(n1:n<o.length):∃ rec o',bQ (.s 2 o) [(n.toNat,0)]=some (rec,o')/\o'+2<=rec.length:=eS (by omega) (by
 rw[h.eta n0 n1];exact Ze _)
theorem acM {x y:Int}(h:Rw [tI,tI] rs)(p0:0<=p)(p1:p<rs.length):jq (.s 2 rs) [(p.toNat,0)] [.i x,.i y]=rs.set p.toNat [.i x,.i y]:=acO h p0 p1
theorem ac1 {b x y z:Int}{rs:af}(h:Rw [tI,tI] rs)(b0:0<=b)(b1:b<rs.length)(e:ag rs b 1=y)(hx: -9223372036854775808<=x/\x<=9223372036854775807):jq (.s 2 (jq (.s 2 rs) [(b.toNat,0)] [.i x])) [(b.toNat,1)] [.i z]=rs.set b.toNat [.i x,.i z]/\ag (jq (.s 2 rs) [(b.toNat,0)] [.i x]) b 1=y/\jq (.s 2 rs) [(b.toNat,0)] [.i x]=rs.set b.toNat [.i x,.i y]:=by
 have u:=ac6 (x:=.int Za x) h b0 b1;rw[e]at u;have yb: -9223372036854775808<=y/\y<=9223372036854775807:=e▸yl h (j:=1) rfl (by omega);have r:Rw [tI,tI] (rs.set b.toNat [.i x,.i y]):=Rw.set h (show bR [tI,tI] [.i x,.i y]from⟨⟨rfl,hx⟩,⟨rfl,yb⟩,trivial⟩) _;have g:(rs.set b.toNat [.i x,.i y]).getD b.toNat []=[.i x,.i y]:=by rw[mC (by omega),VT rfl]
 have g0:ag (rs.set b.toNat [.i x,.i y]) b 0=x:=by unfold ag;rw[g];rfl
 have g1:ag (rs.set b.toNat [.i x,.i y]) b 1=y:=by unfold ag;rw[g];rfl
 rw[u];refine⟨?_,g1,rfl⟩;rw[ac7 r b0 (by rw[Zw];exact b1),g0,Wl]
structure TkU (rs:af)(n:Int):Prop where
 g0:zI (.s 2 rs) [((dV rs n).toNat,0)]=ag rs (dV rs n) 0
 u1:jq (.s 2 rs) [((dV rs n).toNat,0)] [.i (ag rs (dV rs n) 0+n)]=rs.set (dV rs n).toNat [.i (ag rs (dV rs n) 0+n),.i (ag rs (dV rs n) 1)]
 g1:zI (.s 2 (rs.set (dV rs n).toNat [.i (ag rs (dV rs n) 0+n),.i (ag rs (dV rs n) 1)])) [((dV rs n).toNat,1)]=ag rs (dV rs n) 1
 u2:jq (.s 2 (rs.set (dV rs n).toNat [.i (ag rs (dV rs n) 0+n),.i (ag rs (dV rs n) 1)])) [((dV rs n).toNat,1)] [.i (ag rs (dV rs n) 1-n)]=rs.set (dV rs n).toNat [.i (ag rs (dV rs n) 0+n),.i (ag rs (dV rs n) 1-n)]
 g2:zI (.s 2 (rs.set (dV rs n).toNat [.i (ag rs (dV rs n) 0+n),.i (ag rs (dV rs n) 1-n)])) [((dV rs n).toNat,1)]=ag rs (dV rs n) 1-n
 w1:Rw [tI,tI] (rs.set (dV rs n).toNat [.i (ag rs (dV rs n) 0+n),.i (ag rs (dV rs n) 1)])
 w2:Rw [tI,tI] (rs.set (dV rs n).toNat [.i (ag rs (dV rs n) 0+n),.i (ag rs (dV rs n) 1-n)])
 l:dV rs n<(rs.set (dV rs n).toNat [.i (ag rs (dV rs n) 0+n),.i (ag rs (dV rs n) 1)]).length
 l2:dV rs n<(rs.set (dV rs n).toNat [.i (ag rs (dV rs n) 0+n),.i (ag rs (dV rs n) 1-n)]).length
theorem af4 (h:Rw [tI,tI] rs)(T:TkT p rs n):TkU rs n:=by
 have t0:=T.i0;have t1:=T.i1;have a:=T.a0;have b:=T.l0;have c:=T.e;have d:=T.p0;have e:=T.n0;have hx: -9223372036854775808<=ag rs (dV rs n) 0+n/\ag rs (dV rs n) 0+n<=9223372036854775807:=⟨by omega,by omega⟩;have q:=ac1 (x:=ag rs (dV rs n) 0+n) (z:=ag rs (dV rs n) 1-n) h t0 t1 rfl hx;have w:∀ y:Int,-9223372036854775808<=y->y<=9223372036854775807->Rw [tI,tI] (rs.set (dV rs n).toNat [.i (ag rs (dV rs n) 0+n),.i y]):=fun y y0 y1=>Rw.set h (show bR [tI,tI] [.i (ag rs (dV rs n) 0+n),.i y]from⟨⟨rfl,hx⟩,⟨rfl,⟨y0,y1⟩⟩,trivial⟩) _
 refine⟨gV t0,q.2.2,?_,?_,?_,w _ (by omega) (by omega),w _ (by omega) (by omega),by rw[Zw];exact t1,by rw[Zw];exact t1⟩
 ·rw[gV t0, <-q.2.2];exact q.2.1
 ·rw[<-q.2.2];exact q.1
 ·rw[gV t0];unfold ag;rw[mC (by omega),VT rfl];rfl
theorem RP {b x y:Int}{rs:af}(b0:0<=b):delL (rs.set b.toNat [.i x,.i y]) b (b+1)=xH rs b:=KP (rs:=rs) b0
end
end Go.V
namespace Go.V
def Gp (rs:af)(j:Nat)(x i:Int):Bool:=decide (x<=ag rs i j)
def Gn (rs:af)(j:Nat)(x:Int):Int:=if cQ (Gp rs j x) rs.length<0 then rs.length else cQ (Gp rs j x) rs.length
section
variable {rs: af} {j: Nat} {x i: Int}
theorem IB:0<=Gn rs j x/\Gn rs j x<=rs.length:=by
 have h:=qP (p:=Gp rs j x) (n:=rs.length);unfold Gn;split;omega;omega
theorem Qw (h:upto (cR (Gp rs j x)) i)(c:ag rs i j<x):upto (cR (Gp rs j x)) (i+1):=bN h (gj (VQ (by omega)))
theorem E9 (h:upto (cR (Gp rs j x)) i)(i0:0<=i)(i1:i<rs.length)(c:x<=ag rs i j):i=Gn rs j x:=by
 have e:=dI (n:=rs.length) h i0 (by omega) (VP c);unfold Gn;rw[e,VU (by omega)]
theorem zx (h:upto (cR (Gp rs j x)) i)(i1:i<=rs.length)(i2:(rs.length:Int)<=i):i=Gn rs j x:=by
 have e:=eN (n:=rs.length) h (by omega);unfold Gn;rw[e,VT (by omega)];omega
end
def inL (es:af)(i:Int)(x:af):af:=es.take i.toNat++(x++es.drop i.toNat)
section
variable {es x: af} {i: Int} {fs: List Ty}
theorem De:(inL es i x).length=es.length+x.length:=by unfold inL;simp only[Zf,Zh,Zn];omega
theorem abi (h:Rw fs es)(hx:Rw fs x)(b:es.length+x.length<=maxLen):Rw fs (inL es i x):=by
 refine⟨by rw[De];exact b,fun e he=>?_⟩;unfold inL at he;rcases Zg.1 he with q|q;exact h.2 e (Xh q)
 ·rcases Zg.1 q with q|q;exact hx.2 e q;exact h.2 e (Yw q)
theorem abh:[]++es.take i.toNat++x++es.drop i.toNat=inL es i x:=by unfold inL;simp
theorem Qm (i0:0<=i)(i1:i<=es.length):[]++jf es (Ye 0) (vM i 0)++x++jf es i.toNat (vM (es.length:Int) i)=inL es i x:=by rw[rr,zU i0 i1];exact abh
end
def wiN (b i:Int):Int:=if slB b i=true then bO .or Za b (JD .shl Za 1 i)else b
theorem ade {n b i:Int}(h:bmOk n b=true)(i0:0<=i)(i1:i<n):bmOk n (wiN b i)=true:=by
 unfold bmOk at h;rw[Zc]at h;have q1:=be.1 h.1;have q2:=be.1 h.2;have p:(2:Int)^n.toNat=((2^n.toNat:Nat):Int):=by rw[Int.natCast_pow];rfl
 have p16:2^n.toNat<=2^16:=Nat.pow_le_pow_right (by omega) (by omega);obtain⟨N,hN⟩:∃ N:Nat,N=2^n.toNat:=⟨_,rfl⟩;rw[<-hN]at p p16;rw[p]at q2;obtain⟨m,rfl⟩:=Z9 q2.1;obtain⟨k,rfl⟩:=Z9 i0;have w:wiN (m:Int) (k:Int)=bO .or Za (m:Int) ((2^k:Nat):Int):=by unfold wiN;rw[VT (BQ.2 ⟨q2.1,i0,by omega⟩),Od (by omega)]
 have e:rL (m:Int)|||rL ((2^k:Nat):Int)=BitVec.ofNat 64 (m|||2^k):=by
  unfold rL;rw[Xg,Xg,BitVec.ofNat_or]
 have l:m|||2^k<N:=by rw[hN];exact Nat.or_lt_two_pow (by rw[<-hN];omega) (Nat.pow_lt_pow_right (by omega) (by omega))
 have v:wiN (m:Int) (k:Int)=((m|||2^k:Nat):Int):=by
  rw[w,ab7,e,Wh (by rw[Y2];omega),Y2];omega
 unfold bmOk;rw[h.1,v,p,Yp];exact be.2 (show(0:Int)<=((m|||2^k:Nat):Int)/\((m|||2^k:Nat):Int)<=(N:Int)-1 from⟨by omega,by omega⟩)
theorem C3 {b:Int}:∀ {k:Nat} {j:Int},0<=j->j<(A9 b k).length->0<=ag (A9 b k) j 0/\ag (A9 b k) j 0<k
 |0,j,h0,h1=>absurd h1 (by show¬ j<((0:Nat):Int);omega)
 | k+1,j,h0,h1=>by
   unfold A9 at h1 ⊢;split at h1<;>rename_i c
   ·rw[VT c];have:=C3 h0 h1;omega
   ·rw[VU c];rw[Zf]at h1;simp only[Zj,Zk]at h1;by_cases q:j<(A9 b k).length
    ·have:=C3 h0 q;obtain⟨m,rfl⟩:=Z9 h0;rw[EY (by omega)];omega
    ·obtain rfl:j=((A9 b k).length:Int):=by omega
     rw[H5];show 0<=(k:Int)/\(k:Int)<((k+1:Nat):Int);omega
def pq (a2 a6:af)(i:Int):af:=frL (slN (ag a6 i 1)) (ubB a2 a6 i)
def xcB (a2 a6:af)(i:Int):Bool:=decide (0<(pq a2 a6 i).length)
def o5 (a2 a6:af)(s i:Int):Int:=ag (pq a2 a6 i) (cuI s (pq a2 a6 i).length) 0
def xcS (a2 a6:af)(s i:Int):af:=if xcB a2 a6 i=true then a6.set i.toNat [.i (ag a6 i 0),.i (ag a6 i 1),.i (wiN (ag a6 i 2) (o5 a2 a6 s i))]else a6
def xcD (a2 a6:af)(s i:Int):Int:=if xcB a2 a6 i=true then cuS s (pq a2 a6 i).length else s
def xcA (a2 a6:af)(s i:Int):Int:=if xcB a2 a6 i=true then aaI (ag a6 i 0) (ag a6 i 1) (ag a6 i 2) (o5 a2 a6 s i)else-1
section
variable {a2 a6: af} {s i: Int}
theorem My (h:(pq a2 a6 i).length=0):xcB a2 a6 i=false/\xcS a2 a6 s i=a6/\xcD a2 a6 s i=s/\xcA a2 a6 s i= -1:=by
 have b:xcB a2 a6 i=false:=VQ (by omega);refine⟨b,?_,?_,?_⟩
 ·unfold xcS;rw[b];rfl
 ·unfold xcD;rw[b];rfl
 ·unfold xcA;rw[b];rfl
theorem Mz (h:¬ (pq a2 a6 i).length=0):xcB a2 a6 i=true/\xcS a2 a6 s i=a6.set i.toNat [.i (ag a6 i 0),.i (ag a6 i 1),.i (wiN (ag a6 i 2) (o5 a2 a6 s i))]/\xcD a2 a6 s i=cuS s (pq a2 a6 i).length/\xcA a2 a6 s i=aaI (ag a6 i 0) (ag a6 i 1) (ag a6 i 2) (o5 a2 a6 s i):=by
 have b:xcB a2 a6 i=true:=VP (by omega);refine⟨b,?_,?_,?_⟩
 ·unfold xcS;rw[VT b]
 ·unfold xcD;rw[VT b]
 ·unfold xcA;rw[VT b]
structure XcT (a2 a6:af)(s i:Int):Prop where
 l0:1<=(pq a2 a6 i).length
 l1:(pq a2 a6 i).length<=16
 k0:0<=cuI s (pq a2 a6 i).length
 k1:cuI s (pq a2 a6 i).length<(pq a2 a6 i).length
 t0:0<=o5 a2 a6 s i
 t1:o5 a2 a6 s i<slN (ag a6 i 1)
 n:slN (ag a6 i 1)<=16
 sp:spOk (ag a6 i 0) (ag a6 i 1) (wiN (ag a6 i 2) (o5 a2 a6 s i))=true
 a0:0<=aaI (ag a6 i 0) (ag a6 i 1) (ag a6 i 2) (o5 a2 a6 s i)
 a1:aaI (ag a6 i 0) (ag a6 i 1) (ag a6 i 2) (o5 a2 a6 s i)<=511
 aa:aaI (ag a6 i 0) (ag a6 i 1) (wiN (ag a6 i 2) (o5 a2 a6 s i)) (o5 a2 a6 s i)=aaI (ag a6 i 0) (ag a6 i 1) (ag a6 i 2) (o5 a2 a6 s i)
 w: -9223372036854775808<=wiN (ag a6 i 2) (o5 a2 a6 s i)/\wiN (ag a6 i 2) (o5 a2 a6 s i)<=9223372036854775807
 d:inR (cuS s (pq a2 a6 i).length) 0 1073741823=true
theorem FU (hs:spOk (ag a6 i 0) (ag a6 i 1) (ag a6 i 2)=true)(hd:inR s 0 1073741823=true)(h:¬ (pq a2 a6 i).length=0):XcT a2 a6 s i:=by
 have t:=li hs;have c:=mz t.2.2.1;have l:(pq a2 a6 i).length<=16:=by
  unfold pq frL;split
  ·have:=uF (b:=ubB a2 a6 i) (slN (ag a6 i 1)).toNat;omega
  ·simp
 have k:=TM (n:=(pq a2 a6 i).length) hd (by omega) (by omega);have g:0<=o5 a2 a6 s i/\o5 a2 a6 s i<slN (ag a6 i 1):=by
  have e:pq a2 a6 i=A9 (ubB a2 a6 i) (slN (ag a6 i 1)).toNat:=by
   have q:bmOk (slN (ag a6 i 1)) (ubB a2 a6 i)=true:=by
    cases q:bmOk (slN (ag a6 i 1)) (ubB a2 a6 i)with
    |true=>rfl
    |false=>exact absurd (by unfold pq frL;rw[q];rfl) h
   unfold pq frL;rw[VT q]
  have q:=C3 (b:=ubB a2 a6 i) (k:=(slN (ag a6 i 1)).toNat) (j:=cuI s (pq a2 a6 i).length) k.1 (by rw[<-e];exact k.2.1);rw[<-e]at q;unfold o5;omega
 have w:=ade t.2.2.2 g.1 g.2;have sp:spOk (ag a6 i 0) (ag a6 i 1) (wiN (ag a6 i 2) (o5 a2 a6 s i))=true:=by unfold spOk;rw[be.2 ⟨t.1,t.2.1⟩,w];rfl
 have r:inR (o5 a2 a6 s i) 0 (slN (ag a6 i 1)-1)=true:=be.2 ⟨g.1,by omega⟩;have bb:=adO w;have m1:0<=o5 a2 a6 s i*clsSz (ag a6 i 1):=Int.mul_nonneg g.1 (by omega);have m2:o5 a2 a6 s i*clsSz (ag a6 i 1)<=(slN (ag a6 i 1)-1)*clsSz (ag a6 i 1):=Int.mul_le_mul_of_nonneg_right (by omega) (by omega);have m3:(slN (ag a6 i 1)-1)*clsSz (ag a6 i 1)=16-clsSz (ag a6 i 1):=by rw[Int.sub_mul,c.2.2.2.2,Wc]
 have e1:aaI (ag a6 i 0) (ag a6 i 1) (ag a6 i 2) (o5 a2 a6 s i)=ag a6 i 0*16+o5 a2 a6 s i*clsSz (ag a6 i 1):=by unfold aaI Kp;rw[hs,r];rfl
 have e2:aaI (ag a6 i 0) (ag a6 i 1) (wiN (ag a6 i 2) (o5 a2 a6 s i)) (o5 a2 a6 s i)=ag a6 i 0*16+o5 a2 a6 s i*clsSz (ag a6 i 1):=by unfold aaI Kp;rw[sp,r];rfl
 exact⟨by omega,l,k.1,k.2.1,g.1,g.2,c.2.2.2.1,sp,by omega,by omega,by rw[e1,e2],⟨by omega,by omega⟩,k.2.2⟩
end
end Go.V
namespace Go.V
def isL (a6:af)(p k b:Int):af:=inL a6 (Gn a6 0 p) [[.i p,.i k,.i b]]
def isI (a6:af)(p:Int):Int:=Gn a6 0 p
def xsL (a1 a2:af)(a3:Int)(a4 a5 a6:af)(k:Int):af:=if xpB a1 a2 a3 a4 a5 1=true then isL a6 (xpA a1 a2 a3 a4 a5 1) k 0 else a6
def Oy (a1 a2:af)(a3:Int)(a4 a5 a6:af)(k:Int):Int:=if xpB a1 a2 a3 a4 a5 1=true then isI a6 (xpA a1 a2 a3 a4 a5 1)else-1
theorem zP {o o':af}(h:o=o'):[DV.one (.s 1 o)]=[DV.one (.s 1 o')]:=by rw[h]
theorem Tc {n b:Int}(h:bmOk n b=true):1<=n/\n<=16/\0<=b:=by
 unfold bmOk at h;rw[Zc]at h;have q1:=be.1 h.1;have q2:=be.1 h.2;omega
theorem PX {b i:Int}{o:af}(h:J7 b i o)(i1:i<=16):Rw [tI] o:=by rw[h.e];exact zk _ (by omega)
theorem MW {ls:af}{k:Int}(h:clB ls k=false):ctB ls k=false:=by unfold ctB;rw[h];rfl
theorem MX {ls:af}{k:Int}(h:(aw ls k 0).length=0):ctB ls k=false:=by unfold ctB;rw[VQ (by omega),Yh]
theorem TH {ls:af}{k:Int}(h:clB ls k=true)(n:¬ (aw ls k 0).length=0):ctL ls k=ls.set k.toNat [.s 1 ((aw ls k 0).take ((aw ls k 0).length-1))]/\ctA ls k=ag (aw ls k 0) ((aw ls k 0).length-1) 0/\ctB ls k=true:=by
 have b:ctB ls k=true:=by unfold ctB;rw[h,VP (by omega)];rfl
 have q:=TG b;exact⟨q.1,q.2,b⟩
theorem Jy {l:af}{i:Int}:jf l 0 (vM i 0)=l.take i.toNat:=rr
theorem af5 {n:Nat}:((n:Int)-1).toNat=n-1:=by omega
end Go.V
namespace Go.V
section
variable {a0 a1 a2 a4 a5 a6 u e: af} {a3 t i k s n: Int}
theorem adJ (hk:kerOk a0 a1 a2 a3 a4=true)(P:AO a0 a1 a2 a3 a4 t i u e)(c0:0<=a3)(c1:a3<=90000)(i0:0<=i)(i1:i<=32):ccB a0 u e (a3+i) a4=true:=by
 rw[Hp (by omega)];exact v5 P.m (by omega) (by omega) (jt hk).2.2.2
theorem R4 (rc:Rw [.sl [tI]] a0)(P:AO a0 a1 a2 a3 a4 t i u e):ap a0<=1024/\ap u<=64/\ap e<=64:=uI P.m rc P.ru P.re
theorem afe {c:Int}:kqN true c=c+1:=by unfold kqN;rw[VT rfl]
theorem acV {o:af}{n:Int}{j:Nat}(h:Rw [tI,tI,tI] o)(n0:0<=n)(n1:n<o.length)(hj:j<3):∃ rec o',bQ (.s 3 o) [(n.toNat,j)]=some (rec,o')/\o'+1<=rec.length:=eS (by omega) (by
 rw[h.eta n0 n1];show j+1<=3;omega)
theorem abz {o:af}{n:Int}(h:Rw [tI] o)(n0:0<=n)(n1:n<o.length):∃ rec o',bQ (L.s 1 o) [(n.toNat,0)]=some (rec,o')/\o'+[L.v (Zi Zs 0)].length<=rec.length/\Z7 [L.v (Zi Zs 0)].length (Ym o' rec)=js aj (L.s 1 o) [(n.toNat,0)] 0 [L.v (Zi Zs 0)]:=
 dU (z0:=[.i 0]) (z:=[.i 0]) h.wf (by omega) rfl (by decide)
theorem PS {n b:Int}:Rw [tI] (frL n b):=by
 unfold frL;split
 ·rename_i c;have:=Tc c;exact zk _ (by omega)
 ·exact Rw.nil
theorem XcT.r (_:XcT a2 a6 s i):Rw [tI] (pq a2 a6 i):=PS
structure XcU (a2 a6:af)(s i:Int):Prop where
 u:jq (.s 3 a6) [(i.toNat,2)] [.i (wiN (ag a6 i 2) (o5 a2 a6 s i))]=a6.set i.toNat [.i (ag a6 i 0),.i (ag a6 i 1),.i (wiN (ag a6 i 2) (o5 a2 a6 s i))]
 g0:zI (.s 3 (a6.set i.toNat [.i (ag a6 i 0),.i (ag a6 i 1),.i (wiN (ag a6 i 2) (o5 a2 a6 s i))])) [(i.toNat,0)]=ag a6 i 0
 g1:zI (.s 3 (a6.set i.toNat [.i (ag a6 i 0),.i (ag a6 i 1),.i (wiN (ag a6 i 2) (o5 a2 a6 s i))])) [(i.toNat,1)]=ag a6 i 1
 g2:zI (.s 3 (a6.set i.toNat [.i (ag a6 i 0),.i (ag a6 i 1),.i (wiN (ag a6 i 2) (o5 a2 a6 s i))])) [(i.toNat,2)]=wiN (ag a6 i 2) (o5 a2 a6 s i)
 w:Rw [tI,tI,tI] (a6.set i.toNat [.i (ag a6 i 0),.i (ag a6 i 1),.i (wiN (ag a6 i 2) (o5 a2 a6 s i))])
 l:i<(a6.set i.toNat [.i (ag a6 i 0),.i (ag a6 i 1),.i (wiN (ag a6 i 2) (o5 a2 a6 s i))]).length
theorem agc (h:Rw [tI,tI,tI] a6)(i0:0<=i)(i1:i<a6.length)(X:XcT a2 a6 s i):XcU a2 a6 s i:=by
 have g:∀ r:aT,(a6.set i.toNat r).getD i.toNat []=r:=fun r=>by rw[mC (by omega),VT rfl]
 refine⟨?_,?_,?_,?_,afS h (yl h (j:=0) rfl (by omega)) (yl h (j:=1) rfl (by omega)) X.w,by rw[Zw];exact i1⟩
 ·unfold jq j3 rowOf;rw[h.eta i0 i1];rfl
 ·rw[gV i0];unfold ag;rw[g];rfl
 ·rw[gV i0];unfold ag;rw[g];rfl
 ·rw[gV i0];unfold ag;rw[g];rfl
theorem Ow (ht:xq a2 a5 n=t)(h:tkB (zlI a2) a5 n=true)(p:AO a0 a1 a2 a3 a4 t i u e)(i0:0<=i)(i1:n<=i)(i2:i<=n):xpC a0 a1 a2 a3 a4 a5 n=a0/\xpU a0 a1 a2 a3 a4 a5 n=u/\xpE a0 a1 a2 a3 a4 a5 n=e/\xpK a1 a2 a3 a4 a5 n=a3+i/\xpF a1 a2 a3 a4 a5 n=tkL (zlI a2) a5 n/\xpA a1 a2 a3 a4 a5 n=t/\xpB a1 a2 a3 a4 a5 n=true:=by
 subst ht;have q:=agk h p i0 i1 i2;rw[show a3+n=a3+i by omega]at q;exact q
theorem Ou {p:Int}{v w x:af}(ht:xq a2 a5 n=t)(h:tkB (zlI a2) a5 n=true)(P:AO a0 a1 a2 a3 a4 t i u e)(i0:0<=i)(i1:i<n)(g:tx u e (a3+i) a4 (t+i)=false)(D:GN a0 u e t p v w x)(p1:p<=t+i)(p2:t+i<=p):xpC a0 a1 a2 a3 a4 a5 n=v/\xpU a0 a1 a2 a3 a4 a5 n=w/\xpE a0 a1 a2 a3 a4 a5 n=x/\xpK a1 a2 a3 a4 a5 n=a3+i+1/\xpF a1 a2 a3 a4 a5 n=a5/\xpA a1 a2 a3 a4 a5 n= -1/\xpB a1 a2 a3 a4 a5 n=false:=by
 subst ht;have q:=agj h P i0 i1 g;have d:=ES (l:=i) D p2 p1;rw[<-d.1, <-d.2.1, <-d.2.2]at q;exact q
theorem adH {v w x:af}{c:Int}(hk:kerOk a0 a1 a2 a3 a4=true)(m:lM v w x)(c0:0<=c)(c1:c<100000):ccB v w x c a4=true:=by
 rw[Hp (by omega)];exact v5 m (by omega) (by omega) (jt hk).2.2.2
theorem agm (P:AO a0 a1 a2 a3 a4 t i u e)(i0:0<=i)(g:kwB true u e (a3+i) a4 (t+i)=true):AO a0 a1 a2 a3 a4 t (i+1) (kwU true u e (a3+i) a4 (t+i)) (kwE true u e (a3+i) a4 (t+i)):=R6 P i0 g
theorem agl (rc:Rw [.sl [tI]] a0)(P:AO a0 a1 a2 a3 a4 t i u e)(g:kwB true u e (a3+i) a4 (t+i)=false):GN a0 u e t t a0 (kwU true u e (a3+i) a4 (t+i)) (kwE true u e (a3+i) a4 (t+i)):=by
 have w:=sC (show tx u e (a3+i) a4 (t+i)=false from g);rw[<-w.1, <-w.2.1];exact HN P.m rc P.ru P.re
end
end Go.V
namespace Go.V
def Cm (a2 a6:af)(aI:Bool)(aJ aK k i:Int):Bool:=eqB (ag a6 i 1) k&&(!bsB aI aJ aK (ag a6 i 0)&&xcB a2 a6 i)
def FV (a2 a6:af)(aI:Bool)(aJ aK k:Int):Int:=cQ (Cm a2 a6 aI aJ aK k) a6.length
def uU (a1 a2:af)(a3:Int)(a4 a5 a6 a9:af)(aI:Bool)(aJ aK t k:Int):Nat:=if ctB (aw a9 t 0) k=true then 0 else if 0<=FV a2 a6 aI aJ aK k then 1 else if xpB a1 a2 a3 a4 a5 1=true then 3 else 2
def xmC (a0 a1 a2:af)(a3:Int)(a4 a5 a6 a9:af)(aE:Int)(aI:Bool)(aJ aK t k:Int):af:=if 2<=uU a1 a2 a3 a4 a5 a6 a9 aI aJ aK t k then xpC a0 a1 a2 a3 a4 a5 1 else a0
def xmU (a0 a1 a2:af)(a3:Int)(a4 a5 a6 a9:af)(aE:Int)(aI:Bool)(aJ aK t k:Int):af:=if 2<=uU a1 a2 a3 a4 a5 a6 a9 aI aJ aK t k then xpU a0 a1 a2 a3 a4 a5 1 else a1
def xmE (a0 a1 a2:af)(a3:Int)(a4 a5 a6 a9:af)(aE:Int)(aI:Bool)(aJ aK t k:Int):af:=if 2<=uU a1 a2 a3 a4 a5 a6 a9 aI aJ aK t k then xpE a0 a1 a2 a3 a4 a5 1 else a2
def xmF (a0 a1 a2:af)(a3:Int)(a4 a5 a6 a9:af)(aE:Int)(aI:Bool)(aJ aK t k:Int):af:=if 2<=uU a1 a2 a3 a4 a5 a6 a9 aI aJ aK t k then xpF a1 a2 a3 a4 a5 1 else a5
def xmK (a0 a1 a2:af)(a3:Int)(a4 a5 a6 a9:af)(aE:Int)(aI:Bool)(aJ aK t k:Int):Int:=if 2<=uU a1 a2 a3 a4 a5 a6 a9 aI aJ aK t k then xpK a1 a2 a3 a4 a5 1 else a3
def xmS (a0 a1 a2:af)(a3:Int)(a4 a5 a6 a9:af)(aE:Int)(aI:Bool)(aJ aK t k:Int):af:=if uU a1 a2 a3 a4 a5 a6 a9 aI aJ aK t k=1 then xcS a2 a6 aE (FV a2 a6 aI aJ aK k)else if uU a1 a2 a3 a4 a5 a6 a9 aI aJ aK t k=3 then xcS (xpE a0 a1 a2 a3 a4 a5 1) (isL a6 (xpA a1 a2 a3 a4 a5 1) k 0) aE (isI a6 (xpA a1 a2 a3 a4 a5 1))else a6
def xmD (a0 a1 a2:af)(a3:Int)(a4 a5 a6 a9:af)(aE:Int)(aI:Bool)(aJ aK t k:Int):Int:=if uU a1 a2 a3 a4 a5 a6 a9 aI aJ aK t k=1 then xcD a2 a6 aE (FV a2 a6 aI aJ aK k)else if uU a1 a2 a3 a4 a5 a6 a9 aI aJ aK t k=3 then xcD (xpE a0 a1 a2 a3 a4 a5 1) (isL a6 (xpA a1 a2 a3 a4 a5 1) k 0) aE (isI a6 (xpA a1 a2 a3 a4 a5 1))else aE
def xmX (a0 a1 a2:af)(a3:Int)(a4 a5 a6 a9:af)(aE:Int)(aI:Bool)(aJ aK t k:Int):af:=if uU a1 a2 a3 a4 a5 a6 a9 aI aJ aK t k=0 then a9.set t.toNat [.s 1 (ctL (aw a9 t 0) k)]else a9
def xmA (a0 a1 a2:af)(a3:Int)(a4 a5 a6 a9:af)(aE:Int)(aI:Bool)(aJ aK t k:Int):Int:=if uU a1 a2 a3 a4 a5 a6 a9 aI aJ aK t k=0 then ctA (aw a9 t 0) k else if uU a1 a2 a3 a4 a5 a6 a9 aI aJ aK t k=1 then xcA a2 a6 aE (FV a2 a6 aI aJ aK k)else if uU a1 a2 a3 a4 a5 a6 a9 aI aJ aK t k=3 then xcA (xpE a0 a1 a2 a3 a4 a5 1) (isL a6 (xpA a1 a2 a3 a4 a5 1) k 0) aE (isI a6 (xpA a1 a2 a3 a4 a5 1))else-1
def xmB (a0 a1 a2:af)(a3:Int)(a4 a5 a6 a9:af)(aE:Int)(aI:Bool)(aJ aK t k:Int):Bool:=if uU a1 a2 a3 a4 a5 a6 a9 aI aJ aK t k=0 then true else if uU a1 a2 a3 a4 a5 a6 a9 aI aJ aK t k=1 then true else if uU a1 a2 a3 a4 a5 a6 a9 aI aJ aK t k=3 then xcB (xpE a0 a1 a2 a3 a4 a5 1) (isL a6 (xpA a1 a2 a3 a4 a5 1) k 0) (isI a6 (xpA a1 a2 a3 a4 a5 1))else false
section
variable {a0 a1 a2: af} {a3: Int} {a4 a5 a6 a7 a8 a9 aA aB aD aL: af} {aC aE aF aG aH: Int} {aI: Bool} {aJ aK aM aN t k i z: Int}
theorem adu (h:ctB (aw a9 t 0) k=true):xmC a0 a1 a2 a3 a4 a5 a6 a9 aE aI aJ aK t k=a0/\xmU a0 a1 a2 a3 a4 a5 a6 a9 aE aI aJ aK t k=a1/\xmE a0 a1 a2 a3 a4 a5 a6 a9 aE aI aJ aK t k=a2/\xmK a0 a1 a2 a3 a4 a5 a6 a9 aE aI aJ aK t k=a3/\xmF a0 a1 a2 a3 a4 a5 a6 a9 aE aI aJ aK t k=a5/\xmS a0 a1 a2 a3 a4 a5 a6 a9 aE aI aJ aK t k=a6/\xmX a0 a1 a2 a3 a4 a5 a6 a9 aE aI aJ aK t k=a9.set t.toNat [.s 1 (ctL (aw a9 t 0) k)]/\xmD a0 a1 a2 a3 a4 a5 a6 a9 aE aI aJ aK t k=aE/\xmA a0 a1 a2 a3 a4 a5 a6 a9 aE aI aJ aK t k=ctA (aw a9 t 0) k/\xmB a0 a1 a2 a3 a4 a5 a6 a9 aE aI aJ aK t k=true:=by
 have q:uU a1 a2 a3 a4 a5 a6 a9 aI aJ aK t k=0:=by unfold uU;rw[VT h]
 refine⟨?_,?_,?_,?_,?_,?_,?_,?_,?_,?_⟩
 ·unfold xmC;rw[q];rfl
 ·unfold xmU;rw[q];rfl
 ·unfold xmE;rw[q];rfl
 ·unfold xmK;rw[q];rfl
 ·unfold xmF;rw[q];rfl
 ·unfold xmS;rw[q];rfl
 ·unfold xmX;rw[q];rfl
 ·unfold xmD;rw[q];rfl
 ·unfold xmA;rw[q];rfl
 ·unfold xmB;rw[q];rfl
theorem adw (h:ctB (aw a9 t 0) k=false)(i0:0<=i)(e:FV a2 a6 aI aJ aK k=i):xmC a0 a1 a2 a3 a4 a5 a6 a9 aE aI aJ aK t k=a0/\xmU a0 a1 a2 a3 a4 a5 a6 a9 aE aI aJ aK t k=a1/\xmE a0 a1 a2 a3 a4 a5 a6 a9 aE aI aJ aK t k=a2/\xmK a0 a1 a2 a3 a4 a5 a6 a9 aE aI aJ aK t k=a3/\xmF a0 a1 a2 a3 a4 a5 a6 a9 aE aI aJ aK t k=a5/\xmS a0 a1 a2 a3 a4 a5 a6 a9 aE aI aJ aK t k=xcS a2 a6 aE i/\xmX a0 a1 a2 a3 a4 a5 a6 a9 aE aI aJ aK t k=a9/\xmD a0 a1 a2 a3 a4 a5 a6 a9 aE aI aJ aK t k=xcD a2 a6 aE i/\xmA a0 a1 a2 a3 a4 a5 a6 a9 aE aI aJ aK t k=xcA a2 a6 aE i/\xmB a0 a1 a2 a3 a4 a5 a6 a9 aE aI aJ aK t k=true:=by
 have q:uU a1 a2 a3 a4 a5 a6 a9 aI aJ aK t k=1:=by unfold uU;rw[h,VU (by decide),VT (by omega)]
 refine⟨?_,?_,?_,?_,?_,?_,?_,?_,?_,?_⟩
 ·unfold xmC;rw[q];rfl
 ·unfold xmU;rw[q];rfl
 ·unfold xmE;rw[q];rfl
 ·unfold xmK;rw[q];rfl
 ·unfold xmF;rw[q];rfl
 ·unfold xmS;rw[q,e];rfl
 ·unfold xmX;rw[q];rfl
 ·unfold xmD;rw[q,e];rfl
 ·unfold xmA;rw[q,e];rfl
 ·unfold xmB;rw[q];rfl
theorem adx (h:ctB (aw a9 t 0) k=false)(i0:FV a2 a6 aI aJ aK k<0)(b:xpB a1 a2 a3 a4 a5 1=false):xmC a0 a1 a2 a3 a4 a5 a6 a9 aE aI aJ aK t k=xpC a0 a1 a2 a3 a4 a5 1/\xmU a0 a1 a2 a3 a4 a5 a6 a9 aE aI aJ aK t k=xpU a0 a1 a2 a3 a4 a5 1/\xmE a0 a1 a2 a3 a4 a5 a6 a9 aE aI aJ aK t k=xpE a0 a1 a2 a3 a4 a5 1/\xmK a0 a1 a2 a3 a4 a5 a6 a9 aE aI aJ aK t k=xpK a1 a2 a3 a4 a5 1/\xmF a0 a1 a2 a3 a4 a5 a6 a9 aE aI aJ aK t k=xpF a1 a2 a3 a4 a5 1/\xmS a0 a1 a2 a3 a4 a5 a6 a9 aE aI aJ aK t k=a6/\xmX a0 a1 a2 a3 a4 a5 a6 a9 aE aI aJ aK t k=a9/\xmD a0 a1 a2 a3 a4 a5 a6 a9 aE aI aJ aK t k=aE/\xmA a0 a1 a2 a3 a4 a5 a6 a9 aE aI aJ aK t k= -1/\xmB a0 a1 a2 a3 a4 a5 a6 a9 aE aI aJ aK t k=false:=by
 have q:uU a1 a2 a3 a4 a5 a6 a9 aI aJ aK t k=2:=by unfold uU;rw[h,VU (by decide),VU (by omega),b];rfl
 refine⟨?_,?_,?_,?_,?_,?_,?_,?_,?_,?_⟩
 ·unfold xmC;rw[q];rfl
 ·unfold xmU;rw[q];rfl
 ·unfold xmE;rw[q];rfl
 ·unfold xmK;rw[q];rfl
 ·unfold xmF;rw[q];rfl
 ·unfold xmS;rw[q];rfl
 ·unfold xmX;rw[q];rfl
 ·unfold xmD;rw[q];rfl
 ·unfold xmA;rw[q];rfl
 ·unfold xmB;rw[q];rfl
theorem ady (h:ctB (aw a9 t 0) k=false)(i0:FV a2 a6 aI aJ aK k<0)(b:xpB a1 a2 a3 a4 a5 1=true):xmC a0 a1 a2 a3 a4 a5 a6 a9 aE aI aJ aK t k=xpC a0 a1 a2 a3 a4 a5 1/\xmU a0 a1 a2 a3 a4 a5 a6 a9 aE aI aJ aK t k=xpU a0 a1 a2 a3 a4 a5 1/\xmE a0 a1 a2 a3 a4 a5 a6 a9 aE aI aJ aK t k=xpE a0 a1 a2 a3 a4 a5 1/\xmK a0 a1 a2 a3 a4 a5 a6 a9 aE aI aJ aK t k=xpK a1 a2 a3 a4 a5 1/\xmF a0 a1 a2 a3 a4 a5 a6 a9 aE aI aJ aK t k=xpF a1 a2 a3 a4 a5 1/\xmS a0 a1 a2 a3 a4 a5 a6 a9 aE aI aJ aK t k=xcS (xpE a0 a1 a2 a3 a4 a5 1) (isL a6 (xpA a1 a2 a3 a4 a5 1) k 0) aE (isI a6 (xpA a1 a2 a3 a4 a5 1))/\xmX a0 a1 a2 a3 a4 a5 a6 a9 aE aI aJ aK t k=a9/\xmD a0 a1 a2 a3 a4 a5 a6 a9 aE aI aJ aK t k=xcD (xpE a0 a1 a2 a3 a4 a5 1) (isL a6 (xpA a1 a2 a3 a4 a5 1) k 0) aE (isI a6 (xpA a1 a2 a3 a4 a5 1))/\xmA a0 a1 a2 a3 a4 a5 a6 a9 aE aI aJ aK t k=xcA (xpE a0 a1 a2 a3 a4 a5 1) (isL a6 (xpA a1 a2 a3 a4 a5 1) k 0) aE (isI a6 (xpA a1 a2 a3 a4 a5 1))/\xmB a0 a1 a2 a3 a4 a5 a6 a9 aE aI aJ aK t k=xcB (xpE a0 a1 a2 a3 a4 a5 1) (isL a6 (xpA a1 a2 a3 a4 a5 1) k 0) (isI a6 (xpA a1 a2 a3 a4 a5 1)):=by
 have q:uU a1 a2 a3 a4 a5 a6 a9 aI aJ aK t k=3:=by unfold uU;rw[h,VU (by decide),VU (by omega),VT b]
 refine⟨?_,?_,?_,?_,?_,?_,?_,?_,?_,?_⟩
 ·unfold xmC;rw[q];rfl
 ·unfold xmU;rw[q];rfl
 ·unfold xmE;rw[q];rfl
 ·unfold xmK;rw[q];rfl
 ·unfold xmF;rw[q];rfl
 ·unfold xmS;rw[q];rfl
 ·unfold xmX;rw[q];rfl
 ·unfold xmD;rw[q];rfl
 ·unfold xmA;rw[q];rfl
 ·unfold xmB;rw[q];rfl
end
def xlL (a1 a2:af)(a3:Int)(a4 a5 a7:af)(z:Int):af:=if xpB a1 a2 a3 a4 a5 (pfN z)=true then inL a7 (Gn a7 0 (xpA a1 a2 a3 a4 a5 (pfN z))) [[.i (xpA a1 a2 a3 a4 a5 (pfN z)),.i (pfN z),.i z]]else a7
def xlA (a1 a2:af)(a3:Int)(a4 a5:af)(z:Int):Int:=if xpB a1 a2 a3 a4 a5 (pfN z)=true then xpA a1 a2 a3 a4 a5 (pfN z)*16 else-1
def xaG (h:Bool)(a3:Int)(a8 a9:af)(aG aH t z:Int):Int:=if h=false\/aH=1000000\/90000<a3 then 5 else if inR t 0 (a9.length-1)=false then 1 else if inR z 1 1000=false then 2 else if aG<bO .add Za (lsI a8) z then 3 else 0
def xaO (h:Bool)(a3:Int)(a8 a9:af)(aG aH t z:Int):Bool:=decide (xaG h a3 a8 a9 aG aH t z=0)
def xaC (g:Bool)(a0 a1 a2:af)(a3:Int)(a4 a5 a6 a7 a9:af)(aE:Int)(aI:Bool)(aJ aK t z:Int):af:=if g=true then(if 0<=clsOf z then xmC a0 a1 a2 a3 a4 a5 a6 a9 aE aI aJ aK t (clsOf z)else xpC a0 a1 a2 a3 a4 a5 (pfN z))else a0
def xaU (g:Bool)(a0 a1 a2:af)(a3:Int)(a4 a5 a6 a7 a9:af)(aE:Int)(aI:Bool)(aJ aK t z:Int):af:=if g=true then(if 0<=clsOf z then xmU a0 a1 a2 a3 a4 a5 a6 a9 aE aI aJ aK t (clsOf z)else xpU a0 a1 a2 a3 a4 a5 (pfN z))else a1
def xaE (g:Bool)(a0 a1 a2:af)(a3:Int)(a4 a5 a6 a7 a9:af)(aE:Int)(aI:Bool)(aJ aK t z:Int):af:=if g=true then(if 0<=clsOf z then xmE a0 a1 a2 a3 a4 a5 a6 a9 aE aI aJ aK t (clsOf z)else xpE a0 a1 a2 a3 a4 a5 (pfN z))else a2
def xaK (g:Bool)(a0 a1 a2:af)(a3:Int)(a4 a5 a6 a7 a9:af)(aE:Int)(aI:Bool)(aJ aK t z:Int):Int:=if g=true then(if 0<=clsOf z then xmK a0 a1 a2 a3 a4 a5 a6 a9 aE aI aJ aK t (clsOf z)else xpK a1 a2 a3 a4 a5 (pfN z))else a3
def xaF (g:Bool)(a0 a1 a2:af)(a3:Int)(a4 a5 a6 a7 a9:af)(aE:Int)(aI:Bool)(aJ aK t z:Int):af:=if g=true then(if 0<=clsOf z then xmF a0 a1 a2 a3 a4 a5 a6 a9 aE aI aJ aK t (clsOf z)else xpF a1 a2 a3 a4 a5 (pfN z))else a5
def xaS (g:Bool)(a0 a1 a2:af)(a3:Int)(a4 a5 a6 a7 a9:af)(aE:Int)(aI:Bool)(aJ aK t z:Int):af:=if g=true then(if 0<=clsOf z then xmS a0 a1 a2 a3 a4 a5 a6 a9 aE aI aJ aK t (clsOf z)else a6)else a6
def xaL (g:Bool)(a0 a1 a2:af)(a3:Int)(a4 a5 a6 a7 a9:af)(aE:Int)(aI:Bool)(aJ aK t z:Int):af:=if g=true then(if 0<=clsOf z then a7 else xlL a1 a2 a3 a4 a5 a7 z)else a7
def xaX (g:Bool)(a0 a1 a2:af)(a3:Int)(a4 a5 a6 a7 a9:af)(aE:Int)(aI:Bool)(aJ aK t z:Int):af:=if g=true then(if 0<=clsOf z then xmX a0 a1 a2 a3 a4 a5 a6 a9 aE aI aJ aK t (clsOf z)else a9)else a9
def xaD (g:Bool)(a0 a1 a2:af)(a3:Int)(a4 a5 a6 a7 a9:af)(aE:Int)(aI:Bool)(aJ aK t z:Int):Int:=if g=true then(if 0<=clsOf z then xmD a0 a1 a2 a3 a4 a5 a6 a9 aE aI aJ aK t (clsOf z)else aE)else aE
def xaA (g:Bool)(a0 a1 a2:af)(a3:Int)(a4 a5 a6 a7 a9:af)(aE:Int)(aI:Bool)(aJ aK t z:Int):Int:=if g=true then(if 0<=clsOf z then xmA a0 a1 a2 a3 a4 a5 a6 a9 aE aI aJ aK t (clsOf z)else xlA a1 a2 a3 a4 a5 z)else-1
section
variable {g: Bool}
variable {a0 a1 a2: af} {a3: Int} {a4 a5 a6 a7 a8 a9 aA aB aD aL: af} {aC aE aF aG aH: Int} {aI: Bool} {aJ aK aM aN t k i z: Int}
theorem aga (h:g=false):xaC g a0 a1 a2 a3 a4 a5 a6 a7 a9 aE aI aJ aK t z=a0/\xaU g a0 a1 a2 a3 a4 a5 a6 a7 a9 aE aI aJ aK t z=a1/\xaE g a0 a1 a2 a3 a4 a5 a6 a7 a9 aE aI aJ aK t z=a2/\xaK g a0 a1 a2 a3 a4 a5 a6 a7 a9 aE aI aJ aK t z=a3/\xaF g a0 a1 a2 a3 a4 a5 a6 a7 a9 aE aI aJ aK t z=a5/\xaS g a0 a1 a2 a3 a4 a5 a6 a7 a9 aE aI aJ aK t z=a6/\xaL g a0 a1 a2 a3 a4 a5 a6 a7 a9 aE aI aJ aK t z=a7/\xaX g a0 a1 a2 a3 a4 a5 a6 a7 a9 aE aI aJ aK t z=a9/\xaD g a0 a1 a2 a3 a4 a5 a6 a7 a9 aE aI aJ aK t z=aE/\xaA g a0 a1 a2 a3 a4 a5 a6 a7 a9 aE aI aJ aK t z= -1:=by
 refine⟨?_,?_,?_,?_,?_,?_,?_,?_,?_,?_⟩
 ·unfold xaC;rw[h];rfl
 ·unfold xaU;rw[h];rfl
 ·unfold xaE;rw[h];rfl
 ·unfold xaK;rw[h];rfl
 ·unfold xaF;rw[h];rfl
 ·unfold xaS;rw[h];rfl
 ·unfold xaL;rw[h];rfl
 ·unfold xaX;rw[h];rfl
 ·unfold xaD;rw[h];rfl
 ·unfold xaA;rw[h];rfl
theorem agb (h:g=true)(c:0<=clsOf z):xaC g a0 a1 a2 a3 a4 a5 a6 a7 a9 aE aI aJ aK t z=xmC a0 a1 a2 a3 a4 a5 a6 a9 aE aI aJ aK t (clsOf z)/\xaU g a0 a1 a2 a3 a4 a5 a6 a7 a9 aE aI aJ aK t z=xmU a0 a1 a2 a3 a4 a5 a6 a9 aE aI aJ aK t (clsOf z)/\xaE g a0 a1 a2 a3 a4 a5 a6 a7 a9 aE aI aJ aK t z=xmE a0 a1 a2 a3 a4 a5 a6 a9 aE aI aJ aK t (clsOf z)/\xaK g a0 a1 a2 a3 a4 a5 a6 a7 a9 aE aI aJ aK t z=xmK a0 a1 a2 a3 a4 a5 a6 a9 aE aI aJ aK t (clsOf z)/\xaF g a0 a1 a2 a3 a4 a5 a6 a7 a9 aE aI aJ aK t z=xmF a0 a1 a2 a3 a4 a5 a6 a9 aE aI aJ aK t (clsOf z)/\xaS g a0 a1 a2 a3 a4 a5 a6 a7 a9 aE aI aJ aK t z=xmS a0 a1 a2 a3 a4 a5 a6 a9 aE aI aJ aK t (clsOf z)/\xaL g a0 a1 a2 a3 a4 a5 a6 a7 a9 aE aI aJ aK t z=a7/\xaX g a0 a1 a2 a3 a4 a5 a6 a7 a9 aE aI aJ aK t z=xmX a0 a1 a2 a3 a4 a5 a6 a9 aE aI aJ aK t (clsOf z)/\xaD g a0 a1 a2 a3 a4 a5 a6 a7 a9 aE aI aJ aK t z=xmD a0 a1 a2 a3 a4 a5 a6 a9 aE aI aJ aK t (clsOf z)/\xaA g a0 a1 a2 a3 a4 a5 a6 a7 a9 aE aI aJ aK t z=xmA a0 a1 a2 a3 a4 a5 a6 a9 aE aI aJ aK t (clsOf z):=by
 refine⟨?_,?_,?_,?_,?_,?_,?_,?_,?_,?_⟩
 ·unfold xaC;rw[VT h,VT c]
 ·unfold xaU;rw[VT h,VT c]
 ·unfold xaE;rw[VT h,VT c]
 ·unfold xaK;rw[VT h,VT c]
 ·unfold xaF;rw[VT h,VT c]
 ·unfold xaS;rw[VT h,VT c]
 ·unfold xaL;rw[VT h,VT c]
 ·unfold xaX;rw[VT h,VT c]
 ·unfold xaD;rw[VT h,VT c]
 ·unfold xaA;rw[VT h,VT c]
theorem af9 (h:g=true)(c:clsOf z<0):xaC g a0 a1 a2 a3 a4 a5 a6 a7 a9 aE aI aJ aK t z=xpC a0 a1 a2 a3 a4 a5 (pfN z)/\xaU g a0 a1 a2 a3 a4 a5 a6 a7 a9 aE aI aJ aK t z=xpU a0 a1 a2 a3 a4 a5 (pfN z)/\xaE g a0 a1 a2 a3 a4 a5 a6 a7 a9 aE aI aJ aK t z=xpE a0 a1 a2 a3 a4 a5 (pfN z)/\xaK g a0 a1 a2 a3 a4 a5 a6 a7 a9 aE aI aJ aK t z=xpK a1 a2 a3 a4 a5 (pfN z)/\xaF g a0 a1 a2 a3 a4 a5 a6 a7 a9 aE aI aJ aK t z=xpF a1 a2 a3 a4 a5 (pfN z)/\xaS g a0 a1 a2 a3 a4 a5 a6 a7 a9 aE aI aJ aK t z=a6/\xaL g a0 a1 a2 a3 a4 a5 a6 a7 a9 aE aI aJ aK t z=xlL a1 a2 a3 a4 a5 a7 z/\xaX g a0 a1 a2 a3 a4 a5 a6 a7 a9 aE aI aJ aK t z=a9/\xaD g a0 a1 a2 a3 a4 a5 a6 a7 a9 aE aI aJ aK t z=aE/\xaA g a0 a1 a2 a3 a4 a5 a6 a7 a9 aE aI aJ aK t z=xlA a1 a2 a3 a4 a5 z:=by
 refine⟨?_,?_,?_,?_,?_,?_,?_,?_,?_,?_⟩
 ·unfold xaC;rw[VT h,VU (by omega)]
 ·unfold xaU;rw[VT h,VU (by omega)]
 ·unfold xaE;rw[VT h,VU (by omega)]
 ·unfold xaK;rw[VT h,VU (by omega)]
 ·unfold xaF;rw[VT h,VU (by omega)]
 ·unfold xaS;rw[VT h,VU (by omega)]
 ·unfold xaL;rw[VT h,VU (by omega)]
 ·unfold xaX;rw[VT h,VU (by omega)]
 ·unfold xaD;rw[VT h,VU (by omega)]
 ·unfold xaA;rw[VT h,VU (by omega)]
end
def xaP (a8:af)(aH t z w:Int):af:=if 0<=w then inL a8 (Gn a8 1 w) [[.i aH,.i w,.i z,.i t]]else a8
def xaN (aH w:Int):Int:=if 0<=w then aH+1 else aH
def xaR (c w:Int):Int:=if c≠0 then c else if w<0 then 4 else 0
end Go.V
namespace Go.V
theorem afE {A B:Prop}(b:Bool)(h1:b=true->A)(h2:b=false->B):A\/B:=by
 cases b with
 |true=>exact .inl (h1 rfl)
 |false=>exact .inr (h2 rfl)
theorem TE {ls:af}{k:Int}(h:ctB ls k=true):0<=ctA ls k/\ctA ls k<=511:=by
 have e:=(TG h).2;unfold ctB clB at h;simp only[Zc,VR]at h;obtain⟨⟨r,ca⟩,l⟩:=h;have q:=be.1 r;unfold caOk at ca;simp only[Zc]at ca;have a:=dh.1 ca.2.1 k q.1 (by omega);unfold KF at a;rw[Zc]at a;have b:=dh.1 a.2 ((aw ls k 0).length-1) (by omega) (by omega);unfold KG at b;rw[Zc]at b;rw[e];exact be.1 b.1
theorem Iq {es:af}{i:Int}{r:aT}{j:Nat}(i0:0<=i)(i1:i<=es.length):ag (inL es i [r]) i j=Ly (r.getD j .g):=by
 have h:(inL es i [r]).getD i.toNat []=r:=by
  unfold inL;rw[Zm,ZJ (by rw[Zh];omega),Zh,show i.toNat-min i.toNat es.length=0 by omega];rfl
 unfold ag;rw[h]
section
variable {a0 a1 a2: af} {a3: Int} {a4 a5 a6 a7 a8 a9 aA aB aD aL: af} {aC aE aF aG aH: Int} {aI: Bool} {aJ aK aM aN t k i z n p b w: Int} {g: Bool}
theorem adG (hc:lq a0 a1 a2 a4 a5 a6 a7 a8 a9 aA aB aD aL)(km:lM a0 a1 a2):lq (xpC a0 a1 a2 a3 a4 a5 n) (xpU a0 a1 a2 a3 a4 a5 n) (xpE a0 a1 a2 a3 a4 a5 n) a4 (xpF a1 a2 a3 a4 a5 n) a6 a7 a8 a9 aA aB aD aL:=by
 have m:=agi (a3:=a3) (a4:=a4) (a5:=a5) (n:=n) km hc.r0 hc.r1 hc.r2;have f:=R3 (a1:=a1) (a2:=a2) (a3:=a3) (a4:=a4) (n:=n) hc.r5;have c5:=hc.c5;rw[hc.r5.cnt rfl]at c5;exact {hc with r0:=m.2.1,r1:=m.2.2.1,r2:=m.2.2.2.1,r5:=f.1,c0:=ZN m.2.2.2.2.2.1 (by decide),c1:=ZN m.2.2.2.2.2.2.1 (by decide),c2:=ZN m.2.2.2.2.2.2.2 (by decide),c5:=by rw[f.1.cnt rfl];omega}
theorem Qo (h:Rw [tI,tI,tI] a6)(l:a6.length<=1073741824)(hp: -9223372036854775808<=p/\p<=9223372036854775807)(hk: -9223372036854775808<=k/\k<=9223372036854775807)(hb: -9223372036854775808<=b/\b<=9223372036854775807):Rw [tI,tI,tI] (isL a6 p k b)/\(isL a6 p k b).length=a6.length+1:=by
 unfold isL;refine⟨abi h (Rw.one (show bR [tI,tI,tI] [.i p,.i k,.i b]from⟨⟨rfl,hp⟩,⟨rfl,hk⟩,⟨rfl,hb⟩,trivial⟩)) (by unfold maxLen;simp only[Zj,Zk];omega),De⟩
theorem abj (hc:lq a0 a1 a2 a4 a5 a6 a7 a8 a9 aA aB aD aL)(c6:ap a6<=1000000000)(hp: -9223372036854775808<=p/\p<=9223372036854775807)(hk: -9223372036854775808<=k/\k<=9223372036854775807)(hb: -9223372036854775808<=b/\b<=9223372036854775807):lq a0 a1 a2 a4 a5 (isL a6 p k b) a7 a8 a9 aA aB aD aL:=by
 have l:=aO (es:=a6);have s:=Qo (p:=p) (k:=k) (b:=b) hc.r6 (by omega) hp hk hb;rw[hc.r6.cnt rfl]at c6;exact {hc with r6:=s.1,c6:=by rw[s.1.cnt rfl,s.2];omega}
theorem Ov (h:xpB a1 a2 a3 a4 a5 1=true)(hk:inR k 0 3=true):spOk (ag (isL a6 (xpA a1 a2 a3 a4 a5 1) k 0) (isI a6 (xpA a1 a2 a3 a4 a5 1)) 0) (ag (isL a6 (xpA a1 a2 a3 a4 a5 1) k 0) (isI a6 (xpA a1 a2 a3 a4 a5 1)) 1) (ag (isL a6 (xpA a1 a2 a3 a4 a5 1) k 0) (isI a6 (xpA a1 a2 a3 a4 a5 1)) 2)=true:=by
 obtain⟨h1,h2,_⟩:=adE h;have q:=J2 h1;have lb:=IB (rs:=a6) (j:=0) (x:=xpA a1 a2 a3 a4 a5 1);unfold isL isI;rw[Iq lb.1 lb.2,Iq lb.1 lb.2,Iq lb.1 lb.2];show spOk (xpA a1 a2 a3 a4 a5 1) k 0=true;unfold spOk;rw[h2,be.2 ⟨q.1,by omega⟩,Yp];rcases Pg hk with rfl|rfl|rfl|rfl<;>decide
theorem J3 (h:xpB a1 a2 a3 a4 a5 n=true):0<=xpA a1 a2 a3 a4 a5 n/\xpA a1 a2 a3 a4 a5 n<=31/\xpA a1 a2 a3 a4 a5 n+n<=a2.length/\1<=n/\n<=32:=by
 obtain⟨h1,h2,_⟩:=adE h;have q:=J2 h1;rw[h2];omega
theorem ae5 (h6:Rw [tI,tI,tI] a6):0<=isI a6 p/\isI a6 p<(isL a6 p k b).length:=by
 have lb:=IB (rs:=a6) (j:=0) (x:=p);unfold isI isL;rw[De];simp only[Zj,Zk];omega
theorem FW (hk:hpI a0 a1 a2 a3 a4 a5 a6 a7 a8 a9 aA aB aC aD aE aF aG aH aI aJ aK aL aM aN=true)(i0:0<=i)(i1:i<a6.length):spOk (ag a6 i 0) (ag a6 i 1) (ag a6 i 2)=true:=by
 have s:=(LC (gB hk).l).s i.toNat (by omega)
 rwa [Zr i0]at s
theorem vJ (c:0<=clsOf z):inR (clsOf z) 0 3=true:=by
 refine be.2 ⟨c,?_⟩;unfold clsOf;repeat' split
 all_goals omega
theorem R1 (hk:hpI a0 a1 a2 a3 a4 a5 a6 a7 a8 a9 aA aB aC aD aE aF aG aH aI aJ aK aL aM aN=true)(kk:inR k 0 3=true):(xmB a0 a1 a2 a3 a4 a5 a6 a9 aE aI aJ aK t k=true/\0<=xmA a0 a1 a2 a3 a4 a5 a6 a9 aE aI aJ aK t k/\xmA a0 a1 a2 a3 a4 a5 a6 a9 aE aI aJ aK t k<=511)\/(xmB a0 a1 a2 a3 a4 a5 a6 a9 aE aI aJ aK t k=false/\xmA a0 a1 a2 a3 a4 a5 a6 a9 aE aI aJ aK t k= -1):=by
 have H:=gB hk;cases c:ctB (aw a9 t 0) k with
 | true=>
   obtain⟨_,_,_,_,_,_,_,_,q9,q10⟩:=adu (a0:=a0) (a1:=a1) (a2:=a2) (a3:=a3) (a4:=a4) (a5:=a5) (a6:=a6) (aE:=aE) (aI:=aI) (aJ:=aJ) (aK:=aK) c;rw[q9,q10];exact .inl ⟨rfl,TE c⟩
 | false=>
   by_cases i:0<=FV a2 a6 aI aJ aK k
   ·obtain⟨_,_,_,_,_,_,_,_,q9,q10⟩:=adw (a0:=a0) (a1:=a1) (a3:=a3) (a4:=a4) (a5:=a5) (aE:=aE) c i rfl;rw[q9,q10];have il:=fV i;change FV a2 a6 aI aJ aK k<a6.length/\Cm a2 a6 aI aJ aK k (FV a2 a6 aI aJ aK k)=true at il;have y:=il.2;unfold Cm at y;simp only[Zc]at y;have n:¬ (pq a2 a6 (FV a2 a6 aI aJ aK k)).length=0:=by have:=VV y.2.2;omega
    have X:=FU (a2:=a2) (FW hk i il.1) H.s n;rw[(Mz n).2.2.2];exact .inl ⟨rfl,X.a0,X.a1⟩
   ·cases d:xpB a1 a2 a3 a4 a5 1 with
    | false=>
      obtain⟨_,_,_,_,_,_,_,_,q9,q10⟩:=adx (a0:=a0) (aE:=aE) c (WY.1 i) d;rw[q9,q10];exact .inr ⟨rfl,rfl⟩
    | true=>
      obtain⟨_,_,_,_,_,_,_,_,q9,q10⟩:=ady (a0:=a0) (aE:=aE) c (WY.1 i) d;rw[q9,q10];by_cases n:(pq (xpE a0 a1 a2 a3 a4 a5 1) (isL a6 (xpA a1 a2 a3 a4 a5 1) k 0) (isI a6 (xpA a1 a2 a3 a4 a5 1))).length=0
      ·have q:=My (s:=aE) n;rw[q.1,q.2.2.2];exact .inr ⟨rfl,rfl⟩
      ·have q:=Mz (s:=aE) n;have X:=FU (Ov d kk) H.s n;rw[q.1,q.2.2.2];exact .inl ⟨rfl,X.a0,X.a1⟩
theorem adp:(xpB a1 a2 a3 a4 a5 (pfN z)=true/\0<=xlA a1 a2 a3 a4 a5 z/\xlA a1 a2 a3 a4 a5 z<=511)\/(xpB a1 a2 a3 a4 a5 (pfN z)=false/\xlA a1 a2 a3 a4 a5 z= -1):=by
 unfold xlA;cases d:xpB a1 a2 a3 a4 a5 (pfN z)with
 |true=>have:=J3 d;exact .inl ⟨rfl,by rw[VT rfl];omega,by rw[VT rfl];omega⟩
 |false=>exact .inr ⟨rfl,rfl⟩
theorem adz (h:upto (cR (Cm a2 a6 aI aJ aK k)) i)(i0:0<=i)(i1:i<a6.length)(e:ag a6 i 1=k)(f:bsB aI aJ aK (ag a6 i 0)=false)(x:xcB a2 a6 i=true):FV a2 a6 aI aJ aK k=i:=
 dI h i0 i1 (by unfold Cm;rw[ya e,f,x];rfl)
theorem Or (h:upto (cR (Cm a2 a6 aI aJ aK k)) i)(i1:(a6.length:Int)<=i):FV a2 a6 aI aJ aK k<0:=by
 unfold FV;rw[eN h i1];omega
theorem adB (h:upto (cR (Cm a2 a6 aI aJ aK k)) i)(e:ag a6 i 1≠k):upto (cR (Cm a2 a6 aI aJ aK k)) (i+1):=bN h (gj (by unfold Cm;rw[A5 e];rfl))
theorem adC (h:upto (cR (Cm a2 a6 aI aJ aK k)) i)(f:bsB aI aJ aK (ag a6 i 0)=true):upto (cR (Cm a2 a6 aI aJ aK k)) (i+1):=bN h (gj (by unfold Cm;rw[f];simp))
theorem adD (h:upto (cR (Cm a2 a6 aI aJ aK k)) i)(x:xcB a2 a6 i=false):upto (cR (Cm a2 a6 aI aJ aK k)) (i+1):=bN h (gj (by unfold Cm;rw[x];simp))
theorem R7 (h:Oy a1 a2 a3 a4 a5 a6 k<0):xpB a1 a2 a3 a4 a5 1=false:=by
 cases c:xpB a1 a2 a3 a4 a5 1 with
 |false=>rfl
 | true=>
   unfold Oy isI at h;rw[VT c]at h;have:=IB (rs:=a6) (j:=0) (x:=xpA a1 a2 a3 a4 a5 1);omega
theorem R8 (h:0<=Oy a1 a2 a3 a4 a5 a6 k):xpB a1 a2 a3 a4 a5 1=true:=by
 cases c:xpB a1 a2 a3 a4 a5 1 with
 |true=>rfl
 | false=>
   unfold Oy at h;rw[c]at h;exact absurd (show(0:Int)<= -1 from h) (by omega)
theorem adL (c:xpB a1 a2 a3 a4 a5 1=true):Oy a1 a2 a3 a4 a5 a6 k=isI a6 (xpA a1 a2 a3 a4 a5 1)/\xsL a1 a2 a3 a4 a5 a6 k=isL a6 (xpA a1 a2 a3 a4 a5 1) k 0:=by
 unfold Oy xsL;rw[VT c,VT c];exact⟨rfl,rfl⟩
theorem agn (c:xpB a1 a2 a3 a4 a5 1=false):xsL a1 a2 a3 a4 a5 a6 k=a6:=by unfold xsL;rw[c];rfl
theorem ado (hs:spOk (ag a6 i 0) (ag a6 i 1) (ag a6 i 2)=true)(hd:inR aE 0 1073741823=true)(x:xcB a2 a6 i=true):0<=xcA a2 a6 aE i:=by
 have n:¬ (pq a2 a6 i).length=0:=by have:=VV x;omega
 rw[(Mz n).2.2.2];exact(FU hs hd n).a0
theorem Oj {x:af}(h:Rw [.sl [.sl [tI]]] a9)(t0:0<=t)(t1:t<a9.length):jq (.s 1 a9) [(t.toNat,0)] [.s 1 x]=a9.set t.toNat [.s 1 x]:=eG (by rw[h.eta t0 t1];rfl)
theorem R2 (hc:lq a0 a1 a2 a4 a5 a6 a7 a8 a9 aA aB aD aL)(km:lM a0 a1 a2)(c6:ap a6<=1000000000)(kk:inR k 0 3=true)(hd:inR aE 0 1073741823=true)(c:xpB a1 a2 a3 a4 a5 1=true):
 lq (xpC a0 a1 a2 a3 a4 a5 1) (xpU a0 a1 a2 a3 a4 a5 1) (xpE a0 a1 a2 a3 a4 a5 1) a4 (xpF a1 a2 a3 a4 a5 1) (isL a6 (xpA a1 a2 a3 a4 a5 1) k 0) a7 a8 a9 aA aB aD aL/\0<=isI a6 (xpA a1 a2 a3 a4 a5 1)/\isI a6 (xpA a1 a2 a3 a4 a5 1)<(isL a6 (xpA a1 a2 a3 a4 a5 1) k 0).length/\spOk (ag (isL a6 (xpA a1 a2 a3 a4 a5 1) k 0) (isI a6 (xpA a1 a2 a3 a4 a5 1)) 0) (ag (isL a6 (xpA a1 a2 a3 a4 a5 1) k 0) (isI a6 (xpA a1 a2 a3 a4 a5 1)) 1) (ag (isL a6 (xpA a1 a2 a3 a4 a5 1) k 0) (isI a6 (xpA a1 a2 a3 a4 a5 1)) 2)=true/\inR aE 0 1073741823=true:=by
 have pg:=J3 c;have kr:=be.1 kk;have ii:=ae5 (p:=xpA a1 a2 a3 a4 a5 1) (k:=k) (b:=0) hc.r6;exact⟨abj (adG hc km) c6 (by omega) (by omega) (by omega),ii.1,ii.2,Ov c kk,hd⟩
end
end Go.V
namespace Go.V
section
variable {a0 a1 a2: af} {a3: Int} {a4 a5 a6 a7 a8 a9: af} {z: Int}
theorem afG (_: -9223372036854775808<=z)(_:z<=9223372036854775807): -9223372036854775808<=pfN z/\pfN z<=9223372036854775807:=by
 unfold pfN;split
 ·rename_i h;have:=be.1 h;omega
 ·omega
theorem agd (c:xpB a1 a2 a3 a4 a5 (pfN z)=true):xlL a1 a2 a3 a4 a5 a7 z=inL a7 (Gn a7 0 (xpA a1 a2 a3 a4 a5 (pfN z))) [[.i (xpA a1 a2 a3 a4 a5 (pfN z)),.i (pfN z),.i z]]/\xlA a1 a2 a3 a4 a5 z=xpA a1 a2 a3 a4 a5 (pfN z)*16:=by
 unfold xlL xlA;rw[VT c,VT c];exact⟨rfl,rfl⟩
theorem adr (c:xpB a1 a2 a3 a4 a5 (pfN z)=false):xlL a1 a2 a3 a4 a5 a7 z=a7/\xlA a1 a2 a3 a4 a5 z= -1:=by
 unfold xlL xlA;rw[c];exact⟨rfl,rfl⟩
end
theorem J1 {h:Bool}{a3:Int}{a8 a9:af}{aG aH t z:Int}(e:h=false\/aH=1000000\/90000<a3):xaG h a3 a8 a9 aG aH t z=5:=by unfold xaG;rw[VT e]
theorem adf {h:Bool}{a3:Int}{a8 a9:af}{aG aH t z:Int}(e1:h=true)(e2:aH≠1000000)(e3:a3<=90000)(e4:inR t 0 (a9.length-1)=false):xaG h a3 a8 a9 aG aH t z=1:=by unfold xaG;rw[VU (by rintro(q|q|q);(rw[e1]at q;cases q);(exact e2 q);omega),VT e4]
theorem adg {h:Bool}{a3:Int}{a8 a9:af}{aG aH t z:Int}(e1:h=true)(e2:aH≠1000000)(e3:a3<=90000)(e4:inR t 0 (a9.length-1)=true)(e5:inR z 1 1000=false):xaG h a3 a8 a9 aG aH t z=2:=by unfold xaG;rw[VU (by rintro(q|q|q);(rw[e1]at q;cases q);(exact e2 q);omega),VU (by rw[e4];decide),VT e5]
theorem adh {h:Bool}{a3:Int}{a8 a9:af}{aG aH t z:Int}(e1:h=true)(e2:aH≠1000000)(e3:a3<=90000)(e4:inR t 0 (a9.length-1)=true)(e5:inR z 1 1000=true)(e6:aG<bO .add Za (lsI a8) z):xaG h a3 a8 a9 aG aH t z=3:=by unfold xaG;rw[VU (by rintro(q|q|q);(rw[e1]at q;cases q);(exact e2 q);omega),VU (by rw[e4];decide),VU (by rw[e5];decide),VT e6]
theorem adi {h:Bool}{a3:Int}{a8 a9:af}{aG aH t z:Int}(e1:h=true)(e2:aH≠1000000)(e3:a3<=90000)(e4:inR t 0 (a9.length-1)=true)(e5:inR z 1 1000=true)(e6:bO .add Za (lsI a8) z<=aG):xaG h a3 a8 a9 aG aH t z=0:=by unfold xaG;rw[VU (by rintro(q|q|q);(rw[e1]at q;cases q);(exact e2 q);omega),VU (by rw[e4];decide),VU (by rw[e5];decide),VU (by omega)]
theorem adj {h:Bool}{a3:Int}{a8 a9:af}{aG aH t z c:Int}(e:xaG h a3 a8 a9 aG aH t z=c)(n:c≠0):xaO h a3 a8 a9 aG aH t z=false:=VQ (by rw[e];exact n)
theorem Oq {h:Bool}{a3:Int}{a8 a9:af}{aG aH t z:Int}(e:xaG h a3 a8 a9 aG aH t z=0):xaO h a3 a8 a9 aG aH t z=true:=VP e
theorem adn {c w:Int}(h:c=0)(n:w<0):xaR c w=4:=by unfold xaR;rw[VU (fun q=>q h),VT n]
theorem adm {c w:Int}(h:c=0)(n:0<=w):xaR c w=0:=by unfold xaR;rw[VU (fun q=>q h),VU (by omega)]
theorem adk {a8:af}{aH t z w:Int}(n:w<0):xaP a8 aH t z w=a8/\xaN aH w=aH:=⟨VU (by omega),VU (by omega)⟩
theorem adl {a8:af}{aH t z w:Int}(n:0<=w):xaP a8 aH t z w=inL a8 (Gn a8 1 w) [[.i aH,.i w,.i z,.i t]]/\xaN aH w=aH+1:=⟨VT n,VT n⟩
section
variable {g: Bool}
variable {a0 a1 a2: af} {a3: Int} {a4 a5 a6 a7 a8 a9 aA aB aD aL: af} {aC aE aF aG aH: Int} {aI: Bool} {aJ aK aM aN t k i z: Int}
theorem agf {w:Int}(hk:hpI a0 a1 a2 a3 a4 a5 a6 a7 a8 a9 aA aB aC aD aE aF aG aH aI aJ aK aL aM aN=true)(kk:inR k 0 3=true)(b:xmB a0 a1 a2 a3 a4 a5 a6 a9 aE aI aJ aK t k=false)(hw:xmA a0 a1 a2 a3 a4 a5 a6 a9 aE aI aJ aK t k=w):w<0:=by
 rcases R1 (t:=t) hk kk with q|q
 ·rw[b]at q;cases q.1
 ·omega
theorem agh {w:Int}(hk:hpI a0 a1 a2 a3 a4 a5 a6 a7 a8 a9 aA aB aC aD aE aF aG aH aI aJ aK aL aM aN=true)(kk:inR k 0 3=true)(b:xmB a0 a1 a2 a3 a4 a5 a6 a9 aE aI aJ aK t k=true)(hw:xmA a0 a1 a2 a3 a4 a5 a6 a9 aE aI aJ aK t k=w):0<=w:=by
 rcases R1 (t:=t) hk kk with q|q;omega
 ·rw[b]at q;cases q.1
theorem ads {w:Int}(b:xpB a1 a2 a3 a4 a5 (pfN z)=false)(hw:xlA a1 a2 a3 a4 a5 z=w):w<0:=by
 have:=(adr (a7:=([]:af)) b).2;omega
theorem adt {w:Int}(b:xpB a1 a2 a3 a4 a5 (pfN z)=true)(hw:xlA a1 a2 a3 a4 a5 z=w):0<=w:=by
 rcases adp (a1:=a1) (a2:=a2) (a3:=a3) (a4:=a4) (a5:=a5) (z:=z)with q|q;omega
 ·rw[b]at q;cases q.1
theorem adA {w:Int}(hk:hpI a0 a1 a2 a3 a4 a5 a6 a7 a8 a9 aA aB aC aD aE aF aG aH aI aJ aK aL aM aN=true)(kk:inR k 0 3=true)(hw:xmA a0 a1 a2 a3 a4 a5 a6 a9 aE aI aJ aK t k=w)(h:w<0):w= -1:=by
 rcases R1 (t:=t) hk kk with q|q<;>omega
theorem adq {w:Int}(hw:xlA a1 a2 a3 a4 a5 z=w)(h:w<0):w= -1:=by
 rcases adp (a1:=a1) (a2:=a2) (a3:=a3) (a4:=a4) (a5:=a5) (z:=z)with q|q<;>omega
end
end Go.V
namespace Go.V
theorem sn {cs:af}{i i' h h':Int}(a:i=i')(b:h=h'):[H.ro (.s 1 cs),H.own (.i i),H.own (.i h)]=[H.ro (.s 1 cs),H.own (.i i'),H.own (.i h')]:=by rw[a,b]
def bgB (cs:af):Bool:=decide ((cs.length:Int)>1048576)
theorem S9 {cs:af}(h:bgB cs=false):cs.length<=1048576:=by
 unfold bgB at h;simp only[decide_eq_false_iff_not]at h;omega
theorem NG {w:Nat}{l:af}{i:Int}{j:Nat}(h0:0<=i):zI (.s w l) [(i.toNat,j)]=ag l i j:=by
 rw[zJ];unfold ag;rw[ZG]
theorem cm0 {x c:Int}(h:x=c):cW .eql x c=true:=by subst h;simp[cW]
theorem no0 {x c:Int}(h:x=c)(q:cW .eql x c=false):False:=by rw[cm0 h]at q;cases q
theorem tf0 {b:Bool}(h:b=true)(q:b=false):False:=by rw[h]at q;cases q
theorem dbt {a:Bool}(h:a=true):[DV.k a]=[DV.k true]:=by rw[h]
end Go.V
namespace Go.V
structure HV where
 (a0 a1 a2:af) (a3:Int) (a4 a5 a6 a7 a8 a9 aA aB:af) (aC:Int) (aD:af) (aE aF aG aH:Int) (aI:Bool) (aJ aK:Int) (aL:af) (aM aN:Int)
def hvN (p f t l:Int)(rs:af):HV:=⟨hnC p f t l rs,hnU p f t l rs,hnE p f t l rs,0,hnR p f t l rs,hnF p f t l rs,[],[],[],hnK p f t l rs,hnM p f t l rs,hnI p f t l rs,hnQ p f t l rs,[],0,0,hnL p f t l rs,hnN p f t l rs,false,0,0,[],0,0⟩
def HV.hp (h:HV):Bool:=hpI h.a0 h.a1 h.a2 h.a3 h.a4 h.a5 h.a6 h.a7 h.a8 h.a9 h.aA h.aB h.aC h.aD h.aE h.aF h.aG h.aH h.aI h.aJ h.aK h.aL h.aM h.aN
def HV.ao (h:HV)(t z:Int):Bool:=xaO h.hp h.a3 h.a8 h.a9 h.aG h.aH t z
def HV.aQ (h:HV)(t z:Int):Int:=xaA (h.ao t z) h.a0 h.a1 h.a2 h.a3 h.a4 h.a5 h.a6 h.a7 h.a9 h.aE h.aI h.aJ h.aK t z
def HV.aR (h:HV)(t z:Int):Int:=xaR (xaG h.hp h.a3 h.a8 h.a9 h.aG h.aH t z) (h.aQ t z)
def HV.al (h:HV)(t z:Int):HV:=
 let g:=h.ao t z
 ⟨xaC g h.a0 h.a1 h.a2 h.a3 h.a4 h.a5 h.a6 h.a7 h.a9 h.aE h.aI h.aJ h.aK t z,xaU g h.a0 h.a1 h.a2 h.a3 h.a4 h.a5 h.a6 h.a7 h.a9 h.aE h.aI h.aJ h.aK t z,
  xaE g h.a0 h.a1 h.a2 h.a3 h.a4 h.a5 h.a6 h.a7 h.a9 h.aE h.aI h.aJ h.aK t z,xaK g h.a0 h.a1 h.a2 h.a3 h.a4 h.a5 h.a6 h.a7 h.a9 h.aE h.aI h.aJ h.aK t z,
  h.a4,xaF g h.a0 h.a1 h.a2 h.a3 h.a4 h.a5 h.a6 h.a7 h.a9 h.aE h.aI h.aJ h.aK t z,xaS g h.a0 h.a1 h.a2 h.a3 h.a4 h.a5 h.a6 h.a7 h.a9 h.aE h.aI h.aJ h.aK t z,
  xaL g h.a0 h.a1 h.a2 h.a3 h.a4 h.a5 h.a6 h.a7 h.a9 h.aE h.aI h.aJ h.aK t z,xaP h.a8 h.aH t z (h.aQ t z),xaX g h.a0 h.a1 h.a2 h.a3 h.a4 h.a5 h.a6 h.a7 h.a9 h.aE h.aI h.aJ h.aK t z,
  h.aA,h.aB,h.aC,h.aD,xaD g h.a0 h.a1 h.a2 h.a3 h.a4 h.a5 h.a6 h.a7 h.a9 h.aE h.aI h.aJ h.aK t z,h.aF,h.aG,xaN h.aH (h.aQ t z),h.aI,h.aJ,h.aK,h.aL,h.aM,h.aN⟩
def HV.lv (h:HV)(a:Int):Int:=hlV (ooI h.hp h.a8 a) (ldV h.a0 h.a1 h.a2 a)
def HV.lk (h:HV)(a:Int):Int:=hlK (ooI h.hp h.a8 a)
def O8:Nat->Ty->L->Bool
 |_,.int k,.v (.int k' n)=>decide (k'=k)&&(decide (k.min<=n)&&decide (n<=k.max))
 |_,.bool,.v (.bool _)=>true
 |k+1,.sl fs,.s sz es=>decide (sz=fs.length)&&(decide (es.length<=maxLen)&&es.all fun e=>decide (e.length=fs.length)&&(fs.zip e).all fun p=>O8 k p.1 p.2)
 |_,_,_=>false
theorem J6 {k:Nat}(ih:∀ {t:Ty} {l:L},O8 k t l=true->dq t l):∀ {fs:List Ty} {e:aT},e.length=fs.length->((fs.zip e).all fun p=>O8 k p.1 p.2)=true->bR fs e
 |[],[],_,_=>by simp[bR]
 |[],_::_,h,_=>by cases h
 |_::_,[],h,_=>by cases h
 | t::fs,l::e,h,q=>by
   simp only[List.zip_cons_cons,List.all_cons,Zc]at q;simp only[bR];exact⟨ih q.1,J6 ih (by simpa using h) q.2⟩
theorem O9:∀ {k:Nat} {t:Ty} {l:L},O8 k t l=true->dq t l:=by
 intro k
 induction k with
 | zero=>
   intro t l h;unfold O8 at h;split at h
   ·simp only[Zc,VR]at h;simp only[dq];exact⟨h.1,h.2⟩
   ·simp only[dq]
   ·rename_i e;cases e
   ·cases h
 | succ k ih=>
   intro t l h;unfold O8 at h;split at h
   ·simp only[Zc,VR]at h;simp only[dq];exact⟨h.1,h.2⟩
   ·simp only[dq]
   ·rename_i e;cases e;simp only[Zc,VR]at h;simp only[dq];refine⟨h.1,h.2.1,fun e he=>?_⟩;have q:=List.all_eq_true.1 h.2.2 e he;simp only[Zc,VR]at q;exact J6 ih q.1 q.2
   ·cases h
def FL (fs:List Ty)(es:af):Bool:=O8 4 (.sl fs) (.s fs.length es)
theorem je {fs:List Ty}{es:af}(h:FL fs es=true):Rw fs es:=by
 have q:=O9 h;simp only[dq]at q;exact q.2
def HV.wf (h:HV):Bool:=
 FL [.sl [tI]] h.a0&&(FL [tB] h.a1&&(FL [tI,tI] h.a2&&(FL [tI] h.a4&&(FL [tI,tI] h.a5&&(FL [tI,tI,tI] h.a6&&(FL [tI,tI,tI] h.a7&&(FL [tI,tI,tI,tI] h.a8&&(FL [.sl [.sl [tI]]] h.a9&&
 (FL [.sl [tI,tI]] h.aA&&(FL [.sl [tI]] h.aB&&(FL [tI,tI,tI] h.aD&&(FL [tI] h.aL&&decide (xW [h.a0,h.a1,h.a2,h.a4,h.a5,h.a6,h.a7,h.a8,h.a9,h.aA,h.aB,h.aD,h.aL]<=1048576)))))))))))))
theorem HV.wf_hc {h:HV}(w:h.wf=true):lq h.a0 h.a1 h.a2 h.a4 h.a5 h.a6 h.a7 h.a8 h.a9 h.aA h.aB h.aD h.aL/\ap h.a6<=1000000000/\ap h.a7<=1000000000/\ap h.a8<=1000000000/\ap h.a9<=300000000/\ap h.aA<=500000000/\ap h.aB<=1000000000:=by
 simp only[HV.wf,Zc,VR]at w;obtain⟨h0,h1,h2,h4,h5,h6,h7,h8,h9,h10,h11,h13,h21,hs⟩:=w;have c:=MU hs;exact⟨P3 (je h0) (je h1) (je h2) (je h4) (je h5) (je h6) (je h7) (je h8) (je h9) (je h10) (je h11) (je h13) (je h21) hs,by have:=c.2.2.2.2.2.1;omega,by have:=c.2.2.2.2.2.2.1;omega,by have:=c.2.2.2.2.2.2.2.1;omega,by have:=c.2.2.2.2.2.2.2.2.1;omega,by have:=c.2.2.2.2.2.2.2.2.2.1;omega,by have:=c.2.2.2.2.2.2.2.2.2.2.1;omega⟩
end Go.V
namespace Go.V
def HV.fr (h:HV)(t ad:Int):HV:=⟨(ifR (fbL (t0B h.hp h.a3 t h.a9) h.a8 ad) (lgC h.a0 h.a1 h.a2 h.a7 ad) (ifR (fbP (t0B h.hp h.a3 t h.a9) h.a2 h.a8 h.aA h.aB t ad) (fcC h.a0 h.a2 h.a8 ad) (ifR (fbQ (t0B h.hp h.a3 t h.a9) h.a2 h.a8 t ad) (raC h.aI h.aJ h.aK (fcC h.a0 h.a2 h.a8 ad) h.a1 h.a2 h.a5 h.a6 h.a9 t (fqR h.a8 h.aC h.aD h.aF ad)) h.a0))),(ifR (fbL (t0B h.hp h.a3 t h.a9) h.a8 ad) (lgU h.a0 h.a1 h.a2 h.a7 ad) (ifR (fbQ (t0B h.hp h.a3 t h.a9) h.a2 h.a8 t ad) (raU h.aI h.aJ h.aK (fcC h.a0 h.a2 h.a8 ad) h.a1 h.a2 h.a5 h.a6 h.a9 t (fqR h.a8 h.aC h.aD h.aF ad)) h.a1)),(ifR (fbL (t0B h.hp h.a3 t h.a9) h.a8 ad) (lgE h.a0 h.a1 h.a2 h.a7 ad) (ifR (fbQ (t0B h.hp h.a3 t h.a9) h.a2 h.a8 t ad) (raE h.aI h.aJ h.aK (fcC h.a0 h.a2 h.a8 ad) h.a1 h.a2 h.a5 h.a6 h.a9 t (fqR h.a8 h.aC h.aD h.aF ad)) h.a2)),h.a3,h.a4,(ifR (fbL (t0B h.hp h.a3 t h.a9) h.a8 ad) (lgF h.a0 h.a1 h.a2 h.a5 h.a7 ad) (ifR (fbQ (t0B h.hp h.a3 t h.a9) h.a2 h.a8 t ad) (raF h.aI h.aJ h.aK (fcC h.a0 h.a2 h.a8 ad) h.a1 h.a2 h.a5 h.a6 h.a9 t (fqR h.a8 h.aC h.aD h.aF ad)) h.a5)),(ifR (fbQ (t0B h.hp h.a3 t h.a9) h.a2 h.a8 t ad) (raS h.aI h.aJ h.aK (fcC h.a0 h.a2 h.a8 ad) h.a1 h.a2 h.a5 h.a6 h.a9 t (fqR h.a8 h.aC h.aD h.aF ad)) h.a6),(ifR (fbL (t0B h.hp h.a3 t h.a9) h.a8 ad) (lgL h.a7 ad) h.a7),(ifR (fbL (t0B h.hp h.a3 t h.a9) h.a8 ad) (foO h.a8 ad) (ifR (fbP (t0B h.hp h.a3 t h.a9) h.a2 h.a8 h.aA h.aB t ad) (foO h.a8 ad) (ifR (fbQ (t0B h.hp h.a3 t h.a9) h.a2 h.a8 t ad) (foO h.a8 ad) h.a8))),(ifR (fbQ (t0B h.hp h.a3 t h.a9) h.a2 h.a8 t ad) (raD h.aI h.aJ h.aK (fcC h.a0 h.a2 h.a8 ad) h.a1 h.a2 h.a5 h.a6 h.a9 t (fqR h.a8 h.aC h.aD h.aF ad)) h.a9),(ifR (fbP (t0B h.hp h.a3 t h.a9) h.a2 h.a8 h.aA h.aB t ad) (sdU h.aA t (foT h.a8 ad) ad) h.aA),h.aB,h.aC,(ifR (fbQ (t0B h.hp h.a3 t h.a9) h.a2 h.a8 t ad) (fqL h.a8 h.aC h.aD h.aF ad) h.aD),h.aE,h.aF,h.aG,h.aH,h.aI,h.aJ,h.aK,h.aL,h.aM,h.aN⟩
def HV.fr1 (h:HV)(t ad:Int):Int:=(hfK h.hp h.a3 h.a2 h.a6 h.a7 h.a8 h.a9 h.aA h.aB t ad)
def HV.de (h:HV)(f:Int):HV:=⟨h.a0,h.a1,h.a2,h.a3,h.a4,h.a5,h.a6,h.a7,h.a8,h.a9,(dvB h.hp h.aA h.aB f),(dvI h.hp h.aA h.aB f),h.aC,h.aD,h.aE,h.aF,h.aG,h.aH,h.aI,h.aJ,h.aK,h.aL,h.aM,h.aN⟩
def HV.de1 (h:HV)(f:Int):Bool:=(dvK h.hp h.aA h.aB f)
def HV.co (h:HV)(t:Int):HV:=⟨(ifR (t0B h.hp h.a3 t h.a9) (raC h.aI h.aJ h.aK h.a0 h.a1 h.a2 h.a5 h.a6 h.a9 t (coT h.aA h.aB t)) h.a0),(ifR (t0B h.hp h.a3 t h.a9) (raU h.aI h.aJ h.aK h.a0 h.a1 h.a2 h.a5 h.a6 h.a9 t (coT h.aA h.aB t)) h.a1),(ifR (t0B h.hp h.a3 t h.a9) (raE h.aI h.aJ h.aK h.a0 h.a1 h.a2 h.a5 h.a6 h.a9 t (coT h.aA h.aB t)) h.a2),h.a3,h.a4,(ifR (t0B h.hp h.a3 t h.a9) (raF h.aI h.aJ h.aK h.a0 h.a1 h.a2 h.a5 h.a6 h.a9 t (coT h.aA h.aB t)) h.a5),(ifR (t0B h.hp h.a3 t h.a9) (raS h.aI h.aJ h.aK h.a0 h.a1 h.a2 h.a5 h.a6 h.a9 t (coT h.aA h.aB t)) h.a6),h.a7,h.a8,(ifR (t0B h.hp h.a3 t h.a9) (raD h.aI h.aJ h.aK h.a0 h.a1 h.a2 h.a5 h.a6 h.a9 t (coT h.aA h.aB t)) h.a9),h.aA,(ifR (t0B h.hp h.a3 t h.a9) (coX h.aA h.aB t) h.aB),h.aC,h.aD,h.aE,h.aF,h.aG,h.aH,h.aI,h.aJ,h.aK,h.aL,h.aM,h.aN⟩
def HV.co1 (h:HV)(t:Int):Int:=(ifN (t0B h.hp h.a3 t h.a9) (lenI (coT h.aA h.aB t)) 0)
def HV.tk (h:HV)(n:Int):HV:=⟨(ifR (RL h.hp h.a3 n h.aF) (tkC h.aI h.aJ h.aK h.a0 h.a1 h.a2 h.a5 h.a6 (L1 h.aC h.aD (EF h.aF n) 100)) h.a0),(ifR (RL h.hp h.a3 n h.aF) (tkU h.aI h.aJ h.aK h.a0 h.a1 h.a2 h.a5 h.a6 (L1 h.aC h.aD (EF h.aF n) 100)) h.a1),(ifR (RL h.hp h.a3 n h.aF) (tkE h.aI h.aJ h.aK h.a0 h.a1 h.a2 h.a5 h.a6 (L1 h.aC h.aD (EF h.aF n) 100)) h.a2),h.a3,h.a4,(ifR (RL h.hp h.a3 n h.aF) (tkF h.aI h.aJ h.aK h.a0 h.a1 h.a2 h.a5 h.a6 (L1 h.aC h.aD (EF h.aF n) 100)) h.a5),(ifR (RL h.hp h.a3 n h.aF) (tkS h.aI h.aJ h.aK h.a0 h.a1 h.a2 h.a5 h.a6 (L1 h.aC h.aD (EF h.aF n) 100)) h.a6),h.a7,h.a8,h.a9,h.aA,h.aB,h.aC,(ifR (RL h.hp h.a3 n h.aF) (qeL h.aC h.aD (EF h.aF n) 100) h.aD),h.aE,(ifN (RL h.hp h.a3 n h.aF) (EF h.aF n) h.aF),h.aG,h.aH,h.aI,h.aJ,h.aK,h.aL,h.aM,h.aN⟩
def HV.mt (h:HV)  :HV:=⟨h.a0,h.a1,h.a2,h.a3,h.a4,h.a5,h.a6,h.a7,h.a8,h.a9,h.aA,h.aB,h.aC,h.aD,(mtD (QU h.hp h.aI) h.a2 h.a6 h.aE),h.aF,h.aG,h.aH,(mtO (QU h.hp h.aI) h.a2 h.a6 h.aE h.aI),(afx (QU h.hp h.aI) h.a2 h.a6 h.aE h.aJ),(afy (QU h.hp h.aI) h.a2 h.a6 h.aE h.aK),(afw (QU h.hp h.aI) h.a2 h.a6 h.aE h.aL),(abJ (QU h.hp h.aI) h.a2 h.a6 h.aE h.aM),(abJ (QU h.hp h.aI) h.a2 h.a6 h.aE h.aN)⟩
def HV.ms (h:HV)  :HV:=⟨(mcC (GV h.hp h.a3 h.aI) h.a0 h.a1 h.a2 h.a3 h.a4 h.aJ h.aK h.aL h.aM h.aN),(mcU (GV h.hp h.a3 h.aI) h.a0 h.a1 h.a2 h.a3 h.a4 h.aJ h.aK h.aL h.aM h.aN),(mcE (GV h.hp h.a3 h.aI) h.a0 h.a1 h.a2 h.a3 h.a4 h.aJ h.aK h.aL h.aM h.aN),(mcN (GV h.hp h.a3 h.aI) h.a0 h.a1 h.a2 h.a3 h.a4 h.aJ h.aK h.aL h.aM h.aN),h.a4,h.a5,h.a6,h.a7,h.a8,h.a9,h.aA,h.aB,h.aC,h.aD,h.aE,h.aF,h.aG,h.aH,(meB (SH (GV h.hp h.a3 h.aI) h.a0 h.a1 h.a2 h.a3 h.a4 h.aJ h.aK h.aL h.aM h.aN) h.aI),(ifN (SH (GV h.hp h.a3 h.aI) h.a0 h.a1 h.a2 h.a3 h.a4 h.aJ h.aK h.aL h.aM h.aN) 0 h.aJ),(ifN (SH (GV h.hp h.a3 h.aI) h.a0 h.a1 h.a2 h.a3 h.a4 h.aJ h.aK h.aL h.aM h.aN) 0 h.aK),(ifR (SH (GV h.hp h.a3 h.aI) h.a0 h.a1 h.a2 h.a3 h.a4 h.aJ h.aK h.aL h.aM h.aN) [] h.aL),(ifN (SH (GV h.hp h.a3 h.aI) h.a0 h.a1 h.a2 h.a3 h.a4 h.aJ h.aK h.aL h.aM h.aN) 0 (aft (GV h.hp h.a3 h.aI) h.a0 h.a1 h.a2 h.a3 h.a4 h.aJ h.aK h.aL h.aM h.aN)),(ifN (SH (GV h.hp h.a3 h.aI) h.a0 h.a1 h.a2 h.a3 h.a4 h.aJ h.aK h.aL h.aM h.aN) 0 (afu (GV h.hp h.a3 h.aI) h.a0 h.a1 h.a2 h.a3 h.a4 h.aJ h.aK h.aL h.aM h.aN))⟩
end Go.V
namespace Go.V
structure SR (h:HV):Prop where
 w:h.wf=true
theorem Ic (h:HV):HV.mk h.a0 h.a1 h.a2 h.a3 h.a4 h.a5 h.a6 h.a7 h.a8 h.a9 h.aA h.aB h.aC h.aD h.aE h.aF h.aG h.aH h.aI h.aJ h.aK h.aL h.aM h.aN=h:=rfl
def hvD (h:HV):DV:=.agg (Lb h.a0 h.a1 h.a2 h.a3 h.a4 h.a5 h.a6 h.a7 h.a8 h.a9 h.aA h.aB h.aC h.aD h.aE h.aF h.aG h.aH h.aI h.aJ h.aK h.aL h.aM h.aN)
end Go.V
namespace Go.V
section
variable {α β : Type}
def fI (i:Int)(k:Int->β):β:=
 match i with
 | .ofNat n=>(match n with
   |0=>k 0
   |m+1=>k (.ofNat (m+1)))
 | .negSucc n=>k (.negSucc n)
theorem HR {i:Int}{k:Int->β}:fI i k=k i:=by
 unfold fI;split
 ·split<;>rfl
 ·rfl
def fB (b:Bool)(k:Bool->β):β:=
 match b with
 |true=>k true
 |false=>k false
theorem M4 {b:Bool}{k:Bool->β}:fB b k=k b:=by cases b<;>rfl
def PG (f:α->(α->β)->β):List α->(List α->β)->β
 |[],k=>k []
 |a::l,k=>f a fun a'=>PG f l fun l'=>k (a'::l')
theorem vP {f:α->(α->β)->β}(h:∀ a k,f a k=k a):∀ {l:List α} {k:List α->β},PG f l k=k l
 |[],_=>rfl
 | a::l,k=>by
   show f a (fun a'=>PG f l fun l'=>k (a'::l'))=k (a::l);rw[h,vP h]
def fL:Nat->L->(L->β)->β
 |0,x,k=>k x
 | n+1,x,k=>match x with
   | .v (.int t i)=>fI i fun j=>k (.v (.int t j))
   | .v (.bool b)=>fB b fun c=>k (.v (.bool c))
   | .s z es=>PG (PG (fL n)) es fun es'=>k (.s z es')
   |x=>k x
theorem aah:∀ {n:Nat} {x:L} {k:L->β},fL n x k=k x:=by
 intro n
 induction n with
 |zero=>intros;rfl
 | succ n ih=>
   intro x k;unfold fL;split;exact HR;exact M4;exact vP (fun a k=>vP (fun a k=>ih));rfl
def fR (l:af)(k:af->β):β:=PG (PG (fL 4)) l k
theorem aai {l:af}{k:af->β}:fR l k=k l:=vP (fun _ _=>vP (fun _ _=>aah))
def fH (h:HV)(k:HV->β):β:=
 fR h.a0 fun b0=>fR h.a1 fun b1=>fR h.a2 fun b2=>fI h.a3 fun b3=>fR h.a4 fun b4=>fR h.a5 fun b5=>fR h.a6 fun b6=>fR h.a7 fun b7=>fR h.a8 fun b8=>fR h.a9 fun b9=>fR h.aA fun b10=>fR h.aB fun b11=>fI h.aC fun b12=>fR h.aD fun b13=>fI h.aE fun b14=>fI h.aF fun b15=>fI h.aG fun b16=>fI h.aH fun b17=>fB h.aI fun b18=>fI h.aJ fun b19=>fI h.aK fun b20=>fR h.aL fun b21=>fI h.aM fun b22=>fI h.aN fun b23=>
 k ⟨b0,b1,b2,b3,b4,b5,b6,b7,b8,b9,b10,b11,b12,b13,b14,b15,b16,b17,b18,b19,b20,b21,b22,b23⟩
theorem M5 {h:HV}{k:HV->β}:fH h k=k h:=by
 simp only[fH,aai,HR,M4]
end
end Go.V
namespace Go.V
def SL (s a:Int):Nat->HV->Bool
 |0,h=>h.hp&&(h.wf&&qtB h.aD a)
 |n+1,h=>h.wf&&(decide (h.aR 0 s=0)&&(decide (h.aQ 0 s≠a)&&fH (h.al 0 s) (SL s a n)))
set_option maxRecDepth 100000
set_option maxHeartbeats 40000000
theorem Ma {r:Int}(h0:0<=r)(h1:r<8):bO .add Za 1 r∈[(1:Int),2,3,4,5,6,7,8]:=by
 have:r=0\/r=1\/r=2\/r=3\/r=4\/r=5\/r=6\/r=7:=by omega
 rcases this with rfl|rfl|rfl|rfl|rfl|rfl|rfl|rfl<;>decide+kernel
theorem Rs {s:Int}(h:s∈[(1:Int),2,3,4,5,6,7,8]):1<=s/\s<=8:=by
 simp only[Zl,List.not_mem_nil,or_false]at h;omega
structure OA (s a:Int)(h:HV)(i:Int):Prop where
 i0:0<=i
 i1:i<=6
 r:SL s a (6-i).toNat h=true
theorem OA.wf {s a i:Int}{h:HV}(P:OA s a h i):h.wf=true:=by
 have r:=P.r;cases e:(6-i).toNat with
 |zero=>rw[e]at r;simp only[SL,Zc]at r;exact r.2.1
 |succ n=>rw[e]at r;simp only[SL,Zc]at r;exact r.1
theorem OA.fin {s a i:Int}{h:HV}(P:OA s a h i)(q:¬ i<6):h.hp=true/\qtB h.aD a=true:=by
 have r:=P.r;rw[show(6-i).toNat=0 by omega]at r;simp only[SL,Zc]at r;exact⟨r.1,r.2.2⟩
theorem OA.step {s a i:Int}{h:HV}(P:OA s a h i)(q:i<6):h.aR 0 s=0/\h.aQ 0 s≠a/\OA s a (h.al 0 s) (i+1):=by
 have r:=P.r;have i0:=P.i0;rw[show(6-i).toNat=(6- (i+1)).toNat+1 by omega]at r;simp only[SL,M5,Zc,VR]at r;exact⟨r.2.1,r.2.2.1,by omega,by omega,r.2.2.2⟩
end Go.V
namespace Go.V
def Eh:HV:=hvN 8 8 2 200 []
def u37 (s:Int):HV:=(Eh.al 0 s).fr 1 (Eh.aQ 0 s)
def t37 (s:Int):HV:=(u37 s).de 1
def OZ (s:Int):HV:=(t37 s).co 0
def o37 (s:Int):Bool:=
 Eh.wf&&(decide (Eh.aR 0 s=0)&&fI (Eh.aQ 0 s) fun a=>decide (-9223372036854775808<=a/\a<=9223372036854775807)&&fH (Eh.al 0 s) fun w=>w.wf&&(decide (w.fr1 1 a=0)&&fH (w.fr 1 a) fun u=>u.wf&&(u.de1 1&&fH (u.de 1) fun t=>t.wf&&(decide (t.co1 0=1)&&fH (t.co 0) fun c=>c.wf&&(c.hp&&(decide (c.aR 0 s=0)&&(decide (c.aQ 0 s=a)&&fH (c.al 0 s) fun x=>x.wf&&x.hp)))))))
set_option maxRecDepth 100000
set_option maxHeartbeats 40000000
theorem LO:∀ s∈[(1:Int),2,3,4,5,6,7,8],o37 s=true:=by decide+kernel
theorem aeA:hnB 8 8 2 200 []=true:=by decide+kernel
theorem f37 {s:Int}(h:s∈[(1:Int),2,3,4,5,6,7,8]):Eh.wf=true/\Eh.aR 0 s=0/\(-9223372036854775808<=Eh.aQ 0 s/\Eh.aQ 0 s<=9223372036854775807)/\(Eh.al 0 s).wf=true/\(Eh.al 0 s).fr1 1 (Eh.aQ 0 s)=0/\(u37 s).wf=true/\(u37 s).de1 1=true/\(t37 s).wf=true/\(t37 s).co1 0=1/\(OZ s).wf=true/\(OZ s).hp=true/\(OZ s).aR 0 s=0/\(OZ s).aQ 0 s=Eh.aQ 0 s/\((OZ s).al 0 s).wf=true/\((OZ s).al 0 s).hp=true:=by
 have q:=LO s h;simp only[o37,M5,HR,Zc,VR]at q;exact q
end Go.V