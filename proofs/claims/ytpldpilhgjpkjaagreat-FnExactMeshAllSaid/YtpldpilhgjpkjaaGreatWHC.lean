/- Plain facts. -/
import Derived.Test.YtpldpilhgjpkjaaGreatWHB
set_option linter.all false
open Go
open Bool renaming and_eq_true->Zc,and_false->Z3,or_eq_true->ZU,false_eq_true->ZI
open Int renaming emod_nonneg->X6,emod_lt_of_pos->X7,toNat_of_nonneg->Zo,toNat_natCast->ZA,toNat->Xy
open IntKind renaming i64->ZG,i64->Za
open List renaming take->Yp,drop->YI,getD_eq_getElem?_getD->Zn,getElem?_eq_getElem->Zr,length_cons->Zp,length_nil->Zt,length_take->Zm,length_set->ZH,getElem?_set_self->X8,getElem?_set_ne->WH,mem_range->Z7,length_append->Zh,replicate->ZM,length_replicate->Z9,take_of_length_le->Yj
open Nat renaming le_refl->Zf,zero_le->Ze,le_trans->Z8
open Value renaming int->Zq
namespace Go.V
def ltB (p n s z:Int):Bool:=lgOk p n s&&inR z 9 s
structure LtT (p n s z:Int):Prop where
 g:lgOk p n s=true
 zi:inR z 9 1000=true
 z0:9<=z/\z<=1000/\z<=s
 p0:0<=p
 n1:p+n<=32
 m0:1<=pfN z/\pfN z<=n
 m1:z<=pfN z*16/\pfN z*16<z+16
def uU {cs us es:ab}{p:Int}(m:oR cs us es)(h:peM es p≠0):0<=peF es p/\peF es p<cs.length:=by
 have q:=uO m (p:=p) (VB h);have e:=DX h;rw[e.2.2];exact q
def pmB (p ad:Int):Bool:=eqB (bK .mul Za p 16) ad
def ahw (lg:ab)(ad j:Int):Bool:=pmB (ag lg j 0) ad
def Nc (lg:ab)(ad:Int):Int:=cK (ahw lg ad) lg.length
def tcN (cs:ab)(f k:Int):Nat->ab
 |0=>cs
 |i+1=>sU (tcN cs f k i) f (k+i) 0
def tcC (cs es:ab)(a n:Int):ab:=tcN cs (peF es (a/16)) (a%16) n.toNat
structure TcP (cs us es:ab)(f k i:Int)(c:ab):Prop where
 e:c=tcN cs f k i.toNat
 m:oR c us es
 w:Rw [.sl [tI]] c
section
variable {cs us es c: ab} {f k i p: Int}
end
end Go.V
namespace Go.V
def tmP (a7:ab)(ad:Int):Int:=ag a7 (Nc a7 ad) 0
def tmN (a7:ab)(ad:Int):Int:=ag a7 (Nc a7 ad) 1
def tmS (a7:ab)(ad:Int):Int:=ag a7 (Nc a7 ad) 2
def tmD (a0 a2 a7:ab)(ad z:Int):ab:=tcC a0 a2 (tmP a7 ad*16+z) ((16- (tmP a7 ad*16+z)%16)%16)
section
variable {a0 a1 a2: ab} {a3: Int} {a4 a5 a6 a7 a8 a9 aA aB: ab} {aC: Int} {aD: ab} {aE aF aG aH: Int} {aI: Bool} {aJ aK: Int} {aL: ab} {aM aN ad z k: Int}
structure TmT (a1 a2 a5 a7 a8 a0:ab)(ad z:Int):Prop where
 k0:0<=Nc a7 ad
 k1:Nc a7 ad<a7.length
 p:tmP a7 ad*16=ad
 t:LtT (tmP a7 ad) (tmN a7 ad) (tmS a7 ad) z
 b:ltB (tmP a7 ad) (tmN a7 ad) (tmS a7 ad) z=true
 o0:0<=O5 a8 ad
 o1:O5 a8 ad<a8.length
 m:oR a0 a1 a2
 g:∀ q:Int,tmP a7 ad<=q->q<tmP a7 ad+tmN a7 ad->peM a2 q≠0
 f:a5.length<=32
 d:oR (tmD a0 a2 a7 ad z) a1 a2
 dw:Rw [.sl [tI]] (tmD a0 a2 a7 ad z)
end
end Go.V
namespace Go.V
def J0 {o:ab}{n:Int}(h:Rw [tI,tI,tI] o)(n0:0<=n)(n1:n<o.length):∃ rec o',bT (L.s 3 o) [(n.toNat,0)]=some (rec,o')/\o'+[L.v (Zq ZG 0),L.v (Zq ZG 0),L.v (Zq ZG 0)].length<=rec.length/\Yp [L.v (Zq ZG 0),L.v (Zq ZG 0),L.v (Zq ZG 0)].length (YI o' rec)=oB ah (L.s 3 o) [(n.toNat,0)] 0 [L.v (Zq ZG 0),L.v (Zq ZG 0),L.v (Zq ZG 0)]:=
 rM (z0:=[.i 0,.i 0,.i 0]) (z:=[.i 0,.i 0,.i 0]) h.wf Uc rfl (by decide)
section
variable {a0 a1 a2 a5 a7 a8 c: ab} {ad z x: Int}
end
end Go.V
namespace Go.V
section
variable {a0 a1 a2: ab} {a3: Int} {a4 a5 a6 a7 a8 a9 aA aB: ab} {aC: Int} {aD: ab} {aE aF aG aH: Int} {aI: Bool} {aJ aK: Int} {aL: ab} {aM aN ad z: Int}
end
end Go.V
namespace Go.V
def c1N (c:Int):Int:=c+1
def nhR (rs:ab)(c:Int):Bool:= !hasB rs c
def kqN (k:Bool)(c:Int):Int:=if k=true then c+1 else c
def kqE (k:Bool)(es:ab)(c:Int)(rs:ab)(p m:Int):ab:=if k=true then kpE es c rs p m else es
def kqB (k:Bool)(es:ab)(c:Int)(rs:ab)(p m:Int):Bool:=k&&kpB es c rs p m
def krC (k:Bool)(cs es:ab)(c:Int)(rs:ab)(p q:Int):ab:=if k=true then koC cs es c rs p q else cs
def krU (k:Bool)(us es:ab)(c:Int)(rs:ab)(p q:Int):ab:=if k=true then koU us es c rs p q else us
def krE (k:Bool)(es:ab)(c:Int)(rs:ab)(p q:Int):ab:=if k=true then koE es c rs p q else es
def krB (k:Bool)(es:ab)(c:Int)(rs:ab)(p q:Int):Bool:=k&&koB es c rs p q
section
variable {cs us es rs: ab} {c p q m: Int}
def abl (h:nhR rs c=false):kpB es c rs p m=false:=by unfold nhR at h;unfold kpB;rw[h];rfl
def adT (h:mapB es p=false):kpB es c rs p m=false:=by unfold mapB at h;unfold kpB;rw[h];simp
def SP (h:peM es p=0):kpB es c rs p m=false:=adT (VC (fun n=>n h))
def abm (h:¬ (m=1\/m=2)):kpB es c rs p m=false:=by
 unfold kpB;rw[VC (p:=m=1) (fun e=>h (.inl e)),VC (p:=m=2) (fun e=>h (.inr e))];simp
def abn (h:nhR rs c=true)(g:mapB es p=true)(w:m=1\/m=2):kpB es c rs p m=true:=by
 unfold nhR at h;unfold mapB at g;unfold kpB;rw[h,g];rcases w with rfl|rfl<;>simp
def adU (h:kpB es c rs p m=true):kpE es c rs p m=so es p m (peF es p):=by unfold kpE;rw[VE h]
def K5 (h:kpB es c rs p m=false):kpE es c rs p m=es:=by unfold kpE;rw[h];rfl
def abf (h:nhR rs c=false):koB es c rs p q=false:=by unfold nhR at h;unfold koB;rw[h];rfl
def abg (h:mapB es p=false):koB es c rs p q=false:=by unfold mapB at h;unfold koB;rw[h];simp
def abh (h:mapB es q=false):koB es c rs p q=false:=by unfold mapB at h;unfold koB;rw[h];simp
def abi (h:p=q):koB es c rs p q=false:=by unfold koB;rw[VC (p:=p≠q) (fun n=>n h)];simp
def abj (h:nhR rs c=true)(g:mapB es p=true)(w:mapB es q=true)(n:p≠q):koB es c rs p q=true:=by
 unfold nhR at h;unfold mapB at g w;unfold koB;rw[h,g,w,VB n];rfl
def adS (h:koB es c rs p q=true):koC cs es c rs p q=dfC cs (so es p 2 (peF es q)) (peF es p)/\koU us es c rs p q=dfU us (so es p 2 (peF es q)) (peF es p)/\koE es c rs p q=so es p 2 (peF es q):=by
 unfold koC koU koE;rw[VE h,VE h,VE h];exact⟨rfl,rfl,rfl⟩
def GN (h:koB es c rs p q=false):koC cs es c rs p q=cs/\koU us es c rs p q=us/\koE es c rs p q=es:=by
 unfold koC koU koE;rw[h];exact⟨rfl,rfl,rfl⟩
def TM {f:Int}(h:Rw [tI,tI] es)(p0:0<=p)(p1:p<es.length):vk (.s 2 es) [(p.toNat,0)] [.i m,.i f]=so es p m f:=by
 unfold so;exact sx (by rw[h.eta p0 p1];rfl)
def afS (h:Rw [tI,tI] es)(p0:0<=p)(p1:p<es.length)(e:peF es p=ag es p 1):vk (.s 2 es) [(p.toNat,0)] [.i m]=so es p m (peF es p):=by
 rw[agd h p0 p1,e];rfl
end
def o8 {b x e b' x' e' r r':ab}{c c':Int}{z z':Bool}(h1:b=b')(h2:x=x')(h3:e=e')(h4:c=c')(h5:r=r')(h6:z=z'):[DV.agg [.s 1 b,.s 1 x,.s 2 e,.i c,.s 1 r],DV.k z]=[DV.agg [.s 1 b',.s 1 x',.s 2 e',.i c',.s 1 r'],DV.k z']:=by rw[h1,h2,h3,h4,h5,h6]
end Go.V
namespace Go.V
def kcB (es:ab)(p q:Int)(xs:ab):Bool:=mapB es p&&(mapB es q&&inR (ag xs 0 0) 0 15)
def kcC (cs es:ab)(p q:Int)(xs:ab):ab:=if kcB es p q xs=true then sU cs (peF es q) (ag xs 0 0) (ag (aw cs (peF es p) 0) (ag xs 0 0) 0)else cs
def kdC (k:Bool)(cs es:ab)(p q:Int)(xs:ab):ab:=if k=true then kcC cs es p q xs else cs
def kdB (k:Bool)(es:ab)(p q:Int)(xs:ab):Bool:=k&&kcB es p q xs
structure Rv (cs es:ab)(p q:Int)(xs:ab)(i:Int)(d:ab):Prop where
 z:i=0->d=cs
 o:0<i->inR (ag xs 0 0) 0 15=true/\d=sU cs (peF es q) (ag xs 0 0) (ag (aw cs (peF es p) 0) (ag xs 0 0) 0)
section
variable {cs us es xs d: ab} {p q i: Int}
def SN:Rv cs es p q xs 0 cs:=⟨fun _=>rfl,fun h=>absurd h Uc⟩
def SO (h:Rv cs es p q xs i d)(i0:0<=i)(i1:i<1)(c:inR (ag xs i 0) 0 15=true):Rv cs es p q xs (i+1) (sU d (peF es q) (ag xs i 0) (ag (aw cs (peF es p) 0) (ag xs i 0) 0)):=by
 obtain rfl:i=0:=by omega
 refine⟨fun e=>absurd e Uc,fun _=>⟨c,?_⟩⟩;rw[h.z rfl]
def aa7 (h:mapB es p=false):kcB es p q xs=false:=by unfold kcB;rw[h];rfl
def aa8 (h:mapB es q=false):kcB es p q xs=false:=by unfold kcB;rw[h];simp
def aa9 (h:inR (ag xs 0 0) 0 15=false):kcB es p q xs=false:=by unfold kcB;rw[h];simp
def aba (h:mapB es p=true)(g:mapB es q=true)(k:Rv cs es p q xs i d)(i1:1<=i):kcB es p q xs=true/\d=kcC cs es p q xs:=by
 have o:=k.o Uc;have b:kcB es p q xs=true:=by unfold kcB;rw[h,g,o.1];rfl
 exact⟨b,by unfold kcC;rw[VE b];exact o.2⟩
def K4 (h:kcB es p q xs=false):kcC cs es p q xs=cs:=by unfold kcC;rw[h];rfl
def MB {T:ab}{w p:Int}(h:Rw [.sl [tI]] T)(h0:0<=w)(h1:w<T.length)(p0:0<=p)(p1:p<(aw T w 0).length):bT (.s 1 T) [(w.toNat,0),(p.toNat,0)]=some ([.i (ag (aw T w 0) p 0)],0):=by
 have hr:Rw [tI] (aw T w 0):=Rw.sub (fs:=[.sl [tI]]) h Uc rfl;show(match T[w.toNat]? with
  | some rec=>match rec[0]? with
    |some l=>bT l [(p.toNat,0)]
    |none=>none
  |none=>none)=_
 rw[Pq h h0 h1];show(((aw T w 0)[p.toNat]?).map (·,0))=_;have e:(aw T w 0).getD p.toNat []=[.i (ag (aw T w 0) p 0)]:=hr.eta p0 p1;rw[Zn,Zr Uc]at e;rw[Zr Uc];have e2:(aw T w 0)[p.toNat]=[.i (ag (aw T w 0) p 0)]:=by simpa using e
 rw[e2];rfl
def afd {T:ab}{w p:Int}(h:Rw [.sl [tI]] T)(h0:0<=w)(h1:w<T.length)(p0:0<=p)(p1:p<(aw T w 0).length):C7 (.s 1 T) [(w.toNat,0),(p.toNat,0)]=ag (aw T w 0) p 0:=by
 unfold C7 Ie;rw[MB h h0 h1 p0 p1];rfl
def ahO {T:ab}{w p:Int}(h:Rw [.sl [tI]] T)(h0:0<=w)(h1:w<T.length)(p0:0<=p)(p1:p<(aw T w 0).length):∃ rec o,bT (.s 1 T) [(w.toNat,0),(p.toNat,0)]=some (rec,o)/\o+[L.v (Zq ZG 0)].length<=rec.length/\Yp [L.v (Zq ZG 0)].length (YI o rec)=oB ah (.s 1 T) [(w.toNat,0),(p.toNat,0)] 0 [L.v (Zq ZG 0)]:=by
 refine⟨_,_,MB h h0 h1 p0 p1,Zf _,?_⟩;show[L.i (ag (aw T w 0) p 0)]=[L.i (C7 (.s 1 T) [(w.toNat,0),(p.toNat,0)])];rw[afd h h0 h1 p0 p1]
def ahD (m:oR cs us es):oR (kcC cs es p q xs) us es:=by
 unfold kcC;by_cases b:kcB es p q xs=true
 ·rw[VE b];unfold kcB mapB at b;simp only[Zc,VD]at b;have x:=bz.1 b.2.2;have f:=uU m b.1;have c:=m.c (peF es p) (ag xs 0 0) f.1 f.2 x.1 Uc;exact TR m b.2.1 rfl x.1 Uc c.1 c.2.1
 ·rw[VF b];exact m
end
end Go.V
namespace Go.V
def x1R (xs:ab)(n:Int):ab:=[[.i (ag xs n 0)]]
def ifN (b:Bool)(x y:Int):Int:=if b=true then x else y
def jmB (k:Bool)(es:ab)(kp mv:Int)(xs:ab)(ph nx:Int):Bool:=k&&(jbOk kp mv xs ph nx&&(mapB es kp&&(mapB es mv&& !decide (peF es kp=peF es mv))))
def jsC (cs us es:ab)(c:Int)(rs:ab)(kp mv:Int)(xs:ab)(ph nx:Int):ab:=
 if ph=1 then(if nx=xs.length then cs else kcC cs es mv kp (x1R xs nx))else if ph=2 then koC cs es c rs mv kp else if ph=3/\0<nx then stC cs us es (kp*16+ag xs (nx-1) 0) 0 else cs
def jsU (us es:ab)(c:Int)(rs:ab)(kp mv ph:Int):ab:=if ph=2 then koU us es c rs mv kp else us
def jsE (es:ab)(c:Int)(rs:ab)(kp mv ph nx:Int):ab:=
 if ph=0 then kpE es c rs mv 1 else if ph=2 then koE es c rs mv kp else if ph=3/\¬ 0<nx then kpE es c rs mv 2 else es
def jsN (c ph nx:Int):Int:=if ph=0\/ph=2\/(ph=3/\¬ 0<nx)then c+1 else c
def jsP (es:ab)(c:Int)(rs:ab)(kp mv:Int)(xs:ab)(ph nx:Int):Int:=
 if ph=0 then(if kpB es c rs mv 1=true then 1 else 5)else if ph=1 then(if nx=xs.length then 2 else 1)else if ph=2 then(if koB es c rs mv kp=true then 4 else 3)else
 if ph=3 then(if¬ 0<nx/\kpB es c rs mv 2=true then 5 else 3)else ph
def jsX (xs:ab)(ph nx:Int):Int:=if ph=1/\nx≠xs.length then nx+1 else if ph=3/\0<nx then nx-1 else nx
section
variable {cs us es rs xs: ab} {c kp mv ph nx: Int} {k: Bool}
def adJ (h:k=false):jmB k es kp mv xs ph nx=false:=by unfold jmB;rw[h];rfl
def adK (h:jbOk kp mv xs ph nx=false):jmB k es kp mv xs ph nx=false:=by unfold jmB;rw[h];simp
def adL (h:mapB es kp=false):jmB k es kp mv xs ph nx=false:=by unfold jmB;rw[h];simp
def adM (h:mapB es mv=false):jmB k es kp mv xs ph nx=false:=by unfold jmB;rw[h];simp
def ahz (h:peF es kp=peF es mv):jmB k es kp mv xs ph nx=false:=by unfold jmB;rw[VB h];simp
def ahB (h1:k=true)(h2:jbOk kp mv xs ph nx=true)(h3:mapB es kp=true)(h4:mapB es mv=true)(h5:peF es kp≠peF es mv):jmB k es kp mv xs ph nx=true:=by
 unfold jmB;rw[h1,h2,h3,h4,VC h5];rfl
def JR (h:jmB k es kp mv xs ph nx=true):k=true/\jbOk kp mv xs ph nx=true/\mapB es kp=true/\mapB es mv=true/\peF es kp≠peF es mv:=by
 unfold jmB at h;simp only[Zc,Bool.not_eq_true',decide_eq_false_iff_not]at h;exact h
structure JbT (kp mv:Int)(xs:ab)(ph nx:Int):Prop where
 k0:0<=kp
 k1:kp<=31
 m0:0<=mv
 m1:mv<=31
 p0:0<=ph
 p1:ph<=5
 n0:0<=nx
 n1:nx<=xs.length
 x:∀ i:Int,0<=i->i<xs.length->0<=ag xs i 0/\ag xs i 0<=15
def jbT (h:jbOk kp mv xs ph nx=true):JbT kp mv xs ph nx:=by
 unfold jbOk plOk at h;simp only[Zc,VD]at h;obtain⟨⟨ha,hk,hm,_⟩,hp,hn⟩:=h;have a:=bz.1 hk;have b:=bz.1 hm;have d:=bz.1 hp;have e:=bz.1 hn;refine⟨a.1,a.2,b.1,b.2,d.1,d.2,e.1,e.2,fun i i0 i1=>?_⟩;have q:=dN.1 ha i i0 i1;unfold IS at q;simp only[Zc]at q;exact bz.1 q.1
def MX (h:ph=0):jsC cs us es c rs kp mv xs ph nx=cs/\jsU us es c rs kp mv ph=us/\jsE es c rs kp mv ph nx=kpE es c rs mv 1/\jsN c ph nx=c+1/\jsX xs ph nx=nx:=by
 subst h;unfold jsC jsU jsE jsN jsX;refine⟨?_,?_,?_,?_,?_⟩<;>simp
def SJ (h:ph=0)(g:kpB es c rs mv 1=true):jsP es c rs kp mv xs ph nx=1:=by subst h;unfold jsP;simp[g]
def SI (h:ph=0)(g:kpB es c rs mv 1=false):jsP es c rs kp mv xs ph nx=5:=by subst h;unfold jsP;simp[g]
def MY (h:ph=1)(g:nx=xs.length):jsC cs us es c rs kp mv xs ph nx=cs/\jsU us es c rs kp mv ph=us/\jsE es c rs kp mv ph nx=es/\jsN c ph nx=c/\jsX xs ph nx=nx/\jsP es c rs kp mv xs ph nx=2:=by
 subst h;unfold jsC jsU jsE jsN jsX jsP;refine⟨?_,?_,?_,?_,?_,?_⟩<;>simp[g]
def GK (h:ph=1)(g:nx≠xs.length):jsC cs us es c rs kp mv xs ph nx=kcC cs es mv kp (x1R xs nx)/\jsU us es c rs kp mv ph=us/\jsE es c rs kp mv ph nx=es/\jsN c ph nx=c/\jsX xs ph nx=nx+1/\jsP es c rs kp mv xs ph nx=1:=by
 subst h;unfold jsC jsU jsE jsN jsX jsP;refine⟨?_,?_,?_,?_,?_,?_⟩<;>simp[g]
def MZ (h:ph=2):jsC cs us es c rs kp mv xs ph nx=koC cs es c rs mv kp/\jsU us es c rs kp mv ph=koU us es c rs mv kp/\jsE es c rs kp mv ph nx=koE es c rs mv kp/\jsN c ph nx=c+1/\jsX xs ph nx=nx:=by
 subst h;unfold jsC jsU jsE jsN jsX;refine⟨?_,?_,?_,?_,?_⟩<;>simp
def SL (h:ph=2)(g:koB es c rs mv kp=true):jsP es c rs kp mv xs ph nx=4:=by subst h;unfold jsP;simp[g]
def SK (h:ph=2)(g:koB es c rs mv kp=false):jsP es c rs kp mv xs ph nx=3:=by subst h;unfold jsP;simp[g]
def DF (h:ph=3)(g:0<nx):jsC cs us es c rs kp mv xs ph nx=stC cs us es (kp*16+ag xs (nx-1) 0) 0/\jsU us es c rs kp mv ph=us/\jsE es c rs kp mv ph nx=es/\jsN c ph nx=c/\jsX xs ph nx=nx-1/\jsP es c rs kp mv xs ph nx=3:=by
 subst h;unfold jsC jsU jsE jsN jsX jsP;refine⟨?_,?_,?_,?_,?_,?_⟩<;>simp[g]
def sS (h:ph=3)(g:¬ 0<nx):jsC cs us es c rs kp mv xs ph nx=cs/\jsU us es c rs kp mv ph=us/\jsE es c rs kp mv ph nx=kpE es c rs mv 2/\jsN c ph nx=c+1/\jsX xs ph nx=nx:=by
 subst h;unfold jsC jsU jsE jsN jsX;refine⟨?_,?_,?_,?_,?_⟩<;>simp[g]
def M0 (h:ph=3)(g:¬ 0<nx)(b:kpB es c rs mv 2=true):jsP es c rs kp mv xs ph nx=5:=by subst h;unfold jsP;simp[g,b]
def GL (h:ph=3)(b:kpB es c rs mv 2=false):jsP es c rs kp mv xs ph nx=3:=by subst h;unfold jsP;simp[b]
def aa5 (h0:ph≠0)(h1:ph≠1)(h2:ph≠2)(h3:ph≠3):jsC cs us es c rs kp mv xs ph nx=cs/\jsU us es c rs kp mv ph=us/\jsE es c rs kp mv ph nx=es/\jsN c ph nx=c/\jsX xs ph nx=nx/\jsP es c rs kp mv xs ph nx=ph:=by
 unfold jsC jsU jsE jsN jsX jsP;refine⟨?_,?_,?_,?_,?_,?_⟩<;>simp[h0,h1,h2,h3]
def T9 {a b:Nat}(h:Rw [tI] xs)(n0:0<=nx)(n1:nx<xs.length)(ea:a=nx.toNat)(eb:b=1):BO xs a b=x1R xs nx:=by
 subst ea eb;unfold BO x1R;have e:xs.getD nx.toNat []=[.i (ag xs nx 0)]:=h.eta n0 n1;apply List.ext_getElem?;intro i;rw[List.getElem?_take,List.getElem?_drop];rw[Zn,Zr Uc]at e;by_cases q:i=0
 ·subst q;rw[VE Uc,Nat.add_zero,Zr Uc]
  simpa using e
 ·rw[VF Uc,List.getElem?_eq_none (by simp only[Zp,Zt];omega)]
def aaa (h:Rw [tI] xs)(n0:0<=nx)(n1:nx<xs.length):Rw [tI] (x1R xs nx):=by
 rw[<-T9 h n0 n1 rfl rfl];exact⟨by have:=h.1;unfold BO;simp only[Zm,List.length_drop];omega,fun e he=>h.2 e (List.mem_of_mem_drop (List.mem_of_mem_take he))⟩
def o7 {b x e b' x' e' r r':ab}{d d' p p' n n':Int}{y:ab}(h1:b=b')(h2:x=x')(h3:e=e')(h4:d=d')(h5:r=r')(h6:p=p')(h7:n=n'):
 [DV.agg [.s 1 b,.s 1 x,.s 2 e,.i d,.s 1 r],DV.agg [.i kp,.i mv,.s 1 y,.i p,.i n]]=
 [DV.agg [.s 1 b',.s 1 x',.s 2 e',.i d',.s 1 r'],DV.agg [.i kp,.i mv,.s 1 y,.i p',.i n']]:=by rw[h1,h2,h3,h4,h5,h6,h7]
def af2 {a v:Int}(m:oR cs us es):oR (stC cs us es a v) us es:=by
 unfold stC;by_cases h:stK cs us es a v=0
 ·rw[VE h];have nz:smM cs us es a≠0:=fun e=>by rw[(Hj e).1]at h;exact absurd h (by decide)
  have ok:=Hg nz;have y:=tz (a:=a) ok.1;have z:=pS (es:=es) (a:=a) Uc;rw[y.1,z.1]at nz;rw[y.2,z.2.1];have v1:inR v 0 999=true:=by
   cases q:inR v 0 999 with
   |true=>rfl
   | false=>
     unfold stK at h;rw[q]at h;split at h
     ·cases h
     ·split at h
      ·cases h
      ·rw[VF (by decide)]at h;cases h
  have w:=bz.1 v1;exact TR m nz rfl Uc Uc w.1 w.2
 ·rw[VF h];exact m
def adN (m:oR cs us es)(j:JbT kp mv xs ph nx):oR (jsC cs us es c rs kp mv xs ph nx) (jsU us es c rs kp mv ph) (jsE es c rs kp mv ph nx):=by
 by_cases h0:ph=0
 ·have q:=MX (cs:=cs) (us:=us) (es:=es) (c:=c) (rs:=rs) (kp:=kp) (mv:=mv) (xs:=xs) (nx:=nx) h0;rw[q.1,q.2.1,q.2.2.1];exact adV m
 by_cases h1:ph=1
 ·by_cases g:nx=xs.length
  ·have q:=MY (cs:=cs) (us:=us) (es:=es) (c:=c) (rs:=rs) (kp:=kp) (mv:=mv) h1 g;rw[q.1,q.2.1,q.2.2.1];exact m
  ·have q:=GK (cs:=cs) (us:=us) (es:=es) (c:=c) (rs:=rs) (kp:=kp) (mv:=mv) h1 g;rw[q.1,q.2.1,q.2.2.1];exact ahD m
 by_cases h2:ph=2
 ·have q:=MZ (cs:=cs) (us:=us) (es:=es) (c:=c) (rs:=rs) (kp:=kp) (mv:=mv) (xs:=xs) (nx:=nx) h2;rw[q.1,q.2.1,q.2.2.1];exact ahF m
 by_cases h3:ph=3
 ·by_cases g:0<nx
  ·have q:=DF (cs:=cs) (us:=us) (es:=es) (c:=c) (rs:=rs) (kp:=kp) (mv:=mv) (xs:=xs) h3 g;rw[q.1,q.2.1,q.2.2.1];exact af2 m
  ·have q:=sS (cs:=cs) (us:=us) (es:=es) (c:=c) (rs:=rs) (kp:=kp) (mv:=mv) (xs:=xs) h3 g;rw[q.1,q.2.1,q.2.2.1];exact adV m
 have q:=aa5 (cs:=cs) (us:=us) (es:=es) (c:=c) (rs:=rs) (kp:=kp) (mv:=mv) (xs:=xs) (nx:=nx) h0 h1 h2 h3;rw[q.1,q.2.1,q.2.2.1];exact m
def abk {p m:Int}(h:oR cs us es)(we:Rw [tI,tI] es)(m0: -9223372036854775808<=m/\m<=9223372036854775807):Rw [tI,tI] (kpE es c rs p m):=by
 unfold kpE;split
 ·rename_i g;unfold kpB at g;simp only[Zc,VD]at g;have f:=uU h g.2.1;have n:=h.n1;exact QP we m0 Uc
 ·exact we
def abd {p q:Int}(h:oR cs us es)(we:Rw [tI,tI] es):Rw [tI,tI] (koE es c rs p q):=by
 unfold koE;split
 ·rename_i g;unfold koB at g;simp only[Zc,VD]at g;have f:=uU h g.2.2.1;have n:=h.n1;exact QP we Uc Uc
 ·exact we
def abc {p q:Int}(wc:Rw [.sl [tI]] cs):Rw [.sl [tI]] (koC cs es c rs p q):=by
 unfold koC;split;exact ail wc;exact wc
def abe {p q:Int}(wu:Rw [tB] us):Rw [tB] (koU us es c rs p q):=by
 unfold koU;split;exact aim wu;exact wu
def aa6 {p q:Int}{y:ab}(h:oR cs us es)(wc:Rw [.sl [tI]] cs):Rw [.sl [tI]] (kcC cs es p q y):=by
 unfold kcC;split
 ·rename_i g;unfold kcB mapB at g;simp only[Zc,VD]at g;have x:=bz.1 g.2.2;have f:=uU h g.1;have d:=uU h g.2.1;have e:=h.c (peF es p) (ag y 0 0) f.1 f.2 x.1 Uc;exact Hi wc d.1 d.2 Uc
 ·exact wc
def adR (m:oR cs us es)(wc:Rw [.sl [tI]] cs)(wu:Rw [tB] us)(we:Rw [tI,tI] es):Rw [.sl [tI]] (jsC cs us es c rs kp mv xs ph nx)/\Rw [tB] (jsU us es c rs kp mv ph)/\Rw [tI,tI] (jsE es c rs kp mv ph nx):=by
 unfold jsC jsU jsE;refine⟨?_,?_,?_⟩
 ·repeat' split
  all_goals first|exact wc|exact aa6 m wc|exact abc wc|exact acm wc Uc
 ·split;exact abe wu;exact wu
 ·repeat' split
  all_goals first|exact we|exact abk m we Uc|exact abd m we
def wq (ph:Int):Bool:=decide (ph=4)||decide (ph=5)
def ahH {p m:Int}(h:k=true):kqE k es c rs p m=kpE es c rs p m:=by subst h;rfl
def ahI (h:k=true):kqN k c=c+1:=by subst h;rfl
def ahG {p m:Int}(h:k=true):kqB k es c rs p m=kpB es c rs p m:=by subst h;rfl
def ahK {p q:Int}(h:k=true):krC k cs es c rs p q=koC cs es c rs p q:=by subst h;rfl
def ahM {p q:Int}(h:k=true):krU k us es c rs p q=koU us es c rs p q:=by subst h;rfl
def ahL {p q:Int}(h:k=true):krE k es c rs p q=koE es c rs p q:=by subst h;rfl
def ahJ {p q:Int}(h:k=true):krB k es c rs p q=koB es c rs p q:=by subst h;rfl
def ahE {p q:Int}{y:ab}(h:k=true):kdC k cs es p q y=kcC cs es p q y:=by subst h;rfl
end
end Go.V
namespace Go.V
def msB (k:Bool)(c:Int)(me:Bool):Bool:=k&&(decide (c<=99000)&&me)
def C6 (a0 a1 a2:ab)(a3:Int)(a4:ab)(aJ aK:Int)(aL:ab)(aM aN:Int):Bool:=jmB (ccB a0 a1 a2 a3 a4) a2 aJ aK aL aM aN
def Qu (a0 a1 a2:ab)(a3:Int)(a4:ab)(aJ aK:Int)(aL:ab)(aM aN:Int):Int:=ifN (C6 a0 a1 a2 a3 a4 aJ aK aL aM aN) (jsP a2 a3 a4 aJ aK aL aM aN) aM
def myN (a0 a1 a2:ab)(a3:Int)(a4:ab)(aJ aK:Int)(aL:ab)(aM aN:Int):Int:=ifN (C6 a0 a1 a2 a3 a4 aJ aK aL aM aN) (jsX aL aM aN) aN
def mcC (g:Bool)(a0 a1 a2:ab)(a3:Int)(a4:ab)(aJ aK:Int)(aL:ab)(aM aN:Int):ab:=ifR (g&&C6 a0 a1 a2 a3 a4 aJ aK aL aM aN) (jsC a0 a1 a2 a3 a4 aJ aK aL aM aN) a0
def mcU (g:Bool)(a0 a1 a2:ab)(a3:Int)(a4:ab)(aJ aK:Int)(aL:ab)(aM aN:Int):ab:=ifR (g&&C6 a0 a1 a2 a3 a4 aJ aK aL aM aN) (jsU a1 a2 a3 a4 aJ aK aM) a1
def mcE (g:Bool)(a0 a1 a2:ab)(a3:Int)(a4:ab)(aJ aK:Int)(aL:ab)(aM aN:Int):ab:=ifR (g&&C6 a0 a1 a2 a3 a4 aJ aK aL aM aN) (jsE a2 a3 a4 aJ aK aM aN) a2
def mcN (g:Bool)(a0 a1 a2:ab)(a3:Int)(a4:ab)(aJ aK:Int)(aL:ab)(aM aN:Int):Int:=ifN (g&&C6 a0 a1 a2 a3 a4 aJ aK aL aM aN) (jsN a3 aM aN) a3
def moB (g:Bool)(a0 a1 a2:ab)(a3:Int)(a4:ab)(aJ aK:Int)(aL:ab)(aM aN:Int):Bool:=g&&wq (Qu a0 a1 a2 a3 a4 aJ aK aL aM aN)
def meB (o me:Bool):Bool:= !o&&me
section
variable {a0 a1 a2: ab} {a3: Int} {a4 a5 a6 a7 a8 a9 aA aB: ab} {aC: Int} {aD: ab} {aJ aK: Int} {aL: ab} {aM aN: Int} {g: Bool}
def aex (h:Jm a0 a1 a2 a4 a5 a6 a7 a8 a9 aA aB aD aL){o:Bool}:
 Jm (mcC g a0 a1 a2 a3 a4 aJ aK aL aM aN) (mcU g a0 a1 a2 a3 a4 aJ aK aL aM aN) (mcE g a0 a1 a2 a3 a4 aJ aK aL aM aN) a4 a5 a6 a7 a8 a9 aA aB aD (ifR o [] aL):=by
 have h21:Rw [tI] (ifR o [] aL)/\au (ifR o [] aL)<=1073741824:=by
  cases o with
  |true=>exact⟨Rw.nil,Ze _⟩
  |false=>exact⟨h.r21,h.c21⟩
 unfold mcC mcU mcE;cases q:(g&&C6 a0 a1 a2 a3 a4 aJ aK aL aM aN)with
 |false=>exact⟨h.r0,h.r1,h.r2,h.r4,h.r5,h.r6,h.r7,h.r8,h.r9,h.r10,h.r11,h.r13,h21.1,h.c0,h.c1,h.c2,h.c4,h.c5,h.c6,h.c7,h.c8,h.c9,h.c10,h.c11,h.c13,h21.2⟩
 | true=>
   simp only[Zc]at q;have j:=JR q.2;have m:=(xf (Dg j.1).2).1;have J:=jbT j.2.1;have w:=adR (c:=a3) (rs:=a4) (kp:=aJ) (mv:=aK) (xs:=aL) (ph:=aM) (nx:=aN) m h.r0 h.r1 h.r2;have n:=J8 (adN (c:=a3) (rs:=a4) m J) w.1 w.2.1 w.2.2;exact⟨w.1,w.2.1,w.2.2,h.r4,h.r5,h.r6,h.r7,h.r8,h.r9,h.r10,h.r11,h.r13,h21.1,Z8 n.1 (by decide),Z8 n.2.1 (by decide),Z8 n.2.2 (by decide),h.c4,h.c5,h.c6,h.c7,h.c8,h.c9,h.c10,h.c11,h.c13,h21.2⟩
end
end Go.V
namespace Go.V
def woN (b i:Int):Int:=if slB b i=true then bK .andNot Za b (TN .shl Za 1 i)else b
structure SpG (S:ab):Prop where
 s:∀ i:Nat,i<S.length->spOk (ag S i 0) (ag S i 1) (ag S i 2)=true
 d:∀ i j:Nat,i<S.length->j<S.length->ag S i 0=ag S j 0->i=j
structure LvA (S:ab)(a:Int)(i:Nat):Prop where
 l:i<S.length
 p:ag S i 0=a/16
 b:hsB (ag S i 2) ((a-ag S i 0*16)/clsSz (ag S i 1))=true
 o:(a-ag S i 0*16)%clsSz (ag S i 1)=0
section
variable {S: ab} {a b: Int} {i j: Nat}
end
end Go.V
namespace Go.V
def fxS (S:ab)(i s:Int):ab:=S.set i.toNat [.i (ag S i 0),.i (ag S i 1),.i (woN (ag S i 2) s)]
def R9 (S:ab)(a:Int):ab:=fxS S (pp S a) (O6 S a (pp S a))
def f1B (me:Bool)(kp mv:Int)(S:ab)(a:Int):Bool:=decide (ag (R9 S a) (pp S a) 2=0)&& !bsB me kp mv (ag (R9 S a) (pp S a) 0)
structure F8 where
 C:ab
 U:ab
 E:ab
 F:ab
 S:ab
def f1 (me:Bool)(kp mv:Int)(s:F8)(a:Int):F8:=
 ⟨ifR (f1B me kp mv s.S a) (dsC s.C s.U s.E (R9 s.S a) (pp s.S a)) s.C,ifR (f1B me kp mv s.S a) (dsU s.C s.U s.E (R9 s.S a) (pp s.S a)) s.U,ifR (f1B me kp mv s.S a) (dsE s.C s.U s.E (R9 s.S a) (pp s.S a)) s.E,
  ifR (f1B me kp mv s.S a) (dsF s.C s.U s.E s.F (R9 s.S a) (pp s.S a)) s.F,ifR (f1B me kp mv s.S a) (dsS (R9 s.S a) (pp s.S a)) (R9 s.S a)⟩
structure FrI (s:F8):Prop where
 m:oR s.C s.U s.E
 rc:Rw [.sl [tI]] s.C
 ru:Rw [tB] s.U
 re:Rw [tI,tI] s.E
 rf:Rw [tI,tI] s.F
 rs:Rw [tI,tI,tI] s.S
 lf:s.F.length<=65
 ls:s.S.length<=1073741824
 g:SpG s.S
section
variable {S: ab} {a b x: Int} {i j: Nat}
end
end Go.V
namespace Go.V
section
variable {s: F8} {a b: Int} {i j: Nat} {me: Bool} {kp mv: Int}
end
def fN (me:Bool)(kp mv:Int)(l:ab)(s:F8):Nat->F8
 |0=>s
 |n+1=>f1 me kp mv (fN me kp mv l s n) (ag l n 0)
structure FqI (l:ab)(i:Nat)(s:F8):Prop where
 fr:FrI s
 q:∀ j:Nat,i<=j->j<l.length->∃ k,LvA s.S (ag l j 0) k
def DsA (l:ab):Prop:=∀ i j:Nat,i<j->j<l.length->ag l i 0≠ag l j 0
section
variable {a0 a1 a2: ab} {a3: Int} {a4 a5 a6 a7 a8 a9 aA aB: ab} {aC: Int} {aD: ab} {aE aF aG aH: Int} {aI: Bool} {aJ aK: Int} {aL: ab} {aM aN: Int}
def ac8 {l:ab}{n j k:Nat}(h:j<n):ag (l.take n) j k=ag l j k:=by
 unfold ag;rw[Zn (l:=Yp _ _),Zn (l:=l),List.getElem?_take_of_lt Uc]
end
end Go.V
namespace Go.V
def tkC (me:Bool)(kp mv:Int)(c u e f s l:ab):ab:=(fN me kp mv l ⟨c,u,e,f,s⟩ l.length).C
def tkU (me:Bool)(kp mv:Int)(c u e f s l:ab):ab:=(fN me kp mv l ⟨c,u,e,f,s⟩ l.length).U
def tkE (me:Bool)(kp mv:Int)(c u e f s l:ab):ab:=(fN me kp mv l ⟨c,u,e,f,s⟩ l.length).E
def tkF (me:Bool)(kp mv:Int)(c u e f s l:ab):ab:=(fN me kp mv l ⟨c,u,e,f,s⟩ l.length).F
def tkS (me:Bool)(kp mv:Int)(c u e f s l:ab):ab:=(fN me kp mv l ⟨c,u,e,f,s⟩ l.length).S
def tgB (k:Bool)(c n ck:Int):Bool:=k&&(decide (c≠100000)&&(inR n 0 1000&&decide (ck+n<=1000000)))
def zD (k:Bool)(c t:Int)(m:ab):Bool:=k&&(decide (c≠100000)&&inR t 0 (m.length-1))
structure TkP (me:Bool)(kp mv:Int)(l:ab)(s:F8)(i:Int)(c u e f t:ab):Prop where
 c:c=(fN me kp mv l s i.toNat).C
 u:u=(fN me kp mv l s i.toNat).U
 e:e=(fN me kp mv l s i.toNat).E
 f:f=(fN me kp mv l s i.toNat).F
 t:t=(fN me kp mv l s i.toNat).S
section
variable {me: Bool} {kp mv: Int} {l c u e f t c0 u0 e0 f0 t0: ab} {s: F8} {i a: Int}
end
section
variable {rm now age: Int} {qs: ab}
end
end Go.V
namespace Go.V
section
variable {S L: ab} {a: Int} {i: Nat}
end
section
variable {me: Bool} {kp mv: Int} {c u e f t: ab} {a: Int} {i: Nat}
end
section
variable {a0 a1 a2 a4 a5 a6 a7 a8 a9 aA aB aD aL: ab} {a: Int} {i: Nat}
end
end Go.V
namespace Go.V
def Jz (ck n:Int):Int:=ck+n
section
variable {k: Bool} {c n ck t: Int} {m: ab}
end
section
variable {a0 a1 a2: ab} {a3: Int} {a4 a5 a6 a7 a8 a9 aA aB: ab} {aC: Int} {aD: ab} {aE aF aG aH: Int} {aI: Bool} {aJ aK: Int} {aL: ab} {aM aN: Int} {n i: Int} {c u e f t: ab}
structure TiT (aC:Int)(aD:ab)(aF n:Int)(s:F8):Prop where
 b:qeB aC aD (Jz aF n) 100=true
 d:DsA (QH aC aD (Jz aF n) 100)
 q:FqI (QH aC aD (Jz aF n) 100) 0 s
 w:Rw [tI,tI,tI] (qeL aC aD (Jz aF n) 100)
 l:(qeL aC aD (Jz aF n) 100).length<=aD.length
 m:(QH aC aD (Jz aF n) 100).length<=aD.length
 r:Rw [tI,tI,tI] (QH aC aD (Jz aF n) 100)
end
end Go.V
namespace Go.V
def Qz (s:Int):Int:=(1103515245*s+12345)%1073741824
def nxS (s:Int):Int:=if inR s 0 1073741823=true then Qz s else 0
def Mm (s n:Int):Bool:=inR s 0 1073741823&&inR n 1 1000
def cuI (s n:Int):Int:=if Mm s n=true then Qz s/1024%n else 0
def cuS (s n:Int):Int:=if Mm s n=true then Qz s else s
def NM {s:Int}:0<=Qz s/\Qz s<=1073741823:=by unfold Qz;omega
def ahZ {s:Int}(h:inR s 0 1073741823=true):nxS s=bK .rem Za (bK .add Za (bK .mul Za 1103515245 s) 12345) 1073741824:=by
 have q:=bz.1 h;unfold nxS;rw[VE h,Fg Uc,bD Uc,ve Uc];rfl
def ahY {s:Int}(h:inR s 0 1073741823=false):nxS s=0:=by unfold nxS;rw[h];rfl
def acX {s n:Int}(h1:inR s 0 1073741823=true)(h2:inR n 1 1000=true):cuI s n=bK .rem Za (bK .quo Za (nxS s) 1024) n/\cuS s n=nxS s:=by
 have q:=bz.1 h2;have e:nxS s=Qz s:=by unfold nxS;rw[VE h1]
 have r:=NM (s:=s);have b:Mm s n=true:=by unfold Mm;rw[h1,h2];rfl
 unfold cuI cuS;rw[VE b,VE b,e,rJ Uc Uc Uc,ve Uc];exact⟨rfl,rfl⟩
def PP {s n:Int}(h:Mm s n=false):cuI s n=0/\cuS s n=s:=by unfold cuI cuS;rw[h];exact⟨rfl,rfl⟩
def acV {s n:Int}(h:inR s 0 1073741823=false):Mm s n=false:=by unfold Mm;rw[h];rfl
def acW {s n:Int}(h:inR n 1 1000=false):Mm s n=false:=by unfold Mm;rw[h,Z3]
def JF {s n:Int}(h1:inR s 0 1073741823=true)(n1:1<=n)(n2:n<=1000):0<=cuI s n/\cuI s n<n/\inR (cuS s n) 0 1073741823=true:=by
 have b:Mm s n=true:=by unfold Mm;rw[h1,bz.2 ⟨n1,n2⟩];rfl
 have r:=NM (s:=s);unfold cuI cuS;rw[VE b,VE b];exact⟨X6 _ Uc,X7 _ Uc,bz.2 r⟩
def LG (s n:Int):Bool:=inR s 0 1073741823&&inR n 0 64
def LC:Nat->ab
 |0=>[]
 |n+1=>LC n++[[.i (n:Int)]]
def jV:∀ {n:Nat},(LC n).length=n
 |0=>rfl
 |n+1=>by simp[LC,jV (n:=n)]
def T0 (es:ab)(i j:Int):ab:=(es.set i.toNat [.i (ag es j 0)]).set j.toNat [.i (ag es i 0)]
def FC {es:ab}{i j:Int}:(T0 es i j).length=es.length:=by unfold T0;simp
def Ot:Nat->ab->Int->ab
 |0,es,_=>es
 |k+1,es,s=>Ot k (T0 es ((k:Int)+1) (cuI s ((k:Int)+2))) (cuS s ((k:Int)+2))
def shS:Nat->Int->Int
 |0,s=>s
 |k+1,s=>shS k (cuS s ((k:Int)+2))
def shuL (s n:Int):ab:=if LG s n=true then Ot (n-1).toNat (LC n.toNat) s else[]
def shuS (s n:Int):Int:=if LG s n=true then shS (n-1).toNat s else s
def Ov {s n:Int}(h:LG s n=false):shuL s n=[]/\shuS s n=s:=by unfold shuL shuS;rw[h];exact⟨rfl,rfl⟩
def afT {s n:Int}(h:inR s 0 1073741823=false):LG s n=false:=by unfold LG;rw[h];rfl
def afU {s n:Int}(h:inR n 0 64=false):LG s n=false:=by unfold LG;rw[h,Z3]
def QU {s n:Int}(h1:inR s 0 1073741823=true)(h2:inR n 0 64=true):LG s n=true:=by unfold LG;rw[h1,h2];rfl
structure IoP (i:Int)(o:ab):Prop where
 e:o=LC i.toNat
def adG:IoP 0 []:=⟨rfl⟩
def aa1 {i:Int}{o:ab}(h:IoP i o)(i0:0<=i):IoP (i+1) (o++[[.i i]]):=⟨by
 have e:(i+1).toNat=i.toNat+1:=by omega
 rw[e,h.e];simp only[LC];rw[Zo i0]⟩
def JO {i:Int}{o:ab}(h:IoP i o)(i0:0<=i):(o.length:Int)=i:=by rw[h.e,jV];omega
def Im:∀ {n:Nat},n<=64->Rw [tI] (LC n)
 |0,_=>Rw.nil
 |n+1,h=>Rw.append (Im (n:=n) Uc) (Rw.one (show bW [tI] [.i (n:Int)]from⟨⟨rfl,(show-9223372036854775808<=(n:Int)/\(n:Int)<=9223372036854775807 by omega)⟩,trivial⟩)) (by rw[jV];unfold maxLen;simp only[Zp,Zt];omega)
structure ShP (n s0 i:Int)(o:ab)(s:Int):Prop where
 r:Rw [tI] o
 l:(o.length:Int)=n
 k:inR s 0 1073741823=true
 e:Ot i.toNat o s=Ot (n-1).toNat (LC n.toNat) s0
 f:shS i.toNat s=shS (n-1).toNat s0
def afV {n s i:Int}{o:ab}(h:IoP i o)(i0:0<=i)(e:i=n)(n1:n<=64)(hk:inR s 0 1073741823=true):ShP n s (n-1) o s:=by
 subst e;exact⟨by rw[h.e];exact Im Uc,JO h i0,hk,by rw[h.e],rfl⟩
def T3 {es:ab}{i j:Int}(h:Rw [tI] es)(i0:0<=i)(i1:i<es.length)(j0:0<=j)(j1:j<es.length):Rw [tI] (T0 es i j):=by
 have a:=ET h i0 i1;have b:=ET h j0 j1;unfold T0;exact Rw.set (Rw.set h (show bW [tI] [.i (ag es j 0)]from⟨⟨rfl,b⟩,trivial⟩) _) (show bW [tI] [.i (ag es i 0)]from⟨⟨rfl,a⟩,trivial⟩) _
def acs {l:ab}{i x:Int}(h:Rw [tI] l)(h0:0<=i)(h1:i<l.length):vk (.s 1 l) [(i.toNat,0)] [.i x]=l.set i.toNat [.i x]:=sx (by rw[h.wid Uc];rfl)
def af9 {l:ab}{i j:Int}(h:Rw [tI] l)(i0:0<=i)(i1:i<l.length)(j0:0<=j)(j1:j<l.length):vk (.s 1 (vk (.s 1 l) [(i.toNat,0)] [.i (C7 (.s 1 l) [(j.toNat,0)])])) [(j.toNat,0)] [.i (C7 (.s 1 l) [(i.toNat,0)])]=T0 l i j:=by
 have b:=ET h j0 j1;rw[gS i0,gS j0,acs h i0 i1,acs (Rw.set h (show bW [tI] [.i (ag l j 0)]from⟨⟨rfl,b⟩,trivial⟩) _) j0 (by rw[ZH];exact j1)];rfl
def acn {l:ab}{i j:Int}(h:Rw [tI] l)(i0:0<=i)(i1:i<l.length)(j0:0<=j)(j1:j<l.length):∃ rec o',bT (.s 1 (vk (.s 1 l) [(i.toNat,0)] [.i (C7 (.s 1 l) [(j.toNat,0)])])) [(j.toNat,0)]=some (rec,o')/\o'+1<=rec.length:=by
 have b:=ET h j0 j1;rw[gS j0,acs h i0 i1];exact Sw (Rw.set h (show bW [tI] [.i (ag l j 0)]from⟨⟨rfl,b⟩,trivial⟩) _) j0 (by rw[ZH];exact j1)
def IZ {a b:ab}{x y:Int}(h:a=b)(k:x=y):[DV.one (.s 1 a),DV.j x]=[DV.one (.s 1 b),DV.j y]:=by rw[h,k]
def acj {n s0 i s:Int}{o:ab}(h:ShP n s0 i o s)(i0:1<=i)(i1:i<n)(n1:n<=64):ShP n s0 (i-1) (T0 o i (cuI s (i+1))) (cuS s (i+1)):=by
 have q:=JF (n:=i+1) h.k Uc Uc;have e:i.toNat=(i-1).toNat+1:=by omega
 have e2:(((i-1).toNat:Nat):Int)+1=i:=by omega
 have e3:(((i-1).toNat:Nat):Int)+2=i+1:=by omega
 have a:=h.e;have b:=h.f;rw[e]at a b;simp only[Ot,shS,e2,e3]at a b;have l:=h.l;exact⟨T3 h.r Uc Uc q.1 Uc,by rw[FC];exact l,q.2.2,a,b⟩
def QW {n s0 i s:Int}{o:ab}(h:ShP n s0 i o s)(i0:i<1)(k:LG s0 n=true):o=shuL s0 n/\s=shuS s0 n:=by
 have e:i.toNat=0:=by omega
 have a:=h.e;have b:=h.f;rw[e]at a b;unfold shuL shuS;rw[VE k,VE k];exact⟨a,b⟩
end Go.V
namespace Go.V
def ppB (p k b q l c:Int):Bool:=decide ((sclL p k b).length<(sclL q l c).length)
def ppK (p k b q l c:Int):Int:=if mshB p k b q l c=true then(if ppB p k b q l c=true then q else p)else 0
def ppM (p k b q l c:Int):Int:=if mshB p k b q l c=true then(if ppB p k b q l c=true then p else q)else 0
def ppC (p k b q l c:Int):ab:=if mshB p k b q l c=true then(if ppB p k b q l c=true then sclL p k b else sclL q l c)else[]
def ah9 {p k b q l c:Int}(h:mshB p k b q l c=false):ppK p k b q l c=0/\ppM p k b q l c=0/\ppC p k b q l c=[]:=by unfold ppK ppM ppC;rw[h];exact⟨rfl,rfl,rfl⟩
def ah7 {p k b q l c:Int}(h:mshB p k b q l c=true)(g:(sclL p k b).length<(sclL q l c).length):ppK p k b q l c=q/\ppM p k b q l c=p/\ppC p k b q l c=sclL p k b:=by
 have g':ppB p k b q l c=true:=VB g;unfold ppK ppM ppC;rw[h,g'];exact⟨rfl,rfl,rfl⟩
def ah8 {p k b q l c:Int}(h:mshB p k b q l c=true)(g:¬ (sclL p k b).length<(sclL q l c).length):ppK p k b q l c=p/\ppM p k b q l c=q/\ppC p k b q l c=sclL q l c:=by
 have g':ppB p k b q l c=false:=VC g;unfold ppK ppM ppC;rw[h,g'];exact⟨rfl,rfl,rfl⟩
def IU {x y x' y':Int}{r r':ab}{b b':Bool}(h1:x=x')(h2:y=y')(h3:r=r')(h4:b=b'):[DV.agg [.i x,.i y,.s 1 r],DV.k b]=[DV.agg [.i x',.i y',.s 1 r'],DV.k b']:=by rw[h1,h2,h3,h4]
def MW {x y z w x' y' z' w':Int}{r r':ab}{b b':Bool}(h1:x=x')(h2:y=y')(h3:r=r')(h4:z=z')(h5:w=w')(h6:b=b'):[DV.agg [.i x,.i y,.s 1 r,.i z,.i w],DV.k b]=[DV.agg [.i x',.i y',.s 1 r',.i z',.i w'],DV.k b']:=by rw[h1,h2,h3,h4,h5,h6]
def tnH (es:ab)(x i:Int):Bool:=decide (ag es i 0=x)||decide (ag es i 1=x)
def tnI (es:ab)(x:Int):Int:=cK (tnH es x) es.length
def tnB (es:ab)(x:Int):Bool:=decide (0<=tnI es x)
def tnP (a b x:Int):Bool:=decide (a=x)||decide (b=x)
def agb {a b x:Int}(h:a=x):tnP a b x=true:=by unfold tnP;rw[VB h];rfl
def agc {a b x:Int}(h:¬ a=x):tnP a b x=cM .eql b x:=by unfold tnP;rw[VC h];rfl
def Qe {k m:Int}{cs:ab}(h:plOk k m cs=true):ifZ (plOk k m cs) k=k/\ifZ (plOk k m cs) m=m/\ifR (plOk k m cs) cs []=cs:=by rw[h];exact⟨rfl,rfl,rfl⟩
def ahC {k m:Int}{cs:ab}(h:plOk k m cs=false):ifZ (plOk k m cs) k=0/\ifZ (plOk k m cs) m=0/\ifR (plOk k m cs) cs []=[]:=by rw[h];exact⟨rfl,rfl,rfl⟩
end Go.V
namespace Go.V
end Go.V
namespace Go.V
def Jn (n:Int)(es:ab):Prop:=∀ j:Nat,j<es.length->0<=ag es (j:Int) 0/\ag es (j:Int) 0<n
def ac9 {es:ab}{i j:Nat}{x:Int}(hj:j<es.length):ag (es.set i [.i x]) (j:Int) 0=if i=j then x else ag es (j:Int) 0:=by
 unfold ag;simp only[ZA,Zn];by_cases c:i=j
 ·subst c;rw[VE rfl,X8 hj];rfl
 ·rw[VF c,WH c]
def Jn.st {n x:Int}{es:ab}{i:Nat}(h:Jn n es)(x0:0<=x)(x1:x<n):Jn n (es.set i [.i x]):=fun j hj=>by
 rw[ZH]at hj;rw[ac9 hj];split;exact⟨x0,x1⟩;exact h j hj
def Jn.at {n i:Int}{es:ab}(h:Jn n es)(i0:0<=i)(i1:i<es.length):0<=ag es i 0/\ag es i 0<n:=by
 have:=h i.toNat Uc;rw[Zo i0]at this;exact this
def Jn.sw {n i j:Int}{es:ab}(h:Jn n es)(i0:0<=i)(i1:i<es.length)(j0:0<=j)(j1:j<es.length):Jn n (T0 es i j):=by
 have a:=h.at i0 i1;have b:=h.at j0 j1;exact(h.st b.1 b.2).st a.1 a.2
def o6 {a:ab}{r:ax}{n j:Nat}(h:n<a.length):ag (a++[r]) (n:Int) j=ag a (n:Int) j:=by
 unfold ag;simp only[ZA,Zn];rw[List.getElem?_append_left h]
def qG {a:ab}{r:ax}{j:Nat}:ag (a++[r]) (a.length:Int) j=SX (r.getD j .g):=by
 unfold ag;simp only[ZA,Zn];rw[List.getElem?_append_right (Zf _),Nat.sub_self];rfl
def MU:∀ {n:Nat} {m:Int},(n:Int)<=m->Jn m (LC n)
 |0,_,_=>fun j hj=>absurd hj (by simp[LC])
 | n+1,m,h=>fun j hj=>by
   rw[jV]at hj;simp only[LC];by_cases c:j<n
   ·rw[o6 (by rw[jV];exact c)];exact MU (n:=n) (m:=m) Uc j (by rw[jV];exact c)
   ·have e:j=n:=by omega
    subst e;have q:=qG (a:=LC j) (r:=[L.i (j:Int)]) (j:=0);rw[jV]at q;rw[q];show 0<=(j:Int)/\(j:Int)<m;omega
def TO {n:Int}(n1:n<=64):∀ {k:Nat} {es:ab} {s:Int},Jn n es->(es.length:Int)=n->(k:Int)<n->inR s 0 1073741823=true->Jn n (Ot k es s)
 |0,es,s,h,_,_,_=>h
 | k+1,es,s,h,hl,hk,hs=>by
   simp only[Ot];have q:=JF (n:=(k:Int)+2) hs Uc Uc;exact TO n1 (h.sw Uc Uc q.1 Uc) (by rw[FC];exact hl) Uc q.2.2
def KI:∀ {k:Nat} {es:ab} {s:Int},(Ot k es s).length=es.length
 |0,_,_=>rfl
 |k+1,es,s=>by simp only[Ot];rw[KI,FC]
def zC {s n:Int}(h1:inR s 0 1073741823=true)(h2:inR n 0 64=true):((shuL s n).length:Int)=n:=by
 have q:=bz.1 h2;unfold shuL;rw[VE (QU h1 h2),KI,jV];omega
def I2 {s n:Int}(h1:inR s 0 1073741823=true)(h2:inR n 0 64=true):Jn n (shuL s n):=by
 have q:=bz.1 h2;unfold shuL;rw[VE (QU h1 h2)];by_cases c:n=0
 ·subst c;exact MU (n:=0) Uc
 ·exact TO q.2 (MU Uc) (by rw[jV];omega) Uc h1
def TP {n:Int}(n1:n<=64):∀ {k:Nat} {es:ab} {s:Int},Rw [tI] es->(es.length:Int)=n->(k:Int)<n->inR s 0 1073741823=true->Rw [tI] (Ot k es s)
 |0,es,s,h,_,_,_=>h
 | k+1,es,s,h,hl,hk,hs=>by
   simp only[Ot];have q:=JF (n:=(k:Int)+2) hs Uc Uc;exact TP n1 (T3 h Uc Uc q.1 Uc) (by rw[FC];exact hl) Uc q.2.2
def Ox {s n:Int}:Rw [tI] (shuL s n):=by
 cases b:LG s n with
 |false=>rw[(Ov b).1];exact Rw.nil
 | true=>
   unfold LG at b;rw[Zc]at b;have q:=bz.1 b.2;unfold shuL;rw[VE (QU b.1 b.2)];by_cases c:n=0
   ·subst c;exact Rw.nil
   ·exact TP q.2 (Im Uc) (by rw[jV];omega) Uc b.1
def spM (sp:ab)(a b:Int):Bool:=mshB (ag sp a 0) (ag sp a 1) (ag sp a 2) (ag sp b 0) (ag sp b 1) (ag sp b 2)
def Li (od:ab)(h p i:Int):Int:=ag od (h+(i+p)%(od.length-h)) 0
def LH (sp od:ab)(h p i:Int)(o:ab):Bool:= !tnB o (ag od i 0)&&(!tnB o (Li od h p i)&&spM sp (ag od i 0) (Li od h p i))
def TT (sp od:ab)(h p i:Int)(o:ab):ab:=if LH sp od h p i o=true then o++[[.i (ag od i 0),.i (Li od h p i)]]else o
def yX (sp od:ab)(h p:Int):Nat->ab->ab
 |0,o=>o
 |i+1,o=>TT sp od h p (i:Int) (yX sp od h p i o)
def O7 (sp od:ab)(h:Int):Nat->ab
 |0=>[]
 |p+1=>yX sp od h (p:Int) h.toNat (O7 sp od h p)
def Lj (sp:ab)(s k:Int):Bool:=decide ((sp.length:Int)<=16)&&(inR k 0 16&&inR s 0 1073741823)
def sqL (sp:ab)(s k:Int):ab:=if Lj sp s k=true then O7 sp (shuL s sp.length) ((sp.length:Int)/2) k.toNat else[]
def sqS (sp:ab)(s k:Int):Int:=if Lj sp s k=true then shuS s sp.length else s
def yY {sp:ab}{s k:Int}(h:Lj sp s k=false):sqL sp s k=[]/\sqS sp s k=s:=by unfold sqL sqS;rw[h];exact⟨rfl,rfl⟩
def QY {sp:ab}{s k:Int}(h:(16:Int)<sp.length):Lj sp s k=false:=by unfold Lj;rw[VC Uc];rfl
def QZ {sp:ab}{s k:Int}(h:inR k 0 16=false):Lj sp s k=false:=by unfold Lj;rw[h];simp
def Q0 {sp:ab}{s k:Int}(h:inR s 0 1073741823=false):Lj sp s k=false:=by unfold Lj;rw[h];simp
def afZ {sp:ab}{s k:Int}(h1:(sp.length:Int)<=16)(h2:inR k 0 16=true)(h3:inR s 0 1073741823=true):Lj sp s k=true:=by unfold Lj;rw[VB h1,h2,h3];rfl
end Go.V
namespace Go.V
def Dq {p:Int->Bool}{n:Nat}:0<=cK p n↔∃ j:Nat,j<n/\p (j:Int)=true:=by
 unfold cK;cases h:(List.range n).find? (fun j:Nat=>p (j:Int))with
 | none=>
   rw[List.find?_eq_none]at h
   constructor
   ·intro q;exact absurd q (by decide)
   ·rintro⟨j,h1,h2⟩;exact absurd h2 (h j (Z7.2 h1))
 | some j=>
   have h1:=List.find?_some h;have h2:=Z7.1 (List.mem_of_find?_eq_some h);exact⟨fun _=>⟨j,h2,h1⟩,fun _=>Int.natCast_nonneg j⟩
def acr {o:ab}{x:Int}:tnB o x=true↔∃ j:Nat,j<o.length/\(ag o (j:Int) 0=x\/ag o (j:Int) 1=x):=by
 unfold tnB tnI;rw[VD,Dq];unfold tnH;simp only[ZU,VD]
def acq {x:Int}:tnB [] x=false:=by
 cases h:tnB [] x with
 |false=>rfl
 |true=>obtain⟨j,hj,_⟩:=acr.1 h;exact absurd hj (by simp)
def acp {o:ab}{a b x:Int}:tnB (o++[[.i a,.i b]]) x=(tnB o x||(decide (a=x)||decide (b=x))):=by
 rw[Bool.eq_iff_iff,ZU,ZU,VD,VD,acr,acr]
 constructor
 ·rintro⟨j,hj,h⟩;rw[Zh]at hj;by_cases c:j<o.length
  ·rw[o6 c,o6 c]at h;exact .inl ⟨j,c,h⟩
  ·have e:j=o.length:=by simp only[Zp,Zt]at hj;omega
   subst e;rw[qG,qG]at h;exact .inr h
 ·rintro(⟨j,hj,h⟩|h);exact⟨j,by rw[Zh];omega,by rw[o6 hj,o6 hj];exact h⟩;exact⟨o.length,by simp,by rw[qG,qG];exact h⟩
structure Po (n:Int)(o u:ab):Prop where
 r:Rw [tB] u
 l:(u.length:Int)=n
 e:∀ x:Int,0<=x->x<n->qO u x 0=tnB o x
def Sv {u:ab}{i:Nat}{x:Int}{b:Bool}(x0:0<=x)(x1:x<u.length):qO (u.set i [.v (.bool b)]) x 0=if(i:Int)=x then b else qO u x 0:=by
 unfold qO;simp only[Zn];by_cases c:(i:Int)=x
 ·rw[VE c];have e:x.toNat=i:=by omega
  rw[e,X8 Uc];rfl
 ·rw[VF c,WH Uc]
def acu {n a b:Int}{o u:ab}(h:Po n o u)(a0:0<=a)(a1:a<n)(b0:0<=b)(b1:b<n):Po n (o++[[.i a,.i b]]) ((u.set a.toNat [.v (.bool true)]).set b.toNat [.v (.bool true)]):=by
 have l:=h.l;refine⟨Rw.set (Rw.set h.r (show bW [tB] [.v (.bool true)]from⟨trivial,trivial⟩) _) (show bW [tB] [.v (.bool true)]from⟨trivial,trivial⟩) _,by rw[ZH,ZH];exact l,fun x x0 x1=>?_⟩;rw[Sv x0 (by rw[ZH];omega),Sv x0 Uc,acp,h.e x x0 x1,Zo a0,Zo b0];by_cases c:b=x
 ·rw[VE c,VB c];simp
 ·rw[VF c,VC c];by_cases d:a=x
  ·rw[VE d,VB d];simp
  ·rw[VF d,VC d];simp
structure LA (sp od:ab)(h p:Int)(o:ab):Prop where
 e:o=O7 sp od h p.toNat
 r:Rw [tI,tI] o
 l:(o.length:Int)<=h*p
structure Ly (sp od:ab)(h p i:Int)(o q:ab):Prop where
 e:q=yX sp od h p i.toNat o
 r:Rw [tI,tI] q
 l:(q.length:Int)<=o.length+i
section
variable {sp od o q: ab} {h p i: Int}
def TS:LA sp od h 0 []:=⟨rfl,Rw.nil,by simp⟩
def TQ (g:LA sp od h p o):Ly sp od h p 0 o o:=⟨rfl,g.r,Uc⟩
def wD (g:Ly sp od h p i o q)(i0:0<=i)(t:LH sp od h p i q=false):Ly sp od h p (i+1) o q:=by
 have e:(i+1).toNat=i.toNat+1:=by omega
 refine⟨?_,g.r,by have:=g.l;omega⟩;rw[e];simp only[yX];rw[<-g.e,Zo i0];unfold TT;rw[t];rfl
def KJ (g:Ly sp od h p i o q)(i0:0<=i)(t:LH sp od h p i q=true)(a0: -9223372036854775808<=ag od i 0/\ag od i 0<=9223372036854775807)(b0: -9223372036854775808<=Li od h p i/\Li od h p i<=9223372036854775807)(hl:(q.length:Int)<=1048576):Ly sp od h p (i+1) o (q++[[.i (ag od i 0),.i (Li od h p i)]]):=by
 have e:(i+1).toNat=i.toNat+1:=by omega
 refine⟨?_,Rw.append g.r (Rw.one (show bW [tI,tI] [.i (ag od i 0),.i (Li od h p i)]from⟨⟨rfl,a0⟩,⟨rfl,b0⟩,trivial⟩)) (by unfold maxLen;simp only[Zp,Zt];omega),by have:=g.l;simp only[Zh,Zp,Zt];omega⟩;rw[e];simp only[yX];rw[<-g.e,Zo i0];unfold TT;rw[VE t]
def OB (g:LA sp od h p o)(f:Ly sp od h p i o q)(p0:0<=p)(h0:0<=h)(i1:i=h):LA sp od h (p+1) q:=by
 have e:(p+1).toNat=p.toNat+1:=by omega
 subst i1;refine⟨?_,f.r,?_⟩
 ·rw[e];simp only[O7];rw[<-g.e,Zo p0];exact f.e
 ·have a:=f.l;have b:=g.l;rw[Int.mul_add];omega
def KM {s k:Int}(g:LA sp (shuL s sp.length) ((sp.length:Int)/2) p o)(e:p=k)(b:Lj sp s k=true):o=sqL sp s k/\shuS s sp.length=sqS sp s k:=by
 subst e;unfold sqL sqS;rw[VE b,VE b];exact⟨g.e,rfl⟩
def nE {a b:ab}{x y:Int}(h:a=b)(k:x=y):[DV.one (.s 2 a),DV.j x]=[DV.one (.s 2 b),DV.j y]:=by rw[h,k]
end
end Go.V
namespace Go.V
def af1 {n:Int}(n0:0<=n)(n1:n<=16):bK .quo Za n 2=n/2:=rJ n0 Uc Uc
def aiF {n:Int}(n0:0<=n):((H9 (n/2) 0:Nat):Int)=n/2:=by unfold H9;omega
def aiH {od:ab}{n:Int}(hl:(od.length:Int)=n)(n0:0<=n):((H9 (od.length:Int) (n/2):Nat):Int)=n-n/2:=by unfold H9;omega
def acl {i:Int}:adI (Xy 0) i=i.toNat:=by unfold adI;exact Nat.zero_add _
def aiE {n j:Int}(n0:0<=n)(j0:0<=j):adI (n/2).toNat j=(n/2+j).toNat:=by unfold adI;omega
def af0 {n i p:Int}(i0:0<=i)(p0:0<=p)(i1:i<n/2)(p1:p<=16)(n1:n<=16):bK .rem Za (bK .add Za i p) (n-n/2)=(i+p)%(n-n/2)/\0<=(i+p)%(n-n/2)/\(i+p)%(n-n/2)<n-n/2:=by
 rw[bD Uc,ve Uc];exact⟨rfl,X6 _ Uc,X7 _ Uc⟩
def je {od:ab}{n p i:Int}(hl:(od.length:Int)=n):Li od (n/2) p i=ag od (n/2+(i+p)%(n-n/2)) 0:=by unfold Li;rw[hl]
def TV {sp od q:ab}{h p i:Int}(a:tnB q (ag od i 0)=true):LH sp od h p i q=false:=by unfold LH;rw[a];rfl
def TW {sp od q:ab}{h p i:Int}(a:tnB q (Li od h p i)=true):LH sp od h p i q=false:=by unfold LH;rw[a];simp
def TX {sp od q:ab}{h p i:Int}(a:spM sp (ag od i 0) (Li od h p i)=false):LH sp od h p i q=false:=by unfold LH;rw[a];simp
def TY {sp od q:ab}{h p i:Int}(a:tnB q (ag od i 0)=false)(b:tnB q (Li od h p i)=false)(c:spM sp (ag od i 0) (Li od h p i)=true):LH sp od h p i q=true:=by unfold LH;rw[a,b,c];rfl
def afW {sp od o:ab}{h p:Int}(g:LA sp od h p o)(h0:0<=h)(h1:h<=8)(p0:0<=p)(p1:p<=16):(o.length:Int)<=128:=by
 have a:=g.l;have b:h*p<=8*16:=Int.mul_le_mul h1 p1 p0 Uc;omega
end Go.V
namespace Go.V
def agf {n x:Int}{q v:ab}(h:Po n q v)(x0:0<=x)(x1:x<n):Tv (.s 1 v) [(x.toNat,0)]=tnB q x:=by rw[abX x0];exact h.e x x0 x1
def agh {a b:Int}{u:ab}(r:Rw [tB] u)(a0:0<=a)(a1:a<u.length)(b0:0<=b)(b1:b<u.length):vk (.s 1 (vk (.s 1 u) [(a.toNat,0)] [.v (.bool true)])) [(b.toNat,0)] [.v (.bool true)]=(u.set a.toNat [.v (.bool true)]).set b.toNat [.v (.bool true)]:=by
 rw[OJ r a0 a1];exact OJ (Rw.set r (show bW [tB] [.v (.bool true)]from⟨trivial,trivial⟩) _) b0 (by rw[ZH];exact b1)
def af4 {a b:Int}{v:ab}(r:Rw [tB] v)(a0:0<=a)(a1:a<v.length)(b0:0<=b)(b1:b<v.length):∃ rec o,bT (L.s 1 (vk (.s 1 v) [(a.toNat,0)] [.v (.bool true)])) [(b.toNat,0)]=some (rec,o)/\o+1<=rec.length:=by
 rw[OJ r a0 a1];exact il (by rw[ZH];omega) (by rw[(Rw.set r (show bW [tB] [.v (.bool true)]from⟨trivial,trivial⟩) _).eta b0 (by rw[ZH];exact b1)];exact Zf _)
def agi {n:Nat}(hn:n<=maxLen):Po (n:Int) [] (ZM n [.v (.bool false)]):=
 ⟨⟨by rw[Z9];exact hn,fun e he=>by rw[(List.mem_replicate.1 he).2];exact⟨trivial,trivial⟩⟩,by rw[Z9],fun x x0 x1=>by
   have e:(ZM n [L.v (.bool false)]).getD x.toNat []=[L.v (.bool false)]:=by rw[Zn,List.getElem?_replicate,VE Uc];rfl
   rw[acq];unfold qO;rw[e];rfl⟩
def afB {n:Int}{r:ax}(n0:0<=n):((oJ n r).length:Int)=n:=by unfold oJ;rw[Z9];omega
def aiI {n:Int}(n0:0<=n)(n1:n<=16):bK .sub Za n (n/2)=n-n/2:=dp Uc
def aiG {n m:Int}(n0:0<=n)(n1:n<=16)(m0:0<=m)(m1:m<n-n/2):bK .add Za (n/2) m=n/2+m:=bD Uc
structure P2 (n:Int)(o:ab):Prop where
 r:Rw [tI,tI] o
 i:∀ j:Nat,j<o.length->(0<=ag o (j:Int) 0/\ag o (j:Int) 0<n)/\(0<=ag o (j:Int) 1/\ag o (j:Int) 1<n)
def NU {n:Int}:P2 n []:=⟨Rw.nil,fun j hj=>absurd hj (by simp)⟩
def abW {n a b:Int}{o:ab}(h:P2 n o)(n1:n<=16)(l:o.length<=1048576)(a0:0<=a)(a1:a<n)(b0:0<=b)(b1:b<n):P2 n (o++[[.i a,.i b]]):=by
 have ha: -9223372036854775808<=a/\a<=9223372036854775807:=by omega
 have hb: -9223372036854775808<=b/\b<=9223372036854775807:=by omega
 refine⟨Rw.append h.r (Rw.one (show bW [tI,tI] [.i a,.i b]from⟨⟨rfl,ha⟩,⟨rfl,hb⟩,trivial⟩)) (by unfold maxLen;simp only[Zp,Zt];omega),fun j hj=>?_⟩;rw[Zh]at hj;by_cases c:j<o.length
 ·rw[o6 c,o6 c];exact h.i j c
 ·have e:j=o.length:=by simp only[Zp,Zt]at hj;omega
  subst e;rw[qG,qG];exact⟨⟨a0,a1⟩,⟨b0,b1⟩⟩
def QX {sp od:ab}{h p i:Int}{o:ab}:(TT sp od h p i o).length<=o.length+1:=by
 unfold TT;split
 ·rw[Zh];exact Zf _
 ·omega
def BN {sp od:ab}{h p:Int}{o:ab}:∀ i:Nat,(yX sp od h p i o).length<=o.length+i
 |0=>by simp only[yX];omega
 | i+1=>by
   simp only[yX];have a:=QX (sp:=sp) (od:=od) (h:=h) (p:=p) (i:=(i:Int)) (o:=yX sp od h p i o);have b:=BN (sp:=sp) (od:=od) (h:=h) (p:=p) (o:=o) i;omega
def KN {sp od:ab}{n p:Int}{o:ab}(n1:n<=16)(hi:Jn n od)(hl:(od.length:Int)=n)(l:o.length<=1048560)(g:P2 n o):∀ i:Nat,(i:Int)<=n/2->P2 n (yX sp od (n/2) p i o)
 |0,_=>g
 | i+1,h=>by
   have ih:=KN (sp:=sp) (p:=p) n1 hi hl l g i Uc;have len:=BN (sp:=sp) (od:=od) (h:=n/2) (p:=p) (o:=o) i;simp only[yX];unfold TT;split
   ·have m0:=X6 ((i:Int)+p) (show n-n/2≠0 by omega);have m1:=X7 ((i:Int)+p) (show 0<n-n/2 by omega);have a:=hi.at (i:=(i:Int)) Uc Uc;have b:=hi.at (i:=n/2+((i:Int)+p)%(n-n/2)) Uc Uc;refine abW ih n1 Uc a.1 a.2 ?_ ?_
    ·rw[je hl];exact b.1
    ·rw[je hl];exact b.2
   ·exact ih
def OC {sp od:ab}{n:Int}(n0:0<=n)(n1:n<=16)(hi:Jn n od)(hl:(od.length:Int)=n):∀ p:Nat,p<=16->P2 n (O7 sp od (n/2) p)/\(O7 sp od (n/2) p).length<=p*8
 |0,_=>⟨NU,Ze _⟩
 | p+1,h=>by
   have ih:=OC (sp:=sp) n0 n1 hi hl p Uc;have len:=BN (sp:=sp) (od:=od) (h:=n/2) (p:=(p:Int)) (o:=O7 sp od (n/2) p) (n/2).toNat;simp only[O7];exact⟨KN n1 hi hl Uc ih.1 _ Uc,Uc⟩
def afY {sp:ab}{s k:Int}:P2 sp.length (sqL sp s k)/\(sqL sp s k).length<=128:=by
 unfold sqL;split
 ·rename_i b;unfold Lj at b;rw[Zc,Zc]at b;have n1:=VG b.1;have kk:=bz.1 b.2.1;have nn:inR (sp.length:Int) 0 64=true:=bz.2 ⟨Uc,Uc⟩;have q:=OC (sp:=sp) (n:=(sp.length:Int)) Uc n1 (I2 b.2.2 nn) (zC b.2.2 nn) k.toNat Uc;exact⟨q.1,Uc⟩
 ·exact⟨NU,Ze _⟩
def sf (e s:ab):ab:=(msS e s).take 16
def xj (e s:ab)(d:Int):ab:=sqL (sf e s) d 3
def na (e s:ab)(d:Int)(c j:Nat):Int:=ag (sf e s) (ag (xj e s d) 0 c) j
def HM (e s:ab)(d:Int):Int:=ppK (na e s d 0 0) (na e s d 0 1) (na e s d 0 2) (na e s d 1 0) (na e s d 1 1) (na e s d 1 2)
def HN (e s:ab)(d:Int):Int:=ppM (na e s d 0 0) (na e s d 0 1) (na e s d 0 2) (na e s d 1 0) (na e s d 1 1) (na e s d 1 2)
def HL (e s:ab)(d:Int):ab:=ppC (na e s d 0 0) (na e s d 0 1) (na e s d 0 2) (na e s d 1 0) (na e s d 1 1) (na e s d 1 2)
def mtG (k me:Bool):Bool:= !me&&k
def mtB (g:Bool)(e s:ab)(d:Int):Bool:=g&&decide (0<(xj e s d).length)
def mtD (g:Bool)(e s:ab)(d:Int):Int:=if g=true then sqS (sf e s) d 3 else d
def mtJk (g:Bool)(e s:ab)(d x:Int):Int:=if mtB g e s d=true then ifZ (plOk (HM e s d) (HN e s d) (HL e s d)) (HM e s d)else x
def mtJm (g:Bool)(e s:ab)(d x:Int):Int:=if mtB g e s d=true then ifZ (plOk (HM e s d) (HN e s d) (HL e s d)) (HN e s d)else x
def mtJc (g:Bool)(e s:ab)(d:Int)(x:ab):ab:=if mtB g e s d=true then ifR (plOk (HM e s d) (HN e s d) (HL e s d)) (HL e s d) []else x
def mtJ0 (g:Bool)(e s:ab)(d x:Int):Int:=if mtB g e s d=true then 0 else x
def mtO (g:Bool)(e s:ab)(d:Int)(me:Bool):Bool:=if mtB g e s d=true then true else me
section
variable {g me k: Bool} {e s x: ab} {d y: Int}
def mt_no (h:mtB g e s d=false):mtJk g e s d y=y/\mtJm g e s d y=y/\mtJc g e s d x=x/\mtJ0 g e s d y=y/\mtO g e s d me=me:=by
 unfold mtJk mtJm mtJc mtJ0 mtO;rw[h];exact⟨rfl,rfl,rfl,rfl,rfl⟩
def Bu (h:mtB g e s d=true):mtJk g e s d y=ifZ (plOk (HM e s d) (HN e s d) (HL e s d)) (HM e s d)/\mtJm g e s d y=ifZ (plOk (HM e s d) (HN e s d) (HL e s d)) (HN e s d)/\mtJc g e s d x=ifR (plOk (HM e s d) (HN e s d) (HL e s d)) (HL e s d) []/\mtJ0 g e s d y=0/\mtO g e s d me=true:=by
 unfold mtJk mtJm mtJc mtJ0 mtO;rw[h];exact⟨rfl,rfl,rfl,rfl,rfl⟩
def Te (h:g=false):mtB g e s d=false:=by unfold mtB;rw[h];rfl
def NH (h:(xj e s d).length=0):mtB g e s d=false:=by unfold mtB;rw[h];simp
def NI (h:g=true)(q:(xj e s d).length≠0):mtB g e s d=true:=by unfold mtB;rw[h,VB Uc];rfl
def Tf (h:g=false):mtD g e s d=d:=by unfold mtD;rw[h];rfl
def Tg:mtG k true=false:=rfl
def Ti (h:k=false):mtG k me=false:=by unfold mtG;rw[h];simp
def Kc (h:k=true)(q:me=false):mtG k me=true:=by unfold mtG;rw[h,q];rfl
def zy:(sf e s).length<=16:=by unfold sf;rw[Zm];omega
def NE (h:Rw [tI,tI,tI] s):Rw [tI,tI,tI] (sf e s):=(Nx (es:=e) h).1.take 16
def IH:P2 (sf e s).length (xj e s d)/\(xj e s d).length<=128:=afY
def Td (q:(xj e s d).length≠0):(0<=ag (xj e s d) 0 0/\ag (xj e s d) 0 0<(sf e s).length)/\(0<=ag (xj e s d) 0 1/\ag (xj e s d) 0 1<(sf e s).length):=IH.1.i 0 Uc
def ab1 {p k b q l c:Int}:Rw [tI] (ppC p k b q l c)/\(ppC p k b q l c).length<=16:=by
 unfold ppC;split
 ·split;exact⟨KD,Ha⟩;exact⟨KD,Ha⟩
 ·exact⟨Rw.nil,Ze _⟩
def IC:Rw [tI] (HL e s d)/\(HL e s d).length<=16:=ab1
def abN (h:(msS e s).length<=16):msS e s=sf e s:=by unfold sf;rw[Yj h]
def abH {a b:Int}:mmI false a b=min a b:=by unfold mmI;rw[VF (by decide)];split<;>omega
def aeH:BO (msS e s) (Xy 0) (H9 (mmI false ((msS e s).length:Int) 16) 0)=sf e s:=by
 rw[wG,abH];unfold sf;by_cases h:((msS e s).length:Int)<=16
 ·rw[show(min ((msS e s).length:Int) 16)=(msS e s).length by omega,ZA,Yj (Zf _),Yj Uc]
 ·rw[show(min ((msS e s).length:Int) 16)=16 by omega];rfl
def aeI:BO (msS e s) (Xy 0) (H9 16 0)=sf e s:=rfl
def aeD:((H9 (mmI false ((msS e s).length:Int) 16) 0:Nat):Int)=(sf e s).length:=by
 rw[abH];unfold sf H9;rw[Zm];omega
def aeE (h:(16:Int)<(msS e s).length):((H9 16 0:Nat):Int)=(sf e s).length:=by
 unfold sf H9;rw[Zm];omega
def aeF:(0:Int)<=0/\0<=mmI false ((msS e s).length:Int) 16/\mmI false ((msS e s).length:Int) 16<=(msS e s).length:=by
 rw[abH];omega
def aeN:sqL (sf e s) d 3=xj e s d:=rfl
def NG:(sf e s).length<=(msS e s).length:=by unfold sf;rw[Zm];omega
def Tj {c j:Nat}(x0:0<=ag (xj e s d) 0 c)(x1:ag (xj e s d) 0 c<(sf e s).length):ag (msS e s) (ag (xj e s d) 0 c) j=na e s d c j:=by
 unfold na;have h:=ac8 (l:=msS e s) (n:=16) (j:=(ag (xj e s d) 0 c).toNat) (k:=j) (by have:=zy (e:=e) (s:=s);omega);rw[Zo x0]at h;exact h.symm
def aeO {c j:Nat}:ag (sf e s) (ag (xj e s d) 0 c) j=na e s d c j:=rfl
def aeL:ppK (na e s d 0 0) (na e s d 0 1) (na e s d 0 2) (na e s d 1 0) (na e s d 1 1) (na e s d 1 2)=HM e s d:=rfl
def aeM:ppM (na e s d 0 0) (na e s d 0 1) (na e s d 0 2) (na e s d 1 0) (na e s d 1 1) (na e s d 1 2)=HN e s d:=rfl
def aeK:ppC (na e s d 0 0) (na e s d 0 1) (na e s d 0 2) (na e s d 1 0) (na e s d 1 1) (na e s d 1 2)=HL e s d:=rfl
def Fe (h:mtB g e s d=false):mtJk g e s d y=y:=(mt_no (me:=true) (x:=[]) h).1
def Ff (h:mtB g e s d=false):mtJm g e s d y=y:=(mt_no (me:=true) (x:=[]) h).2.1
def Fc (h:mtB g e s d=false):mtJc g e s d x=x:=(mt_no (me:=true) (y:=0) h).2.2.1
def wo (h:mtB g e s d=false):mtJ0 g e s d y=y:=(mt_no (me:=true) (x:=[]) h).2.2.2.1
def Ka (h:mtB g e s d=false):mtO g e s d me=me:=(mt_no (y:=0) (x:=[]) h).2.2.2.2
def IF (h:mtB g e s d=true):mtJk g e s d y=ifZ (plOk (HM e s d) (HN e s d) (HL e s d)) (HM e s d):=(Bu (me:=true) (x:=[]) h).1
def IG (h:mtB g e s d=true):mtJm g e s d y=ifZ (plOk (HM e s d) (HN e s d) (HL e s d)) (HN e s d):=(Bu (me:=true) (x:=[]) h).2.1
def IE (h:mtB g e s d=true):mtJc g e s d x=ifR (plOk (HM e s d) (HN e s d) (HL e s d)) (HL e s d) []:=(Bu (me:=true) (y:=0) h).2.2.1
def ID (h:mtB g e s d=true):mtJ0 g e s d y=0:=(Bu (me:=true) (x:=[]) h).2.2.2.1
def ND (h:mtB g e s d=true):mtO g e s d me=true:=(Bu (y:=0) (x:=[]) h).2.2.2.2
def Qs (h:Rw [tI] x)(c:au x<=1073741824):Rw [tI] (mtJc g e s d x)/\au (mtJc g e s d x)<=1073741824:=by
 unfold mtJc;split
 ·unfold ifR;split
  ·have q:=IC (e:=e) (s:=s) (d:=d);exact⟨q.1,by rw[q.1.cnt rfl];omega⟩
  ·exact⟨Rw.nil,by decide⟩
 ·exact⟨h,c⟩
def aeC {a0 a1 a2 a4 a5 a6 a7 a8 a9 aA aB aD aL:ab}(h:Jm a0 a1 a2 a4 a5 a6 a7 a8 a9 aA aB aD aL)(g:Bool)(d:Int):Jm a0 a1 a2 a4 a5 a6 a7 a8 a9 aA aB aD (mtJc g a2 a6 d aL):=by
 have q:=Qs (g:=g) (e:=a2) (s:=a6) (d:=d) h.r21 h.c21;exact {h with r21:=q.1,c21:=q.2}
end
end Go.V
namespace Go.V
def rcK (S:ab)(a:Int):Int:=ag S (pp S a) 1
def rcB (S D:ab)(t a:Int):Bool:=ag4 (aw D t 0) (rcK S a) a
def rcD (S D:ab)(t a:Int):ab:=if rcB S D t a=true then D.set t.toNat [.s 1 (cuL (aw D t 0) (rcK S a) a)]else D
structure RS where
 s:F8
 D:ab
def r1 (me:Bool)(kp mv t:Int)(z:RS)(a:Int):RS:=⟨if rcB z.s.S z.D t a=true then z.s else f1 me kp mv z.s a,rcD z.s.S z.D t a⟩
def rN (me:Bool)(kp mv t:Int)(l:ab)(z:RS):Nat->RS
 |0=>z
 |n+1=>r1 me kp mv t (rN me kp mv t l z n) (ag l n 0)
structure CdI (D:ab)(n B:Nat):Prop where
 w:Rw [.sl [.sl [tI]]] D
 l:D.length=n
 c:au D<=B
structure RqI (l:ab)(n B i:Nat)(z:RS):Prop where
 fr:FrI z.s
 q:∀ j:Nat,i<=j->j<l.length->∃ k,LvA z.s.S (ag l j 0) k
 d:CdI z.D n (B+40*i)
section
variable {S D l: ab} {t a: Int} {n B i: Nat} {me: Bool} {kp mv: Int} {z: RS}
end
def raC (me:Bool)(kp mv:Int)(c u e f s x:ab)(t:Int)(l:ab):ab:=(rN me kp mv t l ⟨⟨c,u,e,f,s⟩,x⟩ l.length).s.C
def raU (me:Bool)(kp mv:Int)(c u e f s x:ab)(t:Int)(l:ab):ab:=(rN me kp mv t l ⟨⟨c,u,e,f,s⟩,x⟩ l.length).s.U
def raE (me:Bool)(kp mv:Int)(c u e f s x:ab)(t:Int)(l:ab):ab:=(rN me kp mv t l ⟨⟨c,u,e,f,s⟩,x⟩ l.length).s.E
def raF (me:Bool)(kp mv:Int)(c u e f s x:ab)(t:Int)(l:ab):ab:=(rN me kp mv t l ⟨⟨c,u,e,f,s⟩,x⟩ l.length).s.F
def raS (me:Bool)(kp mv:Int)(c u e f s x:ab)(t:Int)(l:ab):ab:=(rN me kp mv t l ⟨⟨c,u,e,f,s⟩,x⟩ l.length).s.S
def raD (me:Bool)(kp mv:Int)(c u e f s x:ab)(t:Int)(l:ab):ab:=(rN me kp mv t l ⟨⟨c,u,e,f,s⟩,x⟩ l.length).D
section
variable {me: Bool} {kp mv t a: Int} {c u e f s x: ab}
end
structure RaP (me:Bool)(kp mv t:Int)(l:ab)(z:RS)(i:Int)(c u e f s x:ab):Prop where
 c:c=(rN me kp mv t l z i.toNat).s.C
 u:u=(rN me kp mv t l z i.toNat).s.U
 e:e=(rN me kp mv t l z i.toNat).s.E
 f:f=(rN me kp mv t l z i.toNat).s.F
 s:s=(rN me kp mv t l z i.toNat).s.S
 x:x=(rN me kp mv t l z i.toNat).D
section
variable {me: Bool} {kp mv t: Int} {l c u e f s x c0 u0 e0 f0 s0 x0: ab} {z: RS} {i: Int}
end
section
variable {a0 a1 a2: ab} {a3: Int} {a4 a5 a6 a7 a8 a9 aA aB: ab} {aC: Int} {aD: ab} {aE aF aG aH: Int} {aI: Bool} {aJ aK: Int} {aL: ab} {aM aN t: Int}
end
end Go.V
namespace Go.V
def sdP (to a:Int):ax:=[.i to,.i a]
def sdU (b:ab)(f to a:Int):ab:=b.set f.toNat [.s 2 (aw b f 0++[sdP to a])]
def sdB (b x:ab)(f to a:Int):Bool:=htB b x f&&mailOk (sdU b f to a) x
def coX (b x:ab)(t:Int):ab:=if htB b x t=true then x.set t.toNat [.s 1 []]else x
def PM (b x:ab)(t:Int):ab:=if htB b x t=true then aw x t 0 else[]
section
variable {b x: ab} {f t to a: Int}
end
section
variable {a0 a1 a2: ab} {a3: Int} {a4 a5 a6 a7 a8 a9 aA aB: ab} {aC: Int} {aD: ab} {aE aF aG aH: Int} {aI: Bool} {aJ aK: Int} {aL: ab} {aM aN t i: Int} {c u e f s x: ab}
structure CoI (a9 aA aB:ab)(t:Int)(z:F8):Prop where
 h:htB aA aB t=true
 t0:0<=t
 t1:t<a9.length
 d:DsA (PM aA aB t)
 q:RqI (PM aA aB t) a9.length 1000000000 0 ⟨z,a9⟩
 l:(PM aA aB t).length<=30
end
end Go.V
namespace Go.V
def mphN (g:Bool)(a0 a1 a2:ab)(a3:Int)(a4:ab)(aJ aK:Int)(aL:ab)(aM aN:Int):Int:=ifN g (Qu a0 a1 a2 a3 a4 aJ aK aL aM aN) aM
def mqhN (g:Bool)(a0 a1 a2:ab)(a3:Int)(a4:ab)(aJ aK:Int)(aL:ab)(aM aN:Int):Int:=ifN g (myN a0 a1 a2 a3 a4 aJ aK aL aM aN) aN
def mdB (z:Int):Bool:=decide (z=4)
section
variable {a0 a1 a2: ab} {a3: Int} {a4: ab} {aJ aK: Int} {aL: ab} {aM aN: Int} {g k me j: Bool} {c x y: Int} {u v: ab}
def aez:msB k c false=false:=by unfold msB;simp
def aeA (h:99000<c):msB k c me=false:=by unfold msB;rw[VC (p:=c<=99000) Uc];simp
def aeB (h:k=false):msB k c me=false:=by unfold msB;rw[h];rfl
def Ny (h:k=true)(q:c<=99000)(m:me=true):msB k c me=true:=by unfold msB;rw[h,VB q,m];rfl
def ah3 (h:x≠4)(q:x≠5):wq x=false:=by unfold wq;rw[VC h,VC q];rfl
end
end Go.V
namespace Go.V
section
variable {sp lg: ab} {a: Int}
end
def foS (os:ab)(ad:Int):Int:=ag os (O5 os ad) 2
def foT (os:ab)(ad:Int):Int:=ag os (O5 os ad) 3
def foK (os:ab)(ad:Int):Int:=clsOf (foS os ad)
def foO (os:ab)(ad:Int):ab:=aap os (O5 os ad) (O5 os ad+1)
def foG (g:Bool)(os:ab)(ad:Int):Bool:=g&&decide (0<=O5 os ad)
def fbL (g:Bool)(os:ab)(ad:Int):Bool:=foG g os ad&&decide (foK os ad<0)
def fbS (g:Bool)(es os:ab)(ad:Int):Bool:=foG g os ad&&(decide (0<=foK os ad)&&decide (peM es (ad/16)≠1))
def fbP (g:Bool)(es os b x:ab)(t ad:Int):Bool:=fbS g es os ad&&(decide (t≠foT os ad)&&sdB b x t (foT os ad) ad)
def Sc (g:Bool)(es os:ab)(t ad:Int):Bool:=fbS g es os ad&&decide (t=foT os ad)
def PU (cs es os:ab)(ad:Int):ab:=tcC cs es ad (clsSz (foK os ad))
def O3 (os:ab)(rm:Int)(qs:ab)(ck ad:Int):ab:=qaR rm qs ad (foK os ad) ck
def fqL (os:ab)(rm:Int)(qs:ab)(ck ad:Int):ab:=qaL rm qs ad (foK os ad) ck
def lfP (lg:ab)(ad:Int):Int:=ag lg (Nc lg ad) 0
def lfN (lg:ab)(ad:Int):Int:=ag lg (Nc lg ad) 1
structure FoT (es sp lg os cs:ab)(ad:Int):Prop where
 k0:0<=O5 os ad
 k1:O5 os ad<os.length
 e:ag os (O5 os ad) 1=ad
 ok:okO sp lg ad (foS os ad)=true
 th:inR (foT os ad) 0 (cs.length-1)=true
 s0:1<=foS os ad
 s1:foS os ad<=1000
section
variable {a0 a1 a2: ab} {a3: Int} {a4 a5 a6 a7 a8 a9 aA aB: ab} {aC: Int} {aD: ab} {aE aF aG aH: Int} {aI: Bool} {aJ aK: Int} {aL: ab} {aM aN t ad: Int}
structure FsT (a0 a1 a2 a6 a8:ab)(ad:Int):Prop where
 lv:∃ i,LvA a6 ad i
 d0:0<=ad
 d1:ad<=511
 mp:peM a2 (ad/16)≠0
 n0:1<=clsSz (foK a8 ad)
 n1:ad%16+clsSz (foK a8 ad)<=16
 m:oR (PU a0 a2 a8 ad) a1 a2
 w:Rw [.sl [tI]] (PU a0 a2 a8 ad)
end
end Go.V
namespace Go.V
section
variable {es rs xs: ab} {c kp mv ph nx: Int} {k: Bool}
def S9 {p:Int}(h:peM es p=0):mapB es p=false:=by unfold mapB;exact VC (fun n=>n h)
def aes {p:Int}(h:peM es p≠0):mapB es p=true:=by unfold mapB;exact VB h
def ahA (h1:k=true)(h2:jbOk kp mv xs ph nx=true)(h3:mapB es kp=true)(h4:mapB es mv=true):cM .neq (peF es kp) (peF es mv)=jmB k es kp mv xs ph nx:=by
 unfold jmB;rw[h1,h2,h3,h4];by_cases e:peF es kp=peF es mv
 ·rw[VB e,e];simp[cM]
 ·rw[VC e];simp[cM,e]
def aiK:[[L.i (ag xs nx 0)]]=x1R xs nx:=rfl
def ah1 (h:ph=4):true=wq ph:=by subst h;rfl
def ah2 (h:ph≠4):cM .eql ph 5=wq ph:=by unfold wq;rw[VC h];rfl
end
section
variable {a0 a1 a2: ab} {a3: Int} {a4: ab} {aJ aK: Int} {aL: ab} {aM aN: Int}
def aen:jmB (ccB a0 a1 a2 a3 a4) a2 aJ aK aL aM aN=C6 a0 a1 a2 a3 a4 aJ aK aL aM aN:=rfl
def aeQ:ifN (C6 a0 a1 a2 a3 a4 aJ aK aL aM aN) (jsP a2 a3 a4 aJ aK aL aM aN) aM=Qu a0 a1 a2 a3 a4 aJ aK aL aM aN:=rfl
def aeq (h:Qu a0 a1 a2 a3 a4 aJ aK aL aM aN=4):moB true a0 a1 a2 a3 a4 aJ aK aL aM aN=true:=by unfold moB;rw[h];rfl
def ahW (h:Qu a0 a1 a2 a3 a4 aJ aK aL aM aN=5):moB true a0 a1 a2 a3 a4 aJ aK aL aM aN=true:=by unfold moB;rw[h];rfl
def ahX (h:Qu a0 a1 a2 a3 a4 aJ aK aL aM aN≠4)(g:Qu a0 a1 a2 a3 a4 aJ aK aL aM aN≠5):moB true a0 a1 a2 a3 a4 aJ aK aL aM aN=false:=by unfold moB;rw[ah3 h g];rfl
def mcT (h:C6 a0 a1 a2 a3 a4 aJ aK aL aM aN=true):mcC true a0 a1 a2 a3 a4 aJ aK aL aM aN=jsC a0 a1 a2 a3 a4 aJ aK aL aM aN/\mcU true a0 a1 a2 a3 a4 aJ aK aL aM aN=jsU a1 a2 a3 a4 aJ aK aM/\mcE true a0 a1 a2 a3 a4 aJ aK aL aM aN=jsE a2 a3 a4 aJ aK aM aN/\mcN true a0 a1 a2 a3 a4 aJ aK aL aM aN=jsN a3 aM aN/\mphN true a0 a1 a2 a3 a4 aJ aK aL aM aN=jsP a2 a3 a4 aJ aK aL aM aN/\mqhN true a0 a1 a2 a3 a4 aJ aK aL aM aN=jsX aL aM aN/\moB true a0 a1 a2 a3 a4 aJ aK aL aM aN=wq (jsP a2 a3 a4 aJ aK aL aM aN):=by
 unfold mcC mcU mcE mcN mphN mqhN moB Qu myN;rw[h];exact⟨rfl,rfl,rfl,rfl,rfl,rfl,rfl⟩
def mcF (h:C6 a0 a1 a2 a3 a4 aJ aK aL aM aN=false):mcC true a0 a1 a2 a3 a4 aJ aK aL aM aN=a0/\mcU true a0 a1 a2 a3 a4 aJ aK aL aM aN=a1/\mcE true a0 a1 a2 a3 a4 aJ aK aL aM aN=a2/\mcN true a0 a1 a2 a3 a4 aJ aK aL aM aN=a3/\mphN true a0 a1 a2 a3 a4 aJ aK aL aM aN=aM/\mqhN true a0 a1 a2 a3 a4 aJ aK aL aM aN=aN/\moB true a0 a1 a2 a3 a4 aJ aK aL aM aN=wq aM:=by
 unfold mcC mcU mcE mcN mphN mqhN moB Qu myN;rw[h];exact⟨rfl,rfl,rfl,rfl,rfl,rfl,rfl⟩
end
end Go.V
namespace Go.V
section
variable {ls: ab} {k a: Int}
end
section
variable {b x: ab} {f to a t: Int}
end
section
variable {D s: ab} {t ad: Int} {i: Nat}
end
section
variable {k: Bool} {c t: Int} {m: ab}
end
section
variable {ls: ab} {k n: Int}
end
end Go.V
namespace Go.V
section
variable {ls: ab} {k n: Int}
end
section
variable {c: ab}
end
def fxD (D:ab)(t:Int):Nat->ab
 |0=>D
 |n+1=>(fxD D t n).set t.toNat [.s 1 (clK (aw (fxD D t n) t 0) n 8)]
def fuL (D:ab)(t:Int):ab:=KZ (aw D t 0) 4
section
variable {D: ab} {t: Int} {n B: Nat}
end
section
variable {a0 a1 a2: ab} {a3: Int} {a4 a5 a6 a7 a8 a9 aA aB: ab} {aC: Int} {aD: ab} {aE aF aG aH: Int} {aI: Bool} {aJ aK: Int} {aL: ab} {aM aN t: Int}
structure FuT (a9:ab)(t:Int)(z:F8):Prop where
 t0:0<=t
 t1:t<a9.length
 k:caOk (aw a9 t 0)=true
 d:DsA (fuL a9 t)
 q:FqI (fuL a9 t) 0 z
 l:(fuL a9 t).length<=32
 c:CdI a9 a9.length 1000000000
end
structure FuO (me:Bool)(kp mv t:Int)(D:ab)(s:F8)(k n:Int)(c u e f z x:ab):Prop where
 en:n=(KZ (aw D t 0) k.toNat).length
 p:TkP me kp mv (fuL D t) s n c u e f z
 x:x=fxD D t k.toNat
structure FuN (me:Bool)(kp mv t:Int)(D:ab)(s:F8)(k i n:Int)(c u e f z:ab):Prop where
 en:n=(KZ (aw D t 0) k.toNat).length+i
 p:TkP me kp mv (fuL D t) s n c u e f z
section
variable {me: Bool} {kp mv t k n i: Int} {D c u e f z x c0 u0 e0 f0 z0: ab} {s: F8}
end
section
variable {a0 a1 a2: ab} {a3: Int} {a4 a5 a6 a7 a8 a9 aA aB: ab} {aC: Int} {aD: ab} {aE aF aG aH: Int} {aI: Bool} {aJ aK: Int} {aL: ab} {aM aN t k i n m: Int} {c u e f s x c1 u1 e1 f1 s1: ab}
end
end Go.V
namespace Go.V
structure LfT (a5 a7:ab)(ad:Int):Prop where
 k0:0<=Nc a7 ad
 k1:Nc a7 ad<a7.length
 p:lfP a7 ad*16=ad
 p0:0<=lfP a7 ad
 n1:1<=lfN a7 ad
 m:lfP a7 ad+lfN a7 ad<=32
 f:a5.length<=32
section
variable {a0 a1 a2: ab} {a3: Int} {a4 a5 a6 a7 a8 a9 aA aB: ab} {aC: Int} {aD: ab} {aE aF aG aH: Int} {aI: Bool} {aJ aK: Int} {aL: ab} {aM aN t ad i: Int} {c u e f s x: ab}
structure FqT (a8 a9:ab)(aC:Int)(aD:ab)(aF t ad:Int)(z:F8):Prop where
 t0:0<=t
 t1:t<a9.length
 d:DsA (O3 a8 aC aD aF ad)
 q:RqI (O3 a8 aC aD aF ad) a9.length 1000000000 0 ⟨z,a9⟩
 l:(O3 a8 aC aD aF ad).length<=501
 w:Rw [tI,tI,tI] (fqL a8 aC aD aF ad)
 wl:(fqL a8 aC aD aF ad).length<=501
 r:Rw [tI,tI,tI] (O3 a8 aC aD aF ad)
end
section
variable {k g: Bool} {c t ad: Int} {es sp lg os m b x: ab}
end
end Go.V
namespace Go.V
section
variable {rm a c s i: Int} {qs: ab}
end
def lgC (c u e l:ab)(ad:Int):ab:=duC c u e (lfP l ad) (lfN l ad)
def lgU (c u e l:ab)(ad:Int):ab:=duU c u e (lfP l ad) (lfN l ad)
def lgE (c u e l:ab)(ad:Int):ab:=duE c u e (lfP l ad) (lfN l ad)
def lgF (c u e f l:ab)(ad:Int):ab:=rpL (zlI (lgE c u e l ad)) f (lfP l ad) (lfN l ad)
def lgL (l:ab)(ad:Int):ab:=aap l (Nc l ad) (Nc l ad+1)
end Go.V
namespace Go.V
section
variable {a0 a1 a2: ab} {a3: Int} {a4 a5 a6 a7 a8 a9 aA aB: ab} {aC: Int} {aD: ab} {aE aF aG aH: Int} {aI: Bool} {aJ aK: Int} {aL: ab} {aM aN t ad: Int}
end
end Go.V
namespace Go.V
structure U2 where
 u:ab
 e:ab
def Rk (a1 a2:ab)(c:Int)(rs:ab)(t:Int):Nat->U2
 |0=>⟨a1,a2⟩
 |n+1=>⟨kmU (Rk a1 a2 c rs t n).u (Rk a1 a2 c rs t n).e (c+n) rs (t+n),kmE (Rk a1 a2 c rs t n).u (Rk a1 a2 c rs t n).e (c+n) rs (t+n)⟩
def xqB (a1 a2:ab)(c:Int)(rs:ab)(t i:Int):Bool:=kmB (Rk a1 a2 c rs t i.toNat).u (Rk a1 a2 c rs t i.toNat).e (c+i) rs (t+i)
def xqF (a1 a2:ab)(c:Int)(rs:ab)(t n:Int):Int:=cK (cY (xqB a1 a2 c rs t)) n.toNat
structure XqP (a0 a1 a2:ab)(c:Int)(rs:ab)(t i:Int)(u e:ab):Prop where
 m:oR a0 u e
 ru:Rw [tB] u
 re:Rw [tI,tI] e
 l:e.length=a2.length
 lu:u.length=a1.length
 eu:u=(Rk a1 a2 c rs t i.toNat).u
 ee:e=(Rk a1 a2 c rs t i.toNat).e
 g:upto (cY (cY (xqB a1 a2 c rs t))) i
section
variable {a0 a1 a2 rs u e: ab} {c t i n: Int}
end
def xpT (a2 a5:ab)(n:Int):Int:=tkA (zlI a2) a5 n
def xpI (a1 a2:ab)(a3:Int)(a4 a5:ab)(n:Int):Int:=xqF a1 a2 a3 a4 (xpT a2 a5 n) n
def xpJ (a1 a2:ab)(a3:Int)(a4 a5:ab)(n:Int):Int:=if tkB (zlI a2) a5 n=true then(if xpI a1 a2 a3 a4 a5 n<0 then n else xpI a1 a2 a3 a4 a5 n)else 0
def xpD (a1 a2:ab)(a3:Int)(a4 a5:ab)(n:Int):Int:=if tkB (zlI a2) a5 n=true then(if xpI a1 a2 a3 a4 a5 n<0 then 0 else xpI a1 a2 a3 a4 a5 n)else 0
def xpB (a1 a2:ab)(a3:Int)(a4 a5:ab)(n:Int):Bool:=tkB (zlI a2) a5 n&&decide (xpI a1 a2 a3 a4 a5 n<0)
def xpV (a1 a2:ab)(a3:Int)(a4 a5:ab)(n:Int):U2:=Rk a1 a2 a3 a4 (xpT a2 a5 n) (xpJ a1 a2 a3 a4 a5 n).toNat
def xpC (a0 a1 a2:ab)(a3:Int)(a4 a5:ab)(n:Int):ab:=duC a0 (xpV a1 a2 a3 a4 a5 n).u (xpV a1 a2 a3 a4 a5 n).e (xpT a2 a5 n) (xpD a1 a2 a3 a4 a5 n)
def xpU (a0 a1 a2:ab)(a3:Int)(a4 a5:ab)(n:Int):ab:=duU a0 (xpV a1 a2 a3 a4 a5 n).u (xpV a1 a2 a3 a4 a5 n).e (xpT a2 a5 n) (xpD a1 a2 a3 a4 a5 n)
def xpE (a0 a1 a2:ab)(a3:Int)(a4 a5:ab)(n:Int):ab:=duE a0 (xpV a1 a2 a3 a4 a5 n).u (xpV a1 a2 a3 a4 a5 n).e (xpT a2 a5 n) (xpD a1 a2 a3 a4 a5 n)
def xpK (a1 a2:ab)(a3:Int)(a4 a5:ab)(n:Int):Int:=if tkB (zlI a2) a5 n=true then(if xpI a1 a2 a3 a4 a5 n<0 then a3+n else a3+xpI a1 a2 a3 a4 a5 n+1)else a3
def xpF (a1 a2:ab)(a3:Int)(a4 a5:ab)(n:Int):ab:=if xpB a1 a2 a3 a4 a5 n=true then tkL (zlI a2) a5 n else a5
def Rj (a1 a2:ab)(a3:Int)(a4 a5:ab)(n:Int):Int:=if xpB a1 a2 a3 a4 a5 n=true then xpT a2 a5 n else-1
section
variable {a0 a1 a2: ab} {a3: Int} {a4 a5 u e c' u' e': ab} {n i: Int}
end
end Go.V
namespace Go.V
section
variable {cs us es rs: ab} {c p n: Int}
structure TkU (rs:ab)(n:Int):Prop where
 g0:C7 (.s 2 rs) [((j8 rs n).toNat,0)]=ag rs (j8 rs n) 0
 u1:vk (.s 2 rs) [((j8 rs n).toNat,0)] [.i (ag rs (j8 rs n) 0+n)]=rs.set (j8 rs n).toNat [.i (ag rs (j8 rs n) 0+n),.i (ag rs (j8 rs n) 1)]
 g1:C7 (.s 2 (rs.set (j8 rs n).toNat [.i (ag rs (j8 rs n) 0+n),.i (ag rs (j8 rs n) 1)])) [((j8 rs n).toNat,1)]=ag rs (j8 rs n) 1
 u2:vk (.s 2 (rs.set (j8 rs n).toNat [.i (ag rs (j8 rs n) 0+n),.i (ag rs (j8 rs n) 1)])) [((j8 rs n).toNat,1)] [.i (ag rs (j8 rs n) 1-n)]=rs.set (j8 rs n).toNat [.i (ag rs (j8 rs n) 0+n),.i (ag rs (j8 rs n) 1-n)]
 g2:C7 (.s 2 (rs.set (j8 rs n).toNat [.i (ag rs (j8 rs n) 0+n),.i (ag rs (j8 rs n) 1-n)])) [((j8 rs n).toNat,1)]=ag rs (j8 rs n) 1-n
 w1:Rw [tI,tI] (rs.set (j8 rs n).toNat [.i (ag rs (j8 rs n) 0+n),.i (ag rs (j8 rs n) 1)])
 w2:Rw [tI,tI] (rs.set (j8 rs n).toNat [.i (ag rs (j8 rs n) 0+n),.i (ag rs (j8 rs n) 1-n)])
 l:j8 rs n<(rs.set (j8 rs n).toNat [.i (ag rs (j8 rs n) 0+n),.i (ag rs (j8 rs n) 1)]).length
 l2:j8 rs n<(rs.set (j8 rs n).toNat [.i (ag rs (j8 rs n) 0+n),.i (ag rs (j8 rs n) 1-n)]).length
end
end Go.V
namespace Go.V
def lbN (rs:ab)(j:Nat)(x i:Int):Bool:=decide (x<=ag rs i j)
def lbI (rs:ab)(j:Nat)(x:Int):Int:=if cK (lbN rs j x) rs.length<0 then rs.length else cK (lbN rs j x) rs.length
section
variable {rs: ab} {j: Nat} {x i: Int}
end
def inL (es:ab)(i:Int)(x:ab):ab:=es.take i.toNat++(x++es.drop i.toNat)
section
variable {es x: ab} {i: Int} {fs: List Ty}
end
def Lv (b i:Int):Int:=if slB b i=true then bK .or Za b (TN .shl Za 1 i)else b
def OX (a2 a6:ab)(i:Int):ab:=frL (slN (ag a6 i 1)) (ubB a2 a6 i)
def xcB (a2 a6:ab)(i:Int):Bool:=decide (0<(OX a2 a6 i).length)
def Eb (a2 a6:ab)(s i:Int):Int:=ag (OX a2 a6 i) (cuI s (OX a2 a6 i).length) 0
def xcS (a2 a6:ab)(s i:Int):ab:=if xcB a2 a6 i=true then a6.set i.toNat [.i (ag a6 i 0),.i (ag a6 i 1),.i (Lv (ag a6 i 2) (Eb a2 a6 s i))]else a6
def xcD (a2 a6:ab)(s i:Int):Int:=if xcB a2 a6 i=true then cuS s (OX a2 a6 i).length else s
def xcA (a2 a6:ab)(s i:Int):Int:=if xcB a2 a6 i=true then aaI (ag a6 i 0) (ag a6 i 1) (ag a6 i 2) (Eb a2 a6 s i)else-1
section
variable {a2 a6: ab} {s i: Int}
structure XcT (a2 a6:ab)(s i:Int):Prop where
 l0:1<=(OX a2 a6 i).length
 l1:(OX a2 a6 i).length<=16
 k0:0<=cuI s (OX a2 a6 i).length
 k1:cuI s (OX a2 a6 i).length<(OX a2 a6 i).length
 t0:0<=Eb a2 a6 s i
 t1:Eb a2 a6 s i<slN (ag a6 i 1)
 n:slN (ag a6 i 1)<=16
 sp:spOk (ag a6 i 0) (ag a6 i 1) (Lv (ag a6 i 2) (Eb a2 a6 s i))=true
 a0:0<=aaI (ag a6 i 0) (ag a6 i 1) (ag a6 i 2) (Eb a2 a6 s i)
 a1:aaI (ag a6 i 0) (ag a6 i 1) (ag a6 i 2) (Eb a2 a6 s i)<=511
 aa:aaI (ag a6 i 0) (ag a6 i 1) (Lv (ag a6 i 2) (Eb a2 a6 s i)) (Eb a2 a6 s i)=aaI (ag a6 i 0) (ag a6 i 1) (ag a6 i 2) (Eb a2 a6 s i)
 w: -9223372036854775808<=Lv (ag a6 i 2) (Eb a2 a6 s i)/\Lv (ag a6 i 2) (Eb a2 a6 s i)<=9223372036854775807
 d:inR (cuS s (OX a2 a6 i).length) 0 1073741823=true
end
end Go.V
namespace Go.V
def isL (a6:ab)(p k b:Int):ab:=inL a6 (lbI a6 0 p) [[.i p,.i k,.i b]]
def isI (a6:ab)(p:Int):Int:=lbI a6 0 p
def ag0 {n b:Int}(h:bmOk n b=true):1<=n/\n<=16/\0<=b:=by
 unfold bmOk at h;rw[Zc]at h;have q1:=bz.1 h.1;have q2:=bz.1 h.2;omega
end Go.V
namespace Go.V
section
variable {a0 a1 a2 a4 a5 a6 u e: ab} {a3 t i k s n: Int}
def aaw {n b:Int}:Rw [tI] (frL n b):=by
 unfold frL;split
 ·rename_i c;have:=ag0 c;exact Ic _ Uc
 ·exact Rw.nil
def XcT.r (_:XcT a2 a6 s i):Rw [tI] (OX a2 a6 i):=aaw
structure XcU (a2 a6:ab)(s i:Int):Prop where
 u:vk (.s 3 a6) [(i.toNat,2)] [.i (Lv (ag a6 i 2) (Eb a2 a6 s i))]=a6.set i.toNat [.i (ag a6 i 0),.i (ag a6 i 1),.i (Lv (ag a6 i 2) (Eb a2 a6 s i))]
 g0:C7 (.s 3 (a6.set i.toNat [.i (ag a6 i 0),.i (ag a6 i 1),.i (Lv (ag a6 i 2) (Eb a2 a6 s i))])) [(i.toNat,0)]=ag a6 i 0
 g1:C7 (.s 3 (a6.set i.toNat [.i (ag a6 i 0),.i (ag a6 i 1),.i (Lv (ag a6 i 2) (Eb a2 a6 s i))])) [(i.toNat,1)]=ag a6 i 1
 g2:C7 (.s 3 (a6.set i.toNat [.i (ag a6 i 0),.i (ag a6 i 1),.i (Lv (ag a6 i 2) (Eb a2 a6 s i))])) [(i.toNat,2)]=Lv (ag a6 i 2) (Eb a2 a6 s i)
 w:Rw [tI,tI,tI] (a6.set i.toNat [.i (ag a6 i 0),.i (ag a6 i 1),.i (Lv (ag a6 i 2) (Eb a2 a6 s i))])
 l:i<(a6.set i.toNat [.i (ag a6 i 0),.i (ag a6 i 1),.i (Lv (ag a6 i 2) (Eb a2 a6 s i))]).length
end
end Go.V
namespace Go.V
def xmQ (a2 a6:ab)(aI:Bool)(aJ aK k i:Int):Bool:=eqB (ag a6 i 1) k&&(!bsB aI aJ aK (ag a6 i 0)&&xcB a2 a6 i)
def xmI (a2 a6:ab)(aI:Bool)(aJ aK k:Int):Int:=cK (xmQ a2 a6 aI aJ aK k) a6.length
def Lw (a1 a2:ab)(a3:Int)(a4 a5 a6 a9:ab)(aI:Bool)(aJ aK t k:Int):Nat:=if ctB (aw a9 t 0) k=true then 0 else if 0<=xmI a2 a6 aI aJ aK k then 1 else if xpB a1 a2 a3 a4 a5 1=true then 3 else 2
def xmC (a0 a1 a2:ab)(a3:Int)(a4 a5 a6 a9:ab)(aE:Int)(aI:Bool)(aJ aK t k:Int):ab:=if 2<=Lw a1 a2 a3 a4 a5 a6 a9 aI aJ aK t k then xpC a0 a1 a2 a3 a4 a5 1 else a0
def xmU (a0 a1 a2:ab)(a3:Int)(a4 a5 a6 a9:ab)(aE:Int)(aI:Bool)(aJ aK t k:Int):ab:=if 2<=Lw a1 a2 a3 a4 a5 a6 a9 aI aJ aK t k then xpU a0 a1 a2 a3 a4 a5 1 else a1
def xmE (a0 a1 a2:ab)(a3:Int)(a4 a5 a6 a9:ab)(aE:Int)(aI:Bool)(aJ aK t k:Int):ab:=if 2<=Lw a1 a2 a3 a4 a5 a6 a9 aI aJ aK t k then xpE a0 a1 a2 a3 a4 a5 1 else a2
def xmF (a0 a1 a2:ab)(a3:Int)(a4 a5 a6 a9:ab)(aE:Int)(aI:Bool)(aJ aK t k:Int):ab:=if 2<=Lw a1 a2 a3 a4 a5 a6 a9 aI aJ aK t k then xpF a1 a2 a3 a4 a5 1 else a5
def xmK (a0 a1 a2:ab)(a3:Int)(a4 a5 a6 a9:ab)(aE:Int)(aI:Bool)(aJ aK t k:Int):Int:=if 2<=Lw a1 a2 a3 a4 a5 a6 a9 aI aJ aK t k then xpK a1 a2 a3 a4 a5 1 else a3
def xmS (a0 a1 a2:ab)(a3:Int)(a4 a5 a6 a9:ab)(aE:Int)(aI:Bool)(aJ aK t k:Int):ab:=if Lw a1 a2 a3 a4 a5 a6 a9 aI aJ aK t k=1 then xcS a2 a6 aE (xmI a2 a6 aI aJ aK k)else if Lw a1 a2 a3 a4 a5 a6 a9 aI aJ aK t k=3 then xcS (xpE a0 a1 a2 a3 a4 a5 1) (isL a6 (Rj a1 a2 a3 a4 a5 1) k 0) aE (isI a6 (Rj a1 a2 a3 a4 a5 1))else a6
def xmD (a0 a1 a2:ab)(a3:Int)(a4 a5 a6 a9:ab)(aE:Int)(aI:Bool)(aJ aK t k:Int):Int:=if Lw a1 a2 a3 a4 a5 a6 a9 aI aJ aK t k=1 then xcD a2 a6 aE (xmI a2 a6 aI aJ aK k)else if Lw a1 a2 a3 a4 a5 a6 a9 aI aJ aK t k=3 then xcD (xpE a0 a1 a2 a3 a4 a5 1) (isL a6 (Rj a1 a2 a3 a4 a5 1) k 0) aE (isI a6 (Rj a1 a2 a3 a4 a5 1))else aE
def xmX (a0 a1 a2:ab)(a3:Int)(a4 a5 a6 a9:ab)(aE:Int)(aI:Bool)(aJ aK t k:Int):ab:=if Lw a1 a2 a3 a4 a5 a6 a9 aI aJ aK t k=0 then a9.set t.toNat [.s 1 (ctL (aw a9 t 0) k)]else a9
def xmA (a0 a1 a2:ab)(a3:Int)(a4 a5 a6 a9:ab)(aE:Int)(aI:Bool)(aJ aK t k:Int):Int:=if Lw a1 a2 a3 a4 a5 a6 a9 aI aJ aK t k=0 then ctA (aw a9 t 0) k else if Lw a1 a2 a3 a4 a5 a6 a9 aI aJ aK t k=1 then xcA a2 a6 aE (xmI a2 a6 aI aJ aK k)else if Lw a1 a2 a3 a4 a5 a6 a9 aI aJ aK t k=3 then xcA (xpE a0 a1 a2 a3 a4 a5 1) (isL a6 (Rj a1 a2 a3 a4 a5 1) k 0) aE (isI a6 (Rj a1 a2 a3 a4 a5 1))else-1
section
variable {a0 a1 a2: ab} {a3: Int} {a4 a5 a6 a7 a8 a9 aA aB aD aL: ab} {aC aE aF aG aH: Int} {aI: Bool} {aJ aK aM aN t k i z: Int}
end
def xlL (a1 a2:ab)(a3:Int)(a4 a5 a7:ab)(z:Int):ab:=if xpB a1 a2 a3 a4 a5 (pfN z)=true then inL a7 (lbI a7 0 (Rj a1 a2 a3 a4 a5 (pfN z))) [[.i (Rj a1 a2 a3 a4 a5 (pfN z)),.i (pfN z),.i z]]else a7
def xlA (a1 a2:ab)(a3:Int)(a4 a5:ab)(z:Int):Int:=if xpB a1 a2 a3 a4 a5 (pfN z)=true then Rj a1 a2 a3 a4 a5 (pfN z)*16 else-1
def xaG (h:Bool)(a3:Int)(a8 a9:ab)(aG aH t z:Int):Int:=if h=false\/aH=1000000\/90000<a3 then 5 else if inR t 0 (a9.length-1)=false then 1 else if inR z 1 1000=false then 2 else if aG<bK .add Za (lsI a8) z then 3 else 0
def xaO (h:Bool)(a3:Int)(a8 a9:ab)(aG aH t z:Int):Bool:=decide (xaG h a3 a8 a9 aG aH t z=0)
def xaC (g:Bool)(a0 a1 a2:ab)(a3:Int)(a4 a5 a6 a7 a9:ab)(aE:Int)(aI:Bool)(aJ aK t z:Int):ab:=if g=true then(if 0<=clsOf z then xmC a0 a1 a2 a3 a4 a5 a6 a9 aE aI aJ aK t (clsOf z)else xpC a0 a1 a2 a3 a4 a5 (pfN z))else a0
def xaU (g:Bool)(a0 a1 a2:ab)(a3:Int)(a4 a5 a6 a7 a9:ab)(aE:Int)(aI:Bool)(aJ aK t z:Int):ab:=if g=true then(if 0<=clsOf z then xmU a0 a1 a2 a3 a4 a5 a6 a9 aE aI aJ aK t (clsOf z)else xpU a0 a1 a2 a3 a4 a5 (pfN z))else a1
def xaE (g:Bool)(a0 a1 a2:ab)(a3:Int)(a4 a5 a6 a7 a9:ab)(aE:Int)(aI:Bool)(aJ aK t z:Int):ab:=if g=true then(if 0<=clsOf z then xmE a0 a1 a2 a3 a4 a5 a6 a9 aE aI aJ aK t (clsOf z)else xpE a0 a1 a2 a3 a4 a5 (pfN z))else a2
def xaK (g:Bool)(a0 a1 a2:ab)(a3:Int)(a4 a5 a6 a7 a9:ab)(aE:Int)(aI:Bool)(aJ aK t z:Int):Int:=if g=true then(if 0<=clsOf z then xmK a0 a1 a2 a3 a4 a5 a6 a9 aE aI aJ aK t (clsOf z)else xpK a1 a2 a3 a4 a5 (pfN z))else a3
def xaF (g:Bool)(a0 a1 a2:ab)(a3:Int)(a4 a5 a6 a7 a9:ab)(aE:Int)(aI:Bool)(aJ aK t z:Int):ab:=if g=true then(if 0<=clsOf z then xmF a0 a1 a2 a3 a4 a5 a6 a9 aE aI aJ aK t (clsOf z)else xpF a1 a2 a3 a4 a5 (pfN z))else a5
def xaS (g:Bool)(a0 a1 a2:ab)(a3:Int)(a4 a5 a6 a7 a9:ab)(aE:Int)(aI:Bool)(aJ aK t z:Int):ab:=if g=true then(if 0<=clsOf z then xmS a0 a1 a2 a3 a4 a5 a6 a9 aE aI aJ aK t (clsOf z)else a6)else a6
def xaL (g:Bool)(a0 a1 a2:ab)(a3:Int)(a4 a5 a6 a7 a9:ab)(aE:Int)(aI:Bool)(aJ aK t z:Int):ab:=if g=true then(if 0<=clsOf z then a7 else xlL a1 a2 a3 a4 a5 a7 z)else a7
def xaX (g:Bool)(a0 a1 a2:ab)(a3:Int)(a4 a5 a6 a7 a9:ab)(aE:Int)(aI:Bool)(aJ aK t z:Int):ab:=if g=true then(if 0<=clsOf z then xmX a0 a1 a2 a3 a4 a5 a6 a9 aE aI aJ aK t (clsOf z)else a9)else a9
def xaD (g:Bool)(a0 a1 a2:ab)(a3:Int)(a4 a5 a6 a7 a9:ab)(aE:Int)(aI:Bool)(aJ aK t z:Int):Int:=if g=true then(if 0<=clsOf z then xmD a0 a1 a2 a3 a4 a5 a6 a9 aE aI aJ aK t (clsOf z)else aE)else aE
def xaA (g:Bool)(a0 a1 a2:ab)(a3:Int)(a4 a5 a6 a7 a9:ab)(aE:Int)(aI:Bool)(aJ aK t z:Int):Int:=if g=true then(if 0<=clsOf z then xmA a0 a1 a2 a3 a4 a5 a6 a9 aE aI aJ aK t (clsOf z)else xlA a1 a2 a3 a4 a5 z)else-1
section
variable {g: Bool}
variable {a0 a1 a2: ab} {a3: Int} {a4 a5 a6 a7 a8 a9 aA aB aD aL: ab} {aC aE aF aG aH: Int} {aI: Bool} {aJ aK aM aN t k i z: Int}
end
def xaP (a8:ab)(aH t z w:Int):ab:=if 0<=w then inL a8 (lbI a8 1 w) [[.i aH,.i w,.i z,.i t]]else a8
def xaN (aH w:Int):Int:=if 0<=w then aH+1 else aH
end Go.V
namespace Go.V
section
variable {a0 a1 a2: ab} {a3: Int} {a4 a5 a6 a7 a8 a9 aA aB aD aL: ab} {aC aE aF aG aH: Int} {aI: Bool} {aJ aK aM aN t k i z n p b w: Int} {g: Bool}
end
end Go.V
namespace Go.V
section
variable {a0 a1 a2: ab} {a3: Int} {a4 a5 a6 a7 a8 a9: ab} {z: Int}
end
section
variable {g: Bool}
variable {a0 a1 a2: ab} {a3: Int} {a4 a5 a6 a7 a8 a9 aA aB aD aL: ab} {aC aE aF aG aH: Int} {aI: Bool} {aJ aK aM aN t k i z: Int}
end
end Go.V
namespace Go.V
end Go.V
namespace Go.V
structure HV where
 (a0 a1 a2:ab) (a3:Int) (a4 a5 a6 a7 a8 a9 aA aB:ab) (aC:Int) (aD:ab) (aE aF aG aH:Int) (aI:Bool) (aJ aK:Int) (aL:ab) (aM aN:Int)
def HV.hp (h:HV):Bool:=hpI h.a0 h.a1 h.a2 h.a3 h.a4 h.a5 h.a6 h.a7 h.a8 h.a9 h.aA h.aB h.aC h.aD h.aE h.aF h.aG h.aH h.aI h.aJ h.aK h.aL h.aM h.aN
def HV.ao (h:HV)(t z:Int):Bool:=xaO h.hp h.a3 h.a8 h.a9 h.aG h.aH t z
def HV.aQ (h:HV)(t z:Int):Int:=xaA (h.ao t z) h.a0 h.a1 h.a2 h.a3 h.a4 h.a5 h.a6 h.a7 h.a9 h.aE h.aI h.aJ h.aK t z
def HV.al (h:HV)(t z:Int):HV:=
 let g:=h.ao t z
 ⟨xaC g h.a0 h.a1 h.a2 h.a3 h.a4 h.a5 h.a6 h.a7 h.a9 h.aE h.aI h.aJ h.aK t z,xaU g h.a0 h.a1 h.a2 h.a3 h.a4 h.a5 h.a6 h.a7 h.a9 h.aE h.aI h.aJ h.aK t z,
  xaE g h.a0 h.a1 h.a2 h.a3 h.a4 h.a5 h.a6 h.a7 h.a9 h.aE h.aI h.aJ h.aK t z,xaK g h.a0 h.a1 h.a2 h.a3 h.a4 h.a5 h.a6 h.a7 h.a9 h.aE h.aI h.aJ h.aK t z,
  h.a4,xaF g h.a0 h.a1 h.a2 h.a3 h.a4 h.a5 h.a6 h.a7 h.a9 h.aE h.aI h.aJ h.aK t z,xaS g h.a0 h.a1 h.a2 h.a3 h.a4 h.a5 h.a6 h.a7 h.a9 h.aE h.aI h.aJ h.aK t z,
  xaL g h.a0 h.a1 h.a2 h.a3 h.a4 h.a5 h.a6 h.a7 h.a9 h.aE h.aI h.aJ h.aK t z,xaP h.a8 h.aH t z (h.aQ t z),xaX g h.a0 h.a1 h.a2 h.a3 h.a4 h.a5 h.a6 h.a7 h.a9 h.aE h.aI h.aJ h.aK t z,
  h.aA,h.aB,h.aC,h.aD,xaD g h.a0 h.a1 h.a2 h.a3 h.a4 h.a5 h.a6 h.a7 h.a9 h.aE h.aI h.aJ h.aK t z,h.aF,h.aG,xaN h.aH (h.aQ t z),h.aI,h.aJ,h.aK,h.aL,h.aM,h.aN⟩
def HV.lv (h:HV)(a:Int):Int:=hlV (ooI h.hp h.a8 a) (ldV h.a0 h.a1 h.a2 a)
def HV.lk (h:HV)(a:Int):Int:=hlK (ooI h.hp h.a8 a)
def cfL:Nat->Ty->L->Bool
 |_,.int k,.v (.int k' n)=>decide (k'=k)&&(decide (k.min<=n)&&decide (n<=k.max))
 |_,.bool,.v (.bool _)=>true
 |k+1,.sl fs,.s sz es=>decide (sz=fs.length)&&(decide (es.length<=maxLen)&&es.all fun e=>decide (e.length=fs.length)&&(fs.zip e).all fun p=>cfL k p.1 p.2)
 |_,_,_=>false
def Lg (fs:List Ty)(es:ab):Bool:=cfL 4 (.sl fs) (.s fs.length es)
def HV.wf (h:HV):Bool:=
 Lg [.sl [tI]] h.a0&&(Lg [tB] h.a1&&(Lg [tI,tI] h.a2&&(Lg [tI] h.a4&&(Lg [tI,tI] h.a5&&(Lg [tI,tI,tI] h.a6&&(Lg [tI,tI,tI] h.a7&&(Lg [tI,tI,tI,tI] h.a8&&(Lg [.sl [.sl [tI]]] h.a9&&
 (Lg [.sl [tI,tI]] h.aA&&(Lg [.sl [tI]] h.aB&&(Lg [tI,tI,tI] h.aD&&(Lg [tI] h.aL&&decide (aP [h.a0,h.a1,h.a2,h.a4,h.a5,h.a6,h.a7,h.a8,h.a9,h.aA,h.aB,h.aD,h.aL]<=1048576)))))))))))))
end Go.V
namespace Go.V
def HV.fr (h:HV)(t ad:Int):HV:=⟨(ifR (fbL (zD h.hp h.a3 t h.a9) h.a8 ad) (lgC h.a0 h.a1 h.a2 h.a7 ad) (ifR (fbP (zD h.hp h.a3 t h.a9) h.a2 h.a8 h.aA h.aB t ad) (PU h.a0 h.a2 h.a8 ad) (ifR (Sc (zD h.hp h.a3 t h.a9) h.a2 h.a8 t ad) (raC h.aI h.aJ h.aK (PU h.a0 h.a2 h.a8 ad) h.a1 h.a2 h.a5 h.a6 h.a9 t (O3 h.a8 h.aC h.aD h.aF ad)) h.a0))),(ifR (fbL (zD h.hp h.a3 t h.a9) h.a8 ad) (lgU h.a0 h.a1 h.a2 h.a7 ad) (ifR (Sc (zD h.hp h.a3 t h.a9) h.a2 h.a8 t ad) (raU h.aI h.aJ h.aK (PU h.a0 h.a2 h.a8 ad) h.a1 h.a2 h.a5 h.a6 h.a9 t (O3 h.a8 h.aC h.aD h.aF ad)) h.a1)),(ifR (fbL (zD h.hp h.a3 t h.a9) h.a8 ad) (lgE h.a0 h.a1 h.a2 h.a7 ad) (ifR (Sc (zD h.hp h.a3 t h.a9) h.a2 h.a8 t ad) (raE h.aI h.aJ h.aK (PU h.a0 h.a2 h.a8 ad) h.a1 h.a2 h.a5 h.a6 h.a9 t (O3 h.a8 h.aC h.aD h.aF ad)) h.a2)),h.a3,h.a4,(ifR (fbL (zD h.hp h.a3 t h.a9) h.a8 ad) (lgF h.a0 h.a1 h.a2 h.a5 h.a7 ad) (ifR (Sc (zD h.hp h.a3 t h.a9) h.a2 h.a8 t ad) (raF h.aI h.aJ h.aK (PU h.a0 h.a2 h.a8 ad) h.a1 h.a2 h.a5 h.a6 h.a9 t (O3 h.a8 h.aC h.aD h.aF ad)) h.a5)),(ifR (Sc (zD h.hp h.a3 t h.a9) h.a2 h.a8 t ad) (raS h.aI h.aJ h.aK (PU h.a0 h.a2 h.a8 ad) h.a1 h.a2 h.a5 h.a6 h.a9 t (O3 h.a8 h.aC h.aD h.aF ad)) h.a6),(ifR (fbL (zD h.hp h.a3 t h.a9) h.a8 ad) (lgL h.a7 ad) h.a7),(ifR (fbL (zD h.hp h.a3 t h.a9) h.a8 ad) (foO h.a8 ad) (ifR (fbP (zD h.hp h.a3 t h.a9) h.a2 h.a8 h.aA h.aB t ad) (foO h.a8 ad) (ifR (Sc (zD h.hp h.a3 t h.a9) h.a2 h.a8 t ad) (foO h.a8 ad) h.a8))),(ifR (Sc (zD h.hp h.a3 t h.a9) h.a2 h.a8 t ad) (raD h.aI h.aJ h.aK (PU h.a0 h.a2 h.a8 ad) h.a1 h.a2 h.a5 h.a6 h.a9 t (O3 h.a8 h.aC h.aD h.aF ad)) h.a9),(ifR (fbP (zD h.hp h.a3 t h.a9) h.a2 h.a8 h.aA h.aB t ad) (sdU h.aA t (foT h.a8 ad) ad) h.aA),h.aB,h.aC,(ifR (Sc (zD h.hp h.a3 t h.a9) h.a2 h.a8 t ad) (fqL h.a8 h.aC h.aD h.aF ad) h.aD),h.aE,h.aF,h.aG,h.aH,h.aI,h.aJ,h.aK,h.aL,h.aM,h.aN⟩
def HV.co (h:HV)(t:Int):HV:=⟨(ifR (zD h.hp h.a3 t h.a9) (raC h.aI h.aJ h.aK h.a0 h.a1 h.a2 h.a5 h.a6 h.a9 t (PM h.aA h.aB t)) h.a0),(ifR (zD h.hp h.a3 t h.a9) (raU h.aI h.aJ h.aK h.a0 h.a1 h.a2 h.a5 h.a6 h.a9 t (PM h.aA h.aB t)) h.a1),(ifR (zD h.hp h.a3 t h.a9) (raE h.aI h.aJ h.aK h.a0 h.a1 h.a2 h.a5 h.a6 h.a9 t (PM h.aA h.aB t)) h.a2),h.a3,h.a4,(ifR (zD h.hp h.a3 t h.a9) (raF h.aI h.aJ h.aK h.a0 h.a1 h.a2 h.a5 h.a6 h.a9 t (PM h.aA h.aB t)) h.a5),(ifR (zD h.hp h.a3 t h.a9) (raS h.aI h.aJ h.aK h.a0 h.a1 h.a2 h.a5 h.a6 h.a9 t (PM h.aA h.aB t)) h.a6),h.a7,h.a8,(ifR (zD h.hp h.a3 t h.a9) (raD h.aI h.aJ h.aK h.a0 h.a1 h.a2 h.a5 h.a6 h.a9 t (PM h.aA h.aB t)) h.a9),h.aA,(ifR (zD h.hp h.a3 t h.a9) (coX h.aA h.aB t) h.aB),h.aC,h.aD,h.aE,h.aF,h.aG,h.aH,h.aI,h.aJ,h.aK,h.aL,h.aM,h.aN⟩
def HV.tk (h:HV)(n:Int):HV:=⟨(ifR (tgB h.hp h.a3 n h.aF) (tkC h.aI h.aJ h.aK h.a0 h.a1 h.a2 h.a5 h.a6 (QH h.aC h.aD (Jz h.aF n) 100)) h.a0),(ifR (tgB h.hp h.a3 n h.aF) (tkU h.aI h.aJ h.aK h.a0 h.a1 h.a2 h.a5 h.a6 (QH h.aC h.aD (Jz h.aF n) 100)) h.a1),(ifR (tgB h.hp h.a3 n h.aF) (tkE h.aI h.aJ h.aK h.a0 h.a1 h.a2 h.a5 h.a6 (QH h.aC h.aD (Jz h.aF n) 100)) h.a2),h.a3,h.a4,(ifR (tgB h.hp h.a3 n h.aF) (tkF h.aI h.aJ h.aK h.a0 h.a1 h.a2 h.a5 h.a6 (QH h.aC h.aD (Jz h.aF n) 100)) h.a5),(ifR (tgB h.hp h.a3 n h.aF) (tkS h.aI h.aJ h.aK h.a0 h.a1 h.a2 h.a5 h.a6 (QH h.aC h.aD (Jz h.aF n) 100)) h.a6),h.a7,h.a8,h.a9,h.aA,h.aB,h.aC,(ifR (tgB h.hp h.a3 n h.aF) (qeL h.aC h.aD (Jz h.aF n) 100) h.aD),h.aE,(ifN (tgB h.hp h.a3 n h.aF) (Jz h.aF n) h.aF),h.aG,h.aH,h.aI,h.aJ,h.aK,h.aL,h.aM,h.aN⟩
def HV.mt (h:HV)  :HV:=⟨h.a0,h.a1,h.a2,h.a3,h.a4,h.a5,h.a6,h.a7,h.a8,h.a9,h.aA,h.aB,h.aC,h.aD,(mtD (mtG h.hp h.aI) h.a2 h.a6 h.aE),h.aF,h.aG,h.aH,(mtO (mtG h.hp h.aI) h.a2 h.a6 h.aE h.aI),(mtJk (mtG h.hp h.aI) h.a2 h.a6 h.aE h.aJ),(mtJm (mtG h.hp h.aI) h.a2 h.a6 h.aE h.aK),(mtJc (mtG h.hp h.aI) h.a2 h.a6 h.aE h.aL),(mtJ0 (mtG h.hp h.aI) h.a2 h.a6 h.aE h.aM),(mtJ0 (mtG h.hp h.aI) h.a2 h.a6 h.aE h.aN)⟩
def HV.mt1 (h:HV)  :Bool:=(mtB (mtG h.hp h.aI) h.a2 h.a6 h.aE)
def HV.ms (h:HV)  :HV:=⟨(mcC (msB h.hp h.a3 h.aI) h.a0 h.a1 h.a2 h.a3 h.a4 h.aJ h.aK h.aL h.aM h.aN),(mcU (msB h.hp h.a3 h.aI) h.a0 h.a1 h.a2 h.a3 h.a4 h.aJ h.aK h.aL h.aM h.aN),(mcE (msB h.hp h.a3 h.aI) h.a0 h.a1 h.a2 h.a3 h.a4 h.aJ h.aK h.aL h.aM h.aN),(mcN (msB h.hp h.a3 h.aI) h.a0 h.a1 h.a2 h.a3 h.a4 h.aJ h.aK h.aL h.aM h.aN),h.a4,h.a5,h.a6,h.a7,h.a8,h.a9,h.aA,h.aB,h.aC,h.aD,h.aE,h.aF,h.aG,h.aH,(meB (moB (msB h.hp h.a3 h.aI) h.a0 h.a1 h.a2 h.a3 h.a4 h.aJ h.aK h.aL h.aM h.aN) h.aI),(ifN (moB (msB h.hp h.a3 h.aI) h.a0 h.a1 h.a2 h.a3 h.a4 h.aJ h.aK h.aL h.aM h.aN) 0 h.aJ),(ifN (moB (msB h.hp h.a3 h.aI) h.a0 h.a1 h.a2 h.a3 h.a4 h.aJ h.aK h.aL h.aM h.aN) 0 h.aK),(ifR (moB (msB h.hp h.a3 h.aI) h.a0 h.a1 h.a2 h.a3 h.a4 h.aJ h.aK h.aL h.aM h.aN) [] h.aL),(ifN (moB (msB h.hp h.a3 h.aI) h.a0 h.a1 h.a2 h.a3 h.a4 h.aJ h.aK h.aL h.aM h.aN) 0 (mphN (msB h.hp h.a3 h.aI) h.a0 h.a1 h.a2 h.a3 h.a4 h.aJ h.aK h.aL h.aM h.aN)),(ifN (moB (msB h.hp h.a3 h.aI) h.a0 h.a1 h.a2 h.a3 h.a4 h.aJ h.aK h.aL h.aM h.aN) 0 (mqhN (msB h.hp h.a3 h.aI) h.a0 h.a1 h.a2 h.a3 h.a4 h.aJ h.aK h.aL h.aM h.aN))⟩
def HV.ms1 (h:HV)  :Int:=(mphN (msB h.hp h.a3 h.aI) h.a0 h.a1 h.a2 h.a3 h.a4 h.aJ h.aK h.aL h.aM h.aN)
def HV.ms2 (h:HV)  :Bool:=(msB h.hp h.a3 h.aI)
end Go.V
namespace Go.V
structure HvW (h:HV):Prop where
 w:h.wf=true
def wh (h:HV):HV.mk h.a0 h.a1 h.a2 h.a3 h.a4 h.a5 h.a6 h.a7 h.a8 h.a9 h.aA h.aB h.aC h.aD h.aE h.aF h.aG h.aH h.aI h.aJ h.aK h.aL h.aM h.aN=h:=rfl
def HV.cp (h:HV):HV:=h
def hvD (h:HV):DV:=.agg (hpL h.a0 h.a1 h.a2 h.a3 h.a4 h.a5 h.a6 h.a7 h.a8 h.a9 h.aA h.aB h.aC h.aD h.aE h.aF h.aG h.aH h.aI h.aJ h.aK h.aL h.aM h.aN)
def hvV (r:Nat)(h:HV):List W:=[.leaf r 0 ⟨0,0,none,.own (.s 1 h.a0)⟩,.leaf r 1 ⟨0,0,none,.own (.s 1 h.a1)⟩,.leaf r 2 ⟨0,0,none,.own (.s 2 h.a2)⟩,.leaf r 3 ⟨0,0,none,.own (.i h.a3)⟩,.leaf r 4 ⟨0,0,none,.own (.s 1 h.a4)⟩,.leaf r 5 ⟨0,0,none,.own (.s 2 h.a5)⟩,.leaf r 6 ⟨0,0,none,.own (.s 3 h.a6)⟩,.leaf r 7 ⟨0,0,none,.own (.s 3 h.a7)⟩,.leaf r 8 ⟨0,0,none,.own (.s 4 h.a8)⟩,.leaf r 9 ⟨0,0,none,.own (.s 1 h.a9)⟩,.leaf r 10 ⟨0,0,none,.own (.s 1 h.aA)⟩,.leaf r 11 ⟨0,0,none,.own (.s 1 h.aB)⟩,.leaf r 12 ⟨0,0,none,.own (.i h.aC)⟩,.leaf r 13 ⟨0,0,none,.own (.s 3 h.aD)⟩,.leaf r 14 ⟨0,0,none,.own (.i h.aE)⟩,.leaf r 15 ⟨0,0,none,.own (.i h.aF)⟩,.leaf r 16 ⟨0,0,none,.own (.i h.aG)⟩,.leaf r 17 ⟨0,0,none,.own (.i h.aH)⟩,.leaf r 18 ⟨0,0,none,.own (.v (.bool h.aI))⟩,.leaf r 19 ⟨0,0,none,.own (.i h.aJ)⟩,.leaf r 20 ⟨0,0,none,.own (.i h.aK)⟩,.leaf r 21 ⟨0,0,none,.own (.s 1 h.aL)⟩,.leaf r 22 ⟨0,0,none,.own (.i h.aM)⟩,.leaf r 23 ⟨0,0,none,.own (.i h.aN)⟩]
def SD (O:F1)(h:HV):HV:=⟨O.sub h.a0 0 (O.ln h.a0),O.sub h.a1 0 (O.ln h.a1),O.sub h.a2 0 (O.ln h.a2),h.a3,O.sub h.a4 0 (O.ln h.a4),O.sub h.a5 0 (O.ln h.a5),O.sub h.a6 0 (O.ln h.a6),O.sub h.a7 0 (O.ln h.a7),O.sub h.a8 0 (O.ln h.a8),O.sub h.a9 0 (O.ln h.a9),O.sub h.aA 0 (O.ln h.aA),O.sub h.aB 0 (O.ln h.aB),h.aC,O.sub h.aD 0 (O.ln h.aD),h.aE,h.aF,h.aG,h.aH,h.aI,h.aJ,h.aK,O.sub h.aL 0 (O.ln h.aL),h.aM,h.aN⟩
def K0 (h:HV):HV:=⟨h.a0,h.a1,h.a2,h.a3,h.a4,h.a5,h.a6,h.a7,h.a8,h.a9,h.aA,h.aB,h.aC,h.aD,h.aE,h.aF,h.aG,h.aH,h.aI,h.aJ,h.aK,h.aL,h.aM,h.aN⟩
end Go.V
namespace Go.V
structure H0 (es es':ab):Prop where
 l:es'.length=es.length
 m:∀ p,peM es' p=0↔peM es p=0
 f:∀ p,peF es' p=peF es p
section
variable {es es' fr sp lg cs us rs xs: ab} {c kp mv ph nx: Int}
def Oh:H0 es es:=⟨rfl,fun _=>Iff.rfl,fun _=>rfl⟩
def Kz (S:H0 es es'){f:Int}:∀ {n:Nat},n<=es.length->vu es' f n=vu es f n
 |0,_=>rfl
 | n+1,h=>by
   have ih:=Kz S (f:=f) (n:=n) Uc;have a:=k7 (es:=es) (p:=n) Uc;have b:=k7 (es:=es') (p:=n) (by rw[S.l];omega);have e0:ag es' n 0=0↔ag es n 0=0:=by rw[<-a.1, <-b.1];exact S.m n
   have e1:ag es' n 1=ag es n 1:=by rw[<-a.2, <-b.2];exact S.f n
   unfold vu;rw[ih,e1];by_cases q:ag es n 0=0
   ·rw[VF (fun h=>h.1 (e0.2 q)),VF (fun h=>h.1 q)]
   ·by_cases r:ag es n 1=f
    ·rw[VE ⟨fun h=>q (e0.1 h),r⟩,VE ⟨q,r⟩]
    ·rw[VF (fun h=>r h.2),VF (fun h=>r h.2)]
def QS (S:H0 es es'):fpg es'=fpg es:=by
 funext p
 unfold fpg pagesOn;rw[S.f p,S.l,Kz S (Zf _)];by_cases q:peM es p=0
 ·rw[VE ((S.m p).2 q),VE q]
 ·rw[VF (fun h=>q ((S.m p).1 h)),VF q]
def Oj (S:H0 es es'):mapB es'=mapB es:=by
 funext p
 unfold mapB;exact decide_eq_decide.2 (not_congr (S.m p))
def QT (S:H0 es es'):pgI es' fr sp lg=pgI es fr sp lg:=by
 have f1:O2 es'=O2 es:=by funext p;unfold O2;rw[QS S]
 have f2:Cg es' lg=Cg es lg:=by funext i;unfold Cg;rw[f1]
 have f3:A3 es' fr sp lg=A3 es fr sp lg:=by funext p;unfold A3;rw[Oj S]
 have f4:Ki es' sp lg=Ki es sp lg:=by unfold Ki;rw[S.l]
 have f5:La es' sp=La es sp:=by
  funext i;unfold La
  have:Iz es' sp i=Iz es sp i:=by funext j;unfold Iz;rw[S.f,S.f]
  rw[this]
 unfold pgI;rw[f2,f3,f4,f5,S.l]
def Oi {p m:Int}(hm:m=1\/m=2):H0 es (kpE es c rs p m):=by
 unfold kpE;by_cases g:kpB es c rs p m=true
 ·rw[VE g];unfold kpB at g;simp only[Zc,VD]at g;have hp:=g.2.1;have r:0<=p/\p<es.length:=by
   by_cases q:0<=p/\p<es.length;exact q;exact absurd (uZ q).1 hp
  refine⟨jX,fun q=>?_,fun q=>?_⟩
  ·by_cases k:0<=q/\q<es.length
   ·rw[(k7 k).1,(k7 (es:=so es p m (peF es p)) (p:=q) (by rw[jX];exact k)).1,(oM r.1 r.2 q k.1).1];by_cases e:q=p
    ·subst e;rw[VE rfl, <- (k7 r).1];constructor
     ·intro h;omega
     ·intro h;exact absurd h hp
    ·rw[VF e]
   ·rw[(uZ k).1,(uZ (es:=so es p m (peF es p)) (p:=q) (by rw[jX];exact k)).1]
  ·by_cases k:0<=q/\q<es.length
   ·rw[(k7 k).2,(k7 (es:=so es p m (peF es p)) (p:=q) (by rw[jX];exact k)).2,(oM r.1 r.2 q k.1).2];by_cases e:q=p
    ·subst e;rw[VE rfl,(k7 r).2]
    ·rw[VF e]
   ·rw[(uZ k).2,(uZ (es:=so es p m (peF es p)) (p:=q) (by rw[jX];exact k)).2]
 ·rw[VF g];exact Oh
def ace (h:jsP es c rs kp mv xs ph nx≠4):H0 es (jsE es c rs kp mv ph nx):=by
 unfold jsE;by_cases h0:ph=0
 ·rw[VE h0];exact Oi (.inl rfl)
 rw[VF h0];by_cases h2:ph=2
 ·rw[VE h2];subst h2;unfold koE;by_cases g:koB es c rs mv kp=true;exact absurd (by unfold jsP;rw[VF (by decide),VF (by decide),VE rfl,VE g]) h
  ·rw[VF g];exact Oh
 rw[VF h2];by_cases h3:ph=3/\¬ 0<nx
 ·rw[VE h3];exact Oi (.inr rfl)
 ·rw[VF h3];exact Oh
def adQ (h0:0<=ph)(h1:ph<=5):0<=jsP es c rs kp mv xs ph nx/\jsP es c rs kp mv xs ph nx<=5:=by
 unfold jsP
 repeat' split
 all_goals omega
def adP (h0:0<=nx)(h1:nx<=xs.length):0<=jsX xs ph nx/\jsX xs ph nx<=xs.length:=by
 unfold jsX
 repeat' split
 all_goals omega
def adO:c<=jsN c ph nx/\jsN c ph nx<=c+1:=by
 unfold jsN;split<;>omega
end
section
variable {a0 a1 a2: ab} {a3: Int} {a4 a5 a6 a7 a8 a9 aA aB: ab} {aC: Int} {aD: ab} {aE aF aG aH: Int} {aI: Bool} {aJ aK: Int} {aL: ab} {aM aN: Int}
def adn (h:hpI a0 a1 a2 a3 a4 a5 a6 a7 a8 a9 aA aB aC aD aE aF aG aH aI aJ aK aL aM aN=true)(c:a3<=99000)(me:aI=true)(o:moB true a0 a1 a2 a3 a4 aJ aK aL aM aN=false):
 hpI (mcC true a0 a1 a2 a3 a4 aJ aK aL aM aN) (mcU true a0 a1 a2 a3 a4 aJ aK aL aM aN) (mcE true a0 a1 a2 a3 a4 aJ aK aL aM aN) (mcN true a0 a1 a2 a3 a4 aJ aK aL aM aN) a4 a5 a6 a7 a8 a9 aA aB aC aD aE aF aG aH aI aJ aK aL (mphN true a0 a1 a2 a3 a4 aJ aK aL aM aN) (mqhN true a0 a1 a2 a3 a4 aJ aK aL aM aN)=true:=by
 cases q:C6 a0 a1 a2 a3 a4 aJ aK aL aM aN with
 | false=>
   obtain⟨e1,e2,e3,e4,e5,e6,_⟩:=mcF q;rw[e1,e2,e3,e4,e5,e6];exact h
 | true=>
   obtain⟨e1,e2,e3,e4,e5,e6,e7⟩:=mcT q;rw[e7]at o;rw[e1,e2,e3,e4,e5,e6];have j:=JR q;have J:=jbT j.2.1;subst me;simp only[hpI,Zc,VD]at h ⊢;obtain⟨k,r,ly,pg,ml,cl,qu,ca,ob,ho,s,ck,li,nx,jb⟩:=h;have M:=xf k;have n4:jsP a2 a3 a4 aJ aK aL aM aN≠4:=by
    intro e;rw[e]at o;cases o
   have S:=ace n4;have N:=adO (c:=a3) (ph:=aM) (nx:=aN);have X:=adP (xs:=aL) (ph:=aM) J.n0 J.n1;have Y:=adQ (es:=a2) (c:=a3) (rs:=a4) (kp:=aJ) (mv:=aK) (xs:=aL) (nx:=aN) J.p0 J.p1;refine⟨abb (adN M.1 J) (by have:=M.2.1;omega) Uc M.2.2.2,by rw[S.l];exact r,ly,by rw[QT S];exact pg,ml,cl,qu,ca,ob,ho,s,ck,li,nx,?_⟩;simp only[wi,cond_true,jbOk,Zc]at jb ⊢;exact⟨⟨jb.1.1,bz.2 Y,bz.2 X⟩,jb.2⟩
end
def HV.ms_g {h:HV}(g:h.ms2=true):h.hp=true/\h.a3<=99000/\h.aI=true:=by
 have g':msB h.hp h.a3 h.aI=true:=g;simp only[msB,Zc,VD]at g';exact g'
def HV.ms_f {h:HV}(p:h.hp=true)(c:h.a3<=99000)(m:h.aI=true):h.ms2=true:=by
 show msB h.hp h.a3 h.aI=true;simp only[msB,Zc,VD];exact⟨p,c,m⟩
def HV.mq (h:HV):HV:=⟨mcC true h.a0 h.a1 h.a2 h.a3 h.a4 h.aJ h.aK h.aL h.aM h.aN,mcU true h.a0 h.a1 h.a2 h.a3 h.a4 h.aJ h.aK h.aL h.aM h.aN,mcE true h.a0 h.a1 h.a2 h.a3 h.a4 h.aJ h.aK h.aL h.aM h.aN,mcN true h.a0 h.a1 h.a2 h.a3 h.a4 h.aJ h.aK h.aL h.aM h.aN,h.a4,h.a5,h.a6,h.a7,h.a8,h.a9,h.aA,h.aB,h.aC,h.aD,h.aE,h.aF,h.aG,h.aH,meB (moB true h.a0 h.a1 h.a2 h.a3 h.a4 h.aJ h.aK h.aL h.aM h.aN) h.aI,ifN (moB true h.a0 h.a1 h.a2 h.a3 h.a4 h.aJ h.aK h.aL h.aM h.aN) 0 h.aJ,ifN (moB true h.a0 h.a1 h.a2 h.a3 h.a4 h.aJ h.aK h.aL h.aM h.aN) 0 h.aK,ifR (moB true h.a0 h.a1 h.a2 h.a3 h.a4 h.aJ h.aK h.aL h.aM h.aN) [] h.aL,ifN (moB true h.a0 h.a1 h.a2 h.a3 h.a4 h.aJ h.aK h.aL h.aM h.aN) 0 (mphN true h.a0 h.a1 h.a2 h.a3 h.a4 h.aJ h.aK h.aL h.aM h.aN),ifN (moB true h.a0 h.a1 h.a2 h.a3 h.a4 h.aJ h.aK h.aL h.aM h.aN) 0 (mqhN true h.a0 h.a1 h.a2 h.a3 h.a4 h.aJ h.aK h.aL h.aM h.aN)⟩
def HV.mq1 (h:HV):Bool:=mdB (mphN true h.a0 h.a1 h.a2 h.a3 h.a4 h.aJ h.aK h.aL h.aM h.aN)
def HV.mq_e {h:HV}(g:h.ms2=true):h.mq=h.ms/\h.mq1=decide (h.ms1=4):=by
 have g':msB h.hp h.a3 h.aI=true:=g
 constructor
 ·unfold HV.ms;rw[g'];rfl
 ·unfold HV.ms1 HV.mq1 mdB;rw[g']
def HV.ms_hp {h:HV}(g:h.ms2=true)(m:h.ms.aI=true):h.ms.hp=true:=by
 have p:=HV.ms_g g;rw[<- (HV.mq_e g).1]at m ⊢;have o:moB true h.a0 h.a1 h.a2 h.a3 h.a4 h.aJ h.aK h.aL h.aM h.aN=false:=by
  have m':meB (moB true h.a0 h.a1 h.a2 h.a3 h.a4 h.aJ h.aK h.aL h.aM h.aN) h.aI=true:=m;cases e:moB true h.a0 h.a1 h.a2 h.a3 h.a4 h.aJ h.aK h.aL h.aM h.aN with
  |false=>rfl
  |true=>rw[e]at m';cases m'
 have q:=adn (h:=p.1) (c:=p.2.1) (me:=p.2.2) o;unfold HV.hp HV.mq;simp only[o];exact q
def HV.ms_n {h:HV}:h.ms.a3<=h.a3+1/\h.a3<=h.ms.a3:=by
 show mcN (msB h.hp h.a3 h.aI) h.a0 h.a1 h.a2 h.a3 h.a4 h.aJ h.aK h.aL h.aM h.aN<=h.a3+1/\h.a3<=mcN (msB h.hp h.a3 h.aI) h.a0 h.a1 h.a2 h.a3 h.a4 h.aJ h.aK h.aL h.aM h.aN;unfold mcN;have N:=adO (c:=h.a3) (ph:=h.aM) (nx:=h.aN);cases msB h.hp h.a3 h.aI&&C6 h.a0 h.a1 h.a2 h.a3 h.a4 h.aJ h.aK h.aL h.aM h.aN with
 |false=>exact⟨by show h.a3<=_;omega,Int.le_refl _⟩
 |true=>exact⟨N.2,N.1⟩
def HV.ms_o {h:HV}(g:h.ms2=true)(d:h.ms1=4):h.ms.aI=false:=by
 have g':msB h.hp h.a3 h.aI=true:=g;have d':mphN (msB h.hp h.a3 h.aI) h.a0 h.a1 h.a2 h.a3 h.a4 h.aJ h.aK h.aL h.aM h.aN=4:=d;rw[g']at d';rw[<- (HV.mq_e g).1];show meB (moB true h.a0 h.a1 h.a2 h.a3 h.a4 h.aJ h.aK h.aL h.aM h.aN) h.aI=false;have e:moB true h.a0 h.a1 h.a2 h.a3 h.a4 h.aJ h.aK h.aL h.aM h.aN=true:=aeq d';rw[e];rfl
end Go.V
namespace Go.V
structure acB (n:Int)(o:ab):Prop where
 b:∀ j:Nat,j<o.length->0<=ag o (j:Int) 0/\ag o (j:Int) 0<n
 a:∀ j:Nat,0<j->j<o.length->ag o ((j-1:Nat):Int) 0<ag o (j:Int) 0
def RG {k b:Int}:∀ n:Nat,acB (n:Int) (qe k b n)
 |0=>⟨fun j hj=>absurd hj (by simp[qe]),fun j _ hj=>absurd hj (by simp[qe])⟩
 | n+1=>by
   have ih:=RG (k:=k) (b:=b) n;unfold qe;split
   ·refine⟨fun j hj=>?_,fun j j0 hj=>?_⟩
    ·rw[Zh]at hj;simp only[Zp,Zt]at hj;by_cases c:j<(qe k b n).length
     ·rw[o6 c];have:=ih.b j c;omega
     ·have e:j=(qe k b n).length:=by omega
      subst e;rw[qG];show 0<=(n:Int)/\(n:Int)<_;omega
    ·rw[Zh]at hj;simp only[Zp,Zt]at hj;rw[o6 (show j-1<(qe k b n).length by omega)];by_cases c:j<(qe k b n).length
     ·rw[o6 c];exact ih.a j j0 c
     ·have e:j=(qe k b n).length:=by omega
      have q:=(ih.b (j-1) Uc).2;subst e;rw[qG];show _<(n:Int);exact q
   ·exact⟨fun j hj=>by have:=ih.b j hj;omega,ih.a⟩
def Om {p k b:Int}:cC (IS (sclL p k b)) (sclL p k b).length=true:=by
 rw[dN];intro i i0 i1;have A:acB 16 (sclL p k b):=by
  unfold sclL;split;exact RG 16;exact⟨fun j hj=>absurd hj (by simp),fun j _ hj=>absurd hj (by simp)⟩
 have e:((i.toNat:Nat):Int)=i:=Zo i0;have B:=A.b i.toNat Uc;rw[e]at B;unfold IS;rw[bz.2 ⟨B.1,Uc⟩];by_cases c:0<i
 ·have D:=A.a i.toNat Uc Uc;rw[e,show((i.toNat-1:Nat):Int)=i-1 by omega]at D;rw[VC (p:=ag (sclL p k b) i 0<=ag (sclL p k b) (i-1) 0) Uc];simp
 ·rw[VC c];rfl
def afi {p k b q l c:Int}(h:mshB p k b q l c=true):plOk (ppK p k b q l c) (ppM p k b q l c) (ppC p k b q l c)=true:=by
 have h':=h;simp only[mshB,Zc,VD]at h';have a:=mT h'.1;have d:=mT h'.2.1;unfold ppK ppM ppC;rw[VE h,VE h,VE h];unfold plOk;by_cases e:ppB p k b q l c=true
 ·rw[VE e,VE e,VE e];simp only[Zc,VD];exact⟨Om,bz.2 ⟨d.1,d.2.1⟩,bz.2 ⟨a.1,a.2.1⟩,fun x=>h'.2.2.2.1 x.symm⟩
 ·rw[VF e,VF e,VF e];simp only[Zc,VD];exact⟨Om,bz.2 ⟨a.1,a.2.1⟩,bz.2 ⟨d.1,d.2.1⟩,h'.2.2.2.1⟩
def KR (sp o:ab):Prop:=∀ j:Nat,j<o.length->spM sp (ag o (j:Int) 0) (ag o (j:Int) 1)=true
def abL {sp od o:ab}{h p i:Int}(g:KR sp o):KR sp (TT sp od h p i o):=by
 unfold TT;split
 ·rename_i t;simp only[LH,Zc]at t;intro j hj;rw[Zh]at hj;simp only[Zp,Zt]at hj;by_cases c:j<o.length
  ·rw[o6 c,o6 c];exact g j c
  ·have e:j=o.length:=by omega
   subst e;rw[qG,qG];exact t.2.2
 ·exact g
def NA {sp od o:ab}{h p:Int}(g:KR sp o):∀ i:Nat,KR sp (yX sp od h p i o)
 |0=>g
 |i+1=>abL (NA g i)
def NB {sp od:ab}{h:Int}:∀ p:Nat,KR sp (O7 sp od h p)
 |0=>fun j hj=>absurd hj (by simp[O7])
 |p+1=>NA (NB p) _
def NC {sp:ab}{s k:Int}:KR sp (sqL sp s k):=by
 unfold sqL;split;exact NB _;exact fun j hj=>absurd hj (by simp)
def aeG {e s:ab}{d:Int}(q:(xj e s d).length≠0):plOk (HM e s d) (HN e s d) (HL e s d)=true:=by
 have m:=NC (sp:=sf e s) (s:=d) (k:=3) 0 (show 0<(xj e s d).length by omega);exact afi m
def Nw {e s:ab}:∀ n:Nat,n<=s.length->∀ j:Nat,j<(zw e s n).length->∃ i:Nat,i<s.length/\ag s (i:Int) 0=ag (zw e s n) (j:Int) 0
 |0,_,j,hj=>absurd hj (by simp[zw])
 | n+1,hn,j,hj=>by
   have ih:=Nw (e:=e) (s:=s) n Uc;unfold zw at hj ⊢;split at hj
   ·rename_i c;rw[VE c];rw[Zh]at hj;simp only[Zp,Zt]at hj;by_cases d:j<(zw e s n).length
    ·rw[o6 d];exact ih j d
    ·have w:j=(zw e s n).length:=by omega
     subst w;rw[qG];exact⟨n,Uc,rfl⟩
   ·rename_i c;rw[VF c];exact ih j hj
def Kb {e s:ab}{i:Int}(i0:0<=i)(i1:i<(sf e s).length):0<=spI s (ag (sf e s) i 0):=by
 have l16:=zy (e:=e) (s:=s);have lm:=NG (e:=e) (s:=s);have h:=ac8 (l:=msS e s) (n:=16) (j:=i.toNat) (k:=0) Uc;rw[Zo i0]at h;obtain⟨k,k1,k2⟩:=Nw (e:=e) (s:=s) s.length (Zf _) i.toNat (show i.toNat<(msS e s).length by omega);rw[Zo i0]at k2;unfold spI;rw[Dq];refine⟨k,k1,?_⟩;unfold isSp;rw[k2];have h':ag (sf e s) i 0=ag (msS e s) i 0:=h;rw[h'];simp[eqB,msS]
def aeJ {e s:ab}{d:Int}(q:(xj e s d).length≠0):0<=spI s (HM e s d)/\0<=spI s (HN e s d):=by
 have m:=NC (sp:=sf e s) (s:=d) (k:=3) 0 (show 0<(xj e s d).length by omega);have i:=Td q;have a:=Kb i.1.1 i.1.2;have b:=Kb i.2.1 i.2.2;have m':mshB (na e s d 0 0) (na e s d 0 1) (na e s d 0 2) (na e s d 1 0) (na e s d 1 1) (na e s d 1 2)=true:=m;unfold HM HN ppK ppM;rw[VE m',VE m'];split;exact⟨b,a⟩;exact⟨a,b⟩
def abT {s:Int}:inR (Qz s) 0 1073741823=true:=by
 unfold Qz;exact bz.2 Uc
def Ou:∀ {k:Nat} {s:Int},inR s 0 1073741823=true->inR (shS k s) 0 1073741823=true
 |0,_,h=>h
 | k+1,s,h=>by
   refine Ou (k:=k) ?_;unfold cuS;split;exact abT;exact h
def abM {g:Bool}{e s:ab}{d:Int}(h:inR d 0 1073741823=true):inR (mtD g e s d) 0 1073741823=true:=by
 unfold mtD;split
 ·unfold sqS;split
  ·unfold shuS;split;exact Ou h;exact h
  ·exact h
 ·exact h
def HV.mt_n {h:HV}:h.mt.a3=h.a3:=rfl
def HV.mt_me {h:HV}(m:h.aI=true):h.mt=h/\h.mt1=false:=by
 have g:mtG h.hp h.aI=false:=by rw[m];exact Tg
 have b:=Te (e:=h.a2) (s:=h.a6) (d:=h.aE) g;refine⟨?_,b⟩;unfold HV.mt;rw[Tf g,Ka b,Fe b,Ff b,Fc b,wo b,wo b]
def HV.mt_no {h:HV}(p:h.hp=false):h.mt=h/\h.mt1=false:=by
 have g:mtG h.hp h.aI=false:=Ti p;have b:=Te (e:=h.a2) (s:=h.a6) (d:=h.aE) g;refine⟨?_,b⟩;unfold HV.mt;rw[Tf g,Ka b,Fe b,Ff b,Fc b,wo b,wo b]
def HV.mu (h:HV):HV:=⟨h.a0,h.a1,h.a2,h.a3,h.a4,h.a5,h.a6,h.a7,h.a8,h.a9,h.aA,h.aB,h.aC,h.aD,mtD true h.a2 h.a6 h.aE,h.aF,h.aG,h.aH,mtO true h.a2 h.a6 h.aE h.aI,mtJk true h.a2 h.a6 h.aE h.aJ,mtJm true h.a2 h.a6 h.aE h.aK,mtJc true h.a2 h.a6 h.aE h.aL,mtJ0 true h.a2 h.a6 h.aE h.aM,mtJ0 true h.a2 h.a6 h.aE h.aN⟩
def HV.mu1 (h:HV):Bool:=mtB true h.a2 h.a6 h.aE
def HV.mu_e {h:HV}(p:h.hp=true)(m:h.aI=false):h.mu=h.mt/\h.mu1=h.mt1:=by
 have g:mtG h.hp h.aI=true:=Kc p m
 constructor
 ·unfold HV.mt;rw[g];rfl
 ·unfold HV.mt1;rw[g];rfl
def HV.mt_hp {h:HV}(p:h.hp=true)(m:h.aI=false)(b:h.mt1=true):h.mt.hp=true:=by
 have g:mtG h.hp h.aI=true:=Kc p m;have b':mtB true h.a2 h.a6 h.aE=true:=by have:=b;unfold HV.mt1 at this;rw[g]at this;exact this
 have q:(xj h.a2 h.a6 h.aE).length≠0:=by
  have:=b';simp only[mtB,Bool.true_and,VD]at this;omega
 rw[<- (HV.mu_e p m).1];have p':=p;unfold HV.hp at p';unfold HV.hp HV.mu;simp only[IF b',IG b',IE b',ID b',ND b'];have pl:=aeG q;have sp:=aeJ q;rw[(Qe pl).1,(Qe pl).2.1,(Qe pl).2.2];simp only[hpI,Zc,VD]at p' ⊢;obtain⟨k,r,ly,pg,ml,cl,qu,ca,ob,ho,s,ck,li,nx,jb⟩:=p';refine⟨k,r,ly,pg,ml,cl,qu,ca,ob,ho,abM s,ck,li,nx,?_⟩;simp only[wi,cond_true,jbOk,Zc,VD];exact⟨⟨pl,bz.2 Uc,bz.2 Uc⟩,sp.1,sp.2⟩
end Go.V
namespace Go.V
structure lI (h:HV):Prop where
 c:Jm h.a0 h.a1 h.a2 h.a4 h.a5 h.a6 h.a7 h.a8 h.a9 h.aA h.aB h.aD h.aL
def lI.ms {h:HV}(C:lI h):lI h.ms:=⟨aex C.c⟩
def lI.mt {h:HV}(C:lI h):lI h.mt:=⟨aeC C.c _ _⟩
def uD:Nat->HV->HV
 |0,h=>h
 |n+1,h=>if h.aI then(if h.ms2 then(if h.ms1=4 then h.ms else uD n h.ms)else h.ms)else h
def zf:Nat->HV->Bool
 |0,_=>false
 |n+1,h=>if h.aI then(if h.ms2 then(if h.ms1=4 then true else zf n h.ms)else false)else false
def lI.fj:∀ {n:Nat} {h:HV},lI h->lI (uD n h)
 |0,_,C=>C
 | n+1,h,C=>by
   unfold uD
   repeat' split
   ·exact C.ms
   ·exact lI.fj C.ms
   ·exact C.ms
   ·exact C
def aat:∀ {n:Nat} {h:HV},(uD n h).a3<=h.a3+n
 |0,h=>by show h.a3<=_;omega
 | n+1,h=>by
   have a:=(HV.ms_n (h:=h)).1;unfold uD
   repeat' split
   ·omega
   ·have:=aat (n:=n) (h:=h.ms);omega
   ·omega
   ·omega
def HK:Nat->HV->HV
 |0,h=>h
 |n+1,h=>if h.mt1 then HK n (uD 100 h.mt)else HK n h.mt
def J5:Nat->HV->Int->Int
 |0,_,k=>k
 |n+1,h,k=>if h.mt1 then J5 n (uD 100 h.mt) (if zf 100 h.mt then bK .add Za k 1 else k)else J5 n h.mt k
def Fa (h:HV)(m:Int):Bool:=h.hp&&(decide (h.a3<=90000)&&inR m 0 20)
def HV.ma (h:HV)(m:Int):HV:=if Fa h m then HK m.toNat (uD 100 h)else h
def HV.ma1 (h:HV)(m:Int):Int:=if Fa h m then J5 m.toNat (uD 100 h) (if zf 100 h then bK .add Za 0 1 else 0)else 0
def lI.mah:∀ {n:Nat} {h:HV},lI h->lI (HK n h)
 |0,_,C=>C
 | n+1,h,C=>by
   unfold HK;split;exact lI.mah (lI.fj C.mt);exact lI.mah C.mt
def lI.ma {h:HV}{m:Int}(C:lI h):lI (h.ma m):=by
 unfold HV.ma;split;exact lI.mah (lI.fj C);exact C
structure KQ (X:HV)(B:Bool)(h:HV)(i:Int):Prop where
 i0:0<=i
 i1:i<=100
 c:lI h
 e:uD (100-i).toNat h=X
 b:zf (100-i).toNat h=B
def P0 {h:HV}(c:lI h):KQ (uD 100 h) (zf 100 h) h 0:=⟨Uc,Uc,c,rfl,rfl⟩
def KQ.end1 {X h:HV}{B:Bool}{i:Int}(P:KQ X B h i)(q:¬ i<100):h=X/\false=B:=by
 have e:(100-i).toNat=0:=by omega
 have p1:=P.e;have p2:=P.b;rw[e]at p1 p2;exact⟨p1,p2⟩
def KQ.end2 {X h:HV}{B:Bool}{i:Int}(P:KQ X B h i)(q:h.aI=false):h=X/\false=B:=by
 have p1:=P.e;have p2:=P.b;cases e:(100-i).toNat with
 |zero=>rw[e]at p1 p2;exact⟨p1,p2⟩
 | succ n=>
   rw[e]at p1 p2;simp only[uD,q,ZI,if_false]at p1;simp only[zf,q,ZI,if_false]at p2;exact⟨p1,p2⟩
def KQ.step {X h:HV}{B:Bool}{i:Int}(P:KQ X B h i)(q:i<100)(a:h.aI=true):(h.ms2=false->h.ms=X/\false=B)/\(h.ms2=true->h.ms1=4->h.ms=X/\true=B)/\(h.ms2=true->h.ms1≠4->KQ X B h.ms (i+1)):=by
 have i0:=P.i0;have e:(100-i).toNat=(100- (i+1)).toNat+1:=by omega
 have p1:=P.e;have p2:=P.b;rw[e]at p1 p2;simp only[uD,a,if_true]at p1;simp only[zf,a,if_true]at p2;refine⟨fun b=>?_,fun b c=>?_,fun b c=>?_⟩
 ·simp only[b,ZI,if_false]at p1 p2;exact⟨p1,p2⟩
 ·simp only[b,c,if_true]at p1 p2;exact⟨p1,p2⟩
 ·simp only[b,c,if_true,if_false]at p1 p2;exact⟨Uc,Uc,P.c.ms,p1,p2⟩
structure Js (X:HV)(K:Int)(h:HV)(m k:Int):Prop where
 m0:0<=m
 m1:m<=20
 c:lI h
 e:HK m.toNat h=X
 n:J5 m.toNat h k=K
def Js.fin {X h:HV}{K m k:Int}(P:Js X K h m k)(q:¬ m>0):h=X/\k=K:=by
 have e:m.toNat=0:=by have:=P.m0;omega
 have p1:=P.e;have p2:=P.n;rw[e]at p1 p2;exact⟨p1,p2⟩
def Js.step {X h:HV}{K m k:Int}(P:Js X K h m k)(q:m>0):(h.mt1=false->Js X K h.mt (m-1) k)/\(h.mt1=true->zf 100 h.mt=true->Js X K (uD 100 h.mt) (m-1) (bK .add Za k 1))/\(h.mt1=true->zf 100 h.mt=false->Js X K (uD 100 h.mt) (m-1) k):=by
 have m1:=P.m1;have e:m.toNat=(m-1).toNat+1:=by omega
 have p1:=P.e;have p2:=P.n;rw[e]at p1 p2;simp only[HK]at p1;simp only[J5]at p2;refine⟨fun b=>?_,fun b c=>?_,fun b c=>?_⟩
 ·simp only[b,ZI,if_false]at p1 p2;exact⟨Uc,Uc,P.c.mt,p1,p2⟩
 ·simp only[b,if_true]at p1 p2;simp only[c,if_true]at p2;exact⟨Uc,Uc,lI.fj P.c.mt,p1,p2⟩
 ·simp only[b,if_true]at p1 p2;simp only[c,ZI,if_false]at p2;exact⟨Uc,Uc,lI.fj P.c.mt,p1,p2⟩
def Qn {h:HV}{m:Int}(w:lI h)(g:Fa h m=true):(zf 100 h=true->Js (h.ma m) (h.ma1 m) (uD 100 h) m (bK .add Za 0 1))/\(zf 100 h=false->Js (h.ma m) (h.ma1 m) (uD 100 h) m 0):=by
 have g':=g;simp only[Fa,Zc,VD]at g';have r:=bz.1 g'.2.2;refine⟨fun c=>⟨Uc,Uc,lI.fj w,?_,?_⟩,fun c=>⟨Uc,Uc,lI.fj w,?_,?_⟩⟩
 ·simp only[HV.ma,g,if_true]
 ·simp only[HV.ma1,g,c,if_true]
 ·simp only[HV.ma,g,if_true]
 ·simp only[HV.ma1,g,c,ZI,if_true,if_false]
def S5 {h:HV}{m:Int}(g:Fa h m=false):h.ma m=h/\h.ma1 m=0:=by
 constructor
 ·simp only[HV.ma,g,ZI,if_false]
 ·simp only[HV.ma1,g,ZI,if_false]
def aej {h:HV}{m:Int}(p:h.hp=false):Fa h m=false:=by unfold Fa;rw[p];rfl
def aek {h:HV}{m:Int}(p:h.a3>90000):Fa h m=false:=by unfold Fa;rw[VC Uc];simp
def ael {h:HV}{m:Int}(p:inR m 0 20=false):Fa h m=false:=by unfold Fa;rw[p];simp
def aem {h:HV}{m:Int}(p:h.hp=true)(q:¬ h.a3>90000)(r:inR m 0 20=true):Fa h m=true:=by unfold Fa;rw[p,VB Uc,r];rfl
end Go.V
namespace Go.V
def hvO (h:HV):List H:=(hpM h.a0 h.a1 h.a2 h.a3 h.a4 h.a5 h.a6 h.a7 h.a8 h.a9 h.aA h.aB h.aC h.aD h.aE h.aF h.aG h.aH h.aI h.aJ h.aK h.aL h.aM h.aN)
structure HvG (h:HV):Prop where
 c:lI h
 p:h.hp=true
 n:h.a3<=99000
 m:h.aI=true
structure HvF (h:HV):Prop where
 c:lI h
 k:h.aI=true->h.hp=true/\h.a3<=98000
structure HvB (h:HV)(m:Int):Prop where
 c:lI h
 g:Fa h m=true
def fjN (h:HV):Int:=if zf 100 h then 1 else 0
def Se {h:HV}:fjN h=if zf 100 h then 1 else 0:=rfl
structure Jl (X:HV)(B:Bool)(h:HV)(i n:Int):Prop where
 i0:0<=i
 i1:i<=100
 c:lI h
 s:(n=0/\uD (100-i).toNat h=X/\zf (100-i).toNat h=B/\(h.aI=true->h.hp=true/\h.a3<=98000+i))\/(n=1/\h=X/\true=B/\h.aI=false)
def P1 {h:HV}(p:HvF h):Jl (uD 100 h) (zf 100 h) h 0 0:=⟨Uc,Uc,p.c,.inl ⟨rfl,rfl,rfl,fun q=>⟨(p.k q).1,by have:=(p.k q).2;omega⟩⟩⟩
def Jl.fin {X h:HV}{B:Bool}{i n:Int}(P:Jl X B h i n)(q:¬ i<100\/h.aI=false):h=X/\n=if B then 1 else 0:=by
 rcases P.s with⟨rfl,e,b,_⟩|⟨rfl,e,b,_⟩
 ·have F:KQ X B h i:=⟨P.i0,P.i1,P.c,e,b⟩;rcases q with q|q
  ·have r:=F.end1 q;exact⟨r.1,by rw[<-r.2];rfl⟩
  ·have r:=F.end2 q;exact⟨r.1,by rw[<-r.2];rfl⟩
 ·exact⟨e,by rw[<-b];rfl⟩
def Jl.on {X h:HV}{B:Bool}{i n:Int}(P:Jl X B h i n)(a:h.aI=true):n=0/\uD (100-i).toNat h=X/\zf (100-i).toNat h=B/\h.hp=true/\h.a3<=98000+i:=by
 rcases P.s with⟨r,e,b,k⟩|⟨_,_,_,k⟩;exact⟨r,e,b,(k a).1,(k a).2⟩
 ·rw[a]at k;cases k
def Jl.g {X h:HV}{B:Bool}{i n:Int}(P:Jl X B h i n)(q:i<100)(a:h.aI=true):HvG h:=⟨P.c,(P.on a).2.2.2.1,by have:=(P.on a).2.2.2.2;omega,a⟩
def Jl.step {X h:HV}{B:Bool}{i n:Int}(P:Jl X B h i n)(q:i<100)(a:h.aI=true):(h.mq1=true->Jl X B h.mq (i+1) (bK .add Za n 1))/\(h.mq1=false->Jl X B h.mq (i+1) n):=by
 have i0:=P.i0;obtain⟨n0,e,b,p,k⟩:=P.on a;subst n0;have g:=HV.ms_f p Uc a;have m:=HV.mq_e g;have F:KQ X B h i:=⟨P.i0,P.i1,P.c,e,b⟩;have t:=F.step q a;rw[m.1,m.2];refine⟨fun d=>?_,fun d=>?_⟩
 ·have d':h.ms1=4:=VG d;have r:=t.2.1 g d';exact⟨Uc,Uc,P.c.ms,.inr ⟨by decide+kernel,r.1,r.2,HV.ms_o g d'⟩⟩
 ·have d':h.ms1≠4:=of_decide_eq_false d;have r:=t.2.2 g d';have N:=(HV.ms_n (h:=h)).1;exact⟨Uc,Uc,P.c.ms,.inl ⟨rfl,r.e,r.b,fun w=>⟨HV.ms_hp g w,Uc⟩⟩⟩
def Nk {h:HV}(m:h.aI=true):∀ {n:Nat} {k:Int},HK n h=h/\J5 n h k=k
 |0,_=>⟨rfl,rfl⟩
 | n+1,k=>by
   have q:=HV.mt_me m;simp only[HK,J5,q.2,q.1,ZI,if_false];exact Nk m
structure En (X:HV)(K:Int)(h:HV)(m i n:Int):Prop where
 i0:0<=i
 i1:i<=m
 m1:m<=20
 c:lI h
 k:h.a3<=90100+100*i
 n0:0<=n
 n1:n<=1+i
 e:HK (m-i).toNat h=X
 f:J5 (m-i).toNat h n=K
def ac3 {h:HV}:0<=fjN h/\fjN h<=1:=by unfold fjN;split<;>omega
def Qm {h:HV}{m:Int}(p:HvB h m):En (h.ma m) (h.ma1 m) (uD 100 h) m 0 (fjN h):=by
 have g:=p.g;simp only[Fa,Zc,VD]at g;have r:=bz.1 g.2.2;have n:=aat (n:=100) (h:=h);have b:=ac3 (h:=h);refine⟨Uc,Uc,Uc,lI.fj p.c,Uc,b.1,Uc,?_,?_⟩
 ·simp only[HV.ma,p.g,if_true];rw[show(m-0).toNat=m.toNat by omega]
 ·simp only[HV.ma1,p.g,if_true];rw[show(m-0).toNat=m.toNat by omega];unfold fjN;split
  ·rw[show bK .add Za 0 1=1 by decide+kernel]
  ·rfl
def En.fin {X h:HV}{K m i n:Int}(P:En X K h m i n)(q:¬ i<m\/h.aI=true):h=X/\n=K:=by
 have e:=P.e;have f:=P.f;have i1:=P.i1;rcases q with q|q
 ·rw[show(m-i).toNat=0 by omega]at e f;exact⟨e,f⟩
 ·rw[(Nk (k:=0) q).1]at e;rw[(Nk q).2]at f;exact⟨e,f⟩
def En.up {X h:HV}{K m i n:Int}(P:En X K h m i n)(q:i<m):HK ((m- (i+1)).toNat+1) h=X/\J5 ((m- (i+1)).toNat+1) h n=K:=by
 have e:=P.e;have f:=P.f;rw[show(m-i).toNat=(m- (i+1)).toNat+1 by omega]at e f;exact⟨e,f⟩
def En.no {X h:HV}{K m i n:Int}(P:En X K h m i n)(q:i<m)(p:h.hp=false):En X K h m (i+1) n:=by
 have u:=P.up q;have i0:=P.i0;have k:=P.k;have n1:=P.n1;have r:=HV.mt_no p;simp only[HK,J5,r.2,r.1,ZI,if_false]at u;exact⟨Uc,Uc,P.m1,P.c,Uc,P.n0,Uc,u.1,u.2⟩
def En.f0 {X h:HV}{K m i n:Int}(P:En X K h m i n)(q:i<m)(p:h.hp=true)(a:h.aI=false)(b:h.mu1=false):En X K h.mu m (i+1) n:=by
 have u:=P.up q;have i0:=P.i0;have k:=P.k;have n1:=P.n1;have r:=HV.mu_e p a;rw[r.1];rw[r.2]at b;simp only[HK,J5,b,ZI,if_false]at u;exact⟨Uc,Uc,P.m1,P.c.mt,by show h.a3<=_;omega,P.n0,Uc,u.1,u.2⟩
def En.hf {X h:HV}{K m i n:Int}(P:En X K h m i n)(q:i<m)(p:h.hp=true)(a:h.aI=false)(b:h.mu1=true):HvF h.mu:=by
 have r:=HV.mu_e p a;have k:=P.k;have m1:=P.m1;rw[r.1];rw[r.2]at b;exact⟨P.c.mt,fun _=>⟨HV.mt_hp p a b,by show h.a3<=_;omega⟩⟩
def En.f1 {X h:HV}{K m i n:Int}(P:En X K h m i n)(q:i<m)(p:h.hp=true)(a:h.aI=false)(b:h.mu1=true):En X K (uD 100 h.mu) m (i+1) (bK .add Za n (fjN h.mu)):=by
 have u:=P.up q;have i0:=P.i0;have k:=P.k;have n0:=P.n0;have n1:=P.n1;have m1:=P.m1;have r:=HV.mu_e p a;rw[r.1];rw[r.2]at b;simp only[HK,J5,b,if_true]at u;have N:=aat (n:=100) (h:=h.mt);have e3:h.mt.a3=h.a3:=HV.mt_n;unfold fjN;cases c:zf 100 h.mt with
 | true=>
   simp only[c,if_true]at u ⊢;have z:bK .add Za n 1=n+1:=bD Uc;exact⟨Uc,Uc,P.m1,lI.fj P.c.mt,Uc,Uc,Uc,u.1,u.2⟩
 | false=>
   simp only[c,ZI,if_false]at u ⊢;have z:bK .add Za n 0=n+0:=bD Uc;rw[z,Int.add_zero];exact⟨Uc,Uc,P.m1,lI.fj P.c.mt,Uc,Uc,Uc,u.1,u.2⟩
end Go.V