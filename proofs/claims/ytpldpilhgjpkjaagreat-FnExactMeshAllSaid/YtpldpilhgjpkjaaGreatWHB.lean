/- Plain facts. -/
import Derived.Test.YtpldpilhgjpkjaaGreatWW2
import Derived.Test.YtpldpilhgjpkjaaGreatWW1
set_option linter.all false
open Go
open BitVec renaming ofInt->ZW
open Bool renaming and_eq_true->Zc,or_eq_true->ZU,and_false->Z3,true_and->Y3,not_eq_true->YQ,or_true->WG,eq_iff_iff->X5
open Int renaming mul_nonneg->X0,mul_le_mul_of_nonneg_right->Xk,toNat_of_nonneg->Zo,add_mul->Wz,ediv_nonneg->XY,eq_ofNat_of_zero_le->Yc,mul_comm->X1,le_refl->Yh,toNat_natCast->ZA
open IntKind renaming i64->ZG,wrap->Xj,i64->Za
open IntWalk renaming i64_in->YZ
open List renaming length_map->Y2,mem_append->Zg,length_append->Zh,append_assoc->Zj,length_cons->Zp,length_nil->Zt,mem_cons->Zk,mem_singleton->Yu,nodup_append->Zu,nodup_nil->ZL,mem_range->Z7,mergeSort_perm->WA,getD_eq_getElem?_getD->Zn,take_append_drop->ZR,mem_map->ZO,getElem_mem->Xl,getElem?_eq_getElem->Zr,mem_iff_getElem->X2,take->Yp,drop->YI,length_take->Zm,count_eq_zero->WC,take_length->Yq,drop_eq_getElem_cons->XA,nodup_iff_count->WE,count_pos_iff->WF,not_mem_nil->Yv,replicate->ZM,length_set->ZH
open List.Nodup renaming length_le_of_subset->WB
open List.Pairwise renaming nil->Vo,imp₂->Vp
open Nat renaming zero_le->Ze,lt_trichotomy->Xx,le_refl->Zf,not_lt_zero->Xz
open Option.some renaming inj->YA
open Value renaming int->Zq,bool->X3
namespace Go.V
def F3 (sp:ab)(i:Int):Nat->List Int
 |0=>[]
 |n+1=>F3 sp i n++(if hsB (ag sp i 2) n then[aaI (ag sp i 0) (ag sp i 1) (ag sp i 2) n]else[])
def EY (sp:ab):Nat->List Int
 |0=>[]
 |n+1=>EY sp n++F3 sp n (slN (ag sp n 1)).toNat
def HJ (lg:ab):Nat->List Int
 |0=>[]
 |n+1=>HJ lg n++[ag lg n 0*16]
def iaA (sp lg:ab):List Int:=EY sp sp.length++HJ lg lg.length
def iaL (sp lg:ab):ab:=if layOk sp lg then srtL (jd (iaA sp lg))else[]
def Fg {a b:Int}(h: -9223372036854775808<=a*b/\a*b<=9223372036854775807):bK .mul Za a b=a*b:=YZ _ h
def Hh {l:ab}:(srtL l).length=l.length:=by unfold srtL;rw[cq,List.length_mergeSort];unfold rr;rw[Y2]
def bdA (l:List Int):Prop:=∀ x∈l,-1<=x/\x<=1000
def Jw {a b:List Int}(h:bdA a)(g:bdA b):bdA (a++b):=fun x hx=>by
 rcases Zg.1 hx with q|q;exact h x q;exact g x q
def RH {x:Int}(h: -1<=x/\x<=1000):bdA [x]:=fun y hy=>by simp at hy;rw[hy];exact h
def agZ {p k b s:Int}: -1<=aaI p k b s/\aaI p k b s<=1000:=by
 unfold aaI;by_cases h:aaB p k b s=true
 ·rw[VE h];unfold aaB at h;simp only[Zc]at h;have t:=mT h.1;have c:=lW t.2.2.1;have s1:=bz.1 h.2;have m0:0<=s*clsSz k:=X0 Uc Uc;have m1:s*clsSz k<=slN k*clsSz k:=Xk Uc Uc;omega
 ·rw[VF h];omega
def EX {sp:ab}{i k:Int}(h:0<=k):F3 sp i (k+1).toNat=F3 sp i k.toNat++(if hsB (ag sp i 2) k then[aaI (ag sp i 0) (ag sp i 1) (ag sp i 2) k]else[]):=by
 rw[show(k+1).toNat=k.toNat+1 from by omega,F3,Zo h]
def MM {sp:ab}{i:Int}(h:0<=i):EY sp (i+1).toNat=EY sp i.toNat++F3 sp i (slN (ag sp i 1)).toNat:=by
 rw[show(i+1).toNat=i.toNat+1 from by omega,EY,Zo h]
def Ii {lg:ab}{i:Int}(h:0<=i):HJ lg (i+1).toNat=HJ lg i.toNat++[ag lg i 0*16]:=by
 rw[show(i+1).toNat=i.toNat+1 from by omega,HJ,Zo h]
structure IaP (sp:ab)(i:Int)(o:ab):Prop where
 e:o=jd (EY sp i.toNat)
 b:bdA (EY sp i.toNat)
 l:(EY sp i.toNat).length<=16*i.toNat
structure Pb (sp:ab)(i k:Int)(o:ab):Prop where
 e:o=jd (EY sp i.toNat++F3 sp i k.toNat)
 b:bdA (EY sp i.toNat++F3 sp i k.toNat)
 l:(EY sp i.toNat).length<=16*i.toNat
 k:(F3 sp i k.toNat).length<=k.toNat
structure Ru (sp lg:ab)(j:Int)(o:ab):Prop where
 e:o=jd (EY sp sp.length++HJ lg j.toNat)
 b:bdA (EY sp sp.length++HJ lg j.toNat)
 l:(EY sp sp.length++HJ lg j.toNat).length<=16*sp.length+j.toNat
def ahq {sp:ab}:IaP sp 0 []:=⟨rfl,(fun x hx=>by cases hx),Ze _⟩
def ahs {sp o:ab}{i:Int}(h:IaP sp i o):Pb sp i 0 o:=
 ⟨by rw[h.e];simp[F3],by simpa[F3]using h.b,h.l,Ze _⟩
def aaR {sp o:ab}{i k:Int}(h:Pb sp i k o):o.length<=16*i.toNat+k.toNat:=by
 have l:=h.l;have m:=h.k;rw[h.e,cq,Zh];omega
def aaS {sp o:ab}{i k:Int}(h:Pb sp i k o)(k0:0<=k)(hh:hsB (ag sp i 2) k=true):Pb sp i (k+1) (o++[[.i (aaI (ag sp i 0) (ag sp i 1) (ag sp i 2) k)]]):=by
 have m:=h.k;have e:=h.e;refine⟨?_,?_,h.l,?_⟩
 ·rw[EX k0,VE hh, <-Zj,hP, <-e];rfl
 ·rw[EX k0,VE hh, <-Zj];exact Jw h.b (RH agZ)
 ·rw[EX k0,VE hh,Zh,Zp,Zt];omega
def adA {sp o:ab}{i k:Int}(h:Pb sp i k o)(k0:0<=k)(hh:hsB (ag sp i 2) k=false):Pb sp i (k+1) o:=by
 have m:=h.k;have e:=h.e;have u:F3 sp i (k+1).toNat=F3 sp i k.toNat:=by rw[EX k0,hh];simp
 refine⟨?_,?_,h.l,?_⟩
 ·rw[u];exact e
 ·rw[u];exact h.b
 ·rw[u];omega
def aiC {sp lg:ab}{i:Int}(hl:layOk sp lg=true)(h0:0<=i)(h1:i<sp.length):0<=slN (ag sp i 1)/\slN (ag sp i 1)<=16:=by
 have t:=mT ((M6 hl).1 i h0 h1);have c:=lW t.2.2.1;omega
def aaQ {sp o:ab}{i k:Int}(h:Pb sp i k o)(i0:0<=i)(k1:k<=slN (ag sp i 1))(k2:slN (ag sp i 1)<=k)(hs:0<=slN (ag sp i 1)/\slN (ag sp i 1)<=16):IaP sp (i+1) o:=by
 have ek:k=slN (ag sp i 1):=by omega
 have e:=h.e;have b:=h.b;have l:=h.l;have m:=h.k;rw[ek, <-MM i0]at e b;rw[ek]at m;refine⟨e,b,?_⟩;rw[MM i0,Zh];omega
def aht {sp lg o:ab}{i:Int}(h:IaP sp i o)(h1:i<=sp.length)(h2:(sp.length:Int)<=i):Ru sp lg 0 o:=by
 have ei:i.toNat=sp.length:=by omega
 have e:=h.e;have b:=h.b;have l:=h.l;rw[ei]at e b l;exact⟨by rw[e];simp[HJ],by simpa[HJ]using b,by simpa[HJ]using l⟩
def MP {sp lg o:ab}{j:Int}(h:Ru sp lg j o):o.length<=16*sp.length+j.toNat:=by
 have l:=h.l;rw[h.e,cq];exact l
def ahP {sp lg:ab}{j:Int}(hl:layOk sp lg=true)(h0:0<=j)(h1:j<lg.length):0<=ag lg j 0/\ag lg j 0<=32:=by
 have t:=oE ((M6 hl).2.1 j h0 h1);have b:=ng t.1;omega
def adC {sp lg o:ab}{j:Int}(h:Ru sp lg j o)(j0:0<=j)(hb:0<=ag lg j 0/\ag lg j 0<=32):Ru sp lg (j+1) (o++[[.i (ag lg j 0*16)]]):=by
 have e:=h.e;have l:=h.l;refine⟨?_,?_,?_⟩
 ·rw[Ii j0, <-Zj,hP, <-e];rfl
 ·rw[Ii j0, <-Zj];exact Jw h.b (RH Uc)
 ·rw[Ii j0, <-Zj,Zh,Zp,Zt];omega
def adB {sp lg o:ab}{j:Int}(h:Ru sp lg j o)(h1:sp.length<=1073741824)(h2:j<=1073741824):Rw [tI] o/\o.length<=70368744177664:=by
 have l:=MP h;refine⟨?_,Uc⟩;have e:=h.e;have l2:=h.l;rw[e];exact wC (fun x hx=>by have:=h.b x hx;omega) Uc
def aaT {sp lg o:ab}{j:Int}(h:Ru sp lg j o)(j1:j<=lg.length)(j2:(lg.length:Int)<=j)(hl:layOk sp lg=true):srtL o=iaL sp lg:=by
 have ej:j.toNat=lg.length:=by omega
 have e:=h.e;rw[ej]at e;unfold iaL iaA;rw[VE hl, <-e]
def ahr {sp lg:ab}(hl:layOk sp lg=false):([]:ab)=iaL sp lg:=by unfold iaL;rw[hl];rfl
end Go.V
namespace Go.V
def zN:∀ {a b:List Int},a.Pairwise (· < ·)->b.Pairwise (· < ·)->(∀ x,x∈a↔x∈b)->a=b
 |[],[],_,_,_=>rfl
 |[],y::b,_,_,h=>by have:=(h y).2 (by simp);simp at this
 |x::a,[],_,_,h=>by have:=(h x).1 (by simp);simp at this
 | x::a,y::b,ha,hb,h=>by
   rw[List.pairwise_cons]at ha hb;have e:x=y:=by
    rcases Zk.1 ((h x).1 (by simp))with q|q;exact q
    ·rcases Zk.1 ((h y).2 (by simp))with r|r;exact r.symm
     ·have:=hb.1 x q;have:=ha.1 y r;omega
   subst e;rw[zN ha.2 hb.2 (fun z=>?_)]
   constructor
   ·intro m;rcases Zk.1 ((h z).1 (by simp[m]))with q|q
    ·have:=ha.1 z m;omega
    ·exact q
   ·intro m;rcases Zk.1 ((h z).2 (by simp[m]))with q|q
    ·have:=hb.1 z m;omega
    ·exact q
def sd {sp:ab}{x:Int}:∀ {n:Nat},x∈oQ sp n↔∃ i:Nat,i<n/\ag sp i 0=x
 |0=>by simp[oQ]
 | n+1=>by
   rw[oQ,Zg,sd,Yu]
   constructor
   ·rintro(⟨i,h,e⟩|rfl);exact⟨i,Uc,e⟩;exact⟨n,Uc,rfl⟩
   ·rintro⟨i,h,e⟩;by_cases c:i=n
    ·subst c;exact .inr e.symm
    ·exact .inl ⟨i,Uc,e⟩
def E9 {p x:Int}:∀ {n:Nat},x∈sj p n↔p<=x/\x<p+n
 |0=>⟨(fun h=>by cases h),(fun h=>absurd h Uc)⟩
 | n+1=>by
   rw[sj,Zg,E9,Yu];omega
def uQ {lg:ab}{x:Int}:∀ {n:Nat},x∈oP lg n↔∃ j:Nat,j<n/\ag lg j 0<=x/\x<ag lg j 0+(ag lg j 1).toNat
 |0=>by simp[oP]
 | n+1=>by
   rw[oP,Zg,uQ,E9]
   constructor
   ·rintro(⟨i,h,e⟩|h);exact⟨i,Uc,e⟩;exact⟨n,Uc,h⟩
   ·rintro⟨i,h,e⟩;by_cases c:i=n
    ·subst c;exact .inr e
    ·exact .inl ⟨i,Uc,e⟩
def OD {sp:ab}:∀ {n:Nat},(oQ sp n).Nodup->∀ i i':Nat,i<i'->i'<n->ag sp i 0≠ag sp i' 0
 |0,_,i,i',_,h=>by omega
 | n+1,hn,i,i',h1,h2=>by
   rw[oQ,Zu]at hn;by_cases c:i'=n
   ·subst c;exact hn.2.2 _ (sd.2 ⟨i,h1,rfl⟩) _ (by simp)
   ·exact OD hn.1 i i' h1 Uc
def M8 {lg:ab}:∀ {n:Nat},(oP lg n).Nodup->∀ (j j':Nat) (x:Int),j<j'->j'<n->ag lg j 0<=x->x<ag lg j 0+(ag lg j 1).toNat->ag lg j' 0<=x->x<ag lg j' 0+(ag lg j' 1).toNat->False
 |0,_,j,j',x,_,h,_,_,_,_=>by omega
 | n+1,hn,j,j',x,h1,h2,a,b,c,d=>by
   rw[oP,Zu]at hn;by_cases e:j'=n
   ·subst e;exact hn.2.2 x (uQ.2 ⟨j,h1,a,b⟩) x (E9.2 ⟨c,d⟩) rfl
   ·exact M8 hn.1 j j' x h1 Uc a b c d
structure LyF (sp lg:ab):Prop where
 s:∀ i:Nat,i<sp.length->spOk (ag sp i 0) (ag sp i 1) (ag sp i 2)=true
 l:∀ j:Nat,j<lg.length->lgOk (ag lg j 0) (ag lg j 1) (ag lg j 2)=true
 ss:∀ i i':Nat,i<sp.length->i'<sp.length->ag sp i 0=ag sp i' 0->i=i'
 sl:∀ i j:Nat,i<sp.length->j<lg.length->ag lg j 0<=ag sp i 0->ag sp i 0<ag lg j 0+ag lg j 1->False
 ll:∀ (j j':Nat) (x:Int),j<lg.length->j'<lg.length->ag lg j 0<=x->x<ag lg j 0+ag lg j 1->ag lg j' 0<=x->x<ag lg j' 0+ag lg j' 1->j=j'
def lyF {sp lg:ab}(h:layOk sp lg=true):LyF sp lg:=by
 obtain⟨h1,h2,h3⟩:=M6 h;unfold BA at h3;rw[Zu]at h3;have n0:∀ j:Nat,j<lg.length->((ag lg j 1).toNat:Int)=ag lg j 1:=fun j hj=>by
  have t:=oE (h2 j Uc Uc);have b:=ng t.1;omega
 refine⟨fun i hi=>h1 i Uc Uc,fun j hj=>h2 j Uc Uc,fun i i' a b e=>?_,fun i j a b c d=>?_,fun j j' x a b c d e f=>?_⟩
 ·rcases Xx i i' with q|q|q;exact absurd e (OD h3.1 i i' q b);exact q;exact absurd e.symm (OD h3.1 i' i q a)
 ·exact h3.2.2 _ (sd.2 ⟨i,a,rfl⟩) _ (uQ.2 ⟨j,b,c,by rw[n0 j b];exact d⟩) rfl
 ·rcases Xx j j' with q|q|q;exact(M8 h3.2.1 j j' x q b c (by rw[n0 j a];exact d) e (by rw[n0 j' b];exact f)).elim;exact q;exact(M8 h3.2.1 j' j x q a e (by rw[n0 j' b];exact f) c (by rw[n0 j a];exact d)).elim
def qR {p k b s:Int}(h:spOk p k b=true)(h0:0<=s)(h1:s<slN k):aaI p k b s=p*16+s*clsSz k/\0<=s*clsSz k/\s*clsSz k+clsSz k<=16/\1<=clsSz k:=by
 have t:=mT h;have c:=lW t.2.2.1;have a:aaB p k b s=true:=by unfold aaB;rw[h,bz.2 ⟨h0,Uc⟩];rfl
 have m0:0<=s*clsSz k:=X0 h0 Uc;have m1:(s+1)*clsSz k<=slN k*clsSz k:=Xk Uc Uc;rw[Wz]at m1;unfold aaI;rw[VE a];exact⟨rfl,m0,Uc,Uc⟩
def zt {sp:ab}{i x:Int}:∀ {n:Nat},x∈F3 sp i n↔∃ k:Nat,k<n/\hsB (ag sp i 2) k=true/\x=aaI (ag sp i 0) (ag sp i 1) (ag sp i 2) k
 |0=>by simp[F3]
 | n+1=>by
   rw[F3,Zg,zt]
   constructor
   ·rintro(⟨k,h,e⟩|h);exact⟨k,Uc,e⟩
    ·by_cases c:hsB (ag sp i 2) n=true
     ·rw[VE c,Yu]at h;exact⟨n,Uc,c,h⟩
     ·rw[VF c]at h;simp at h
   ·rintro⟨k,h,c,e⟩;by_cases q:k=n
    ·subst q;rw[VE c];exact .inr (by simp[e])
    ·exact .inl ⟨k,Uc,c,e⟩
def zu {sp:ab}{x:Int}:∀ {n:Nat},x∈EY sp n↔∃ i k:Nat,i<n/\k<(slN (ag sp i 1)).toNat/\hsB (ag sp i 2) k=true/\x=aaI (ag sp i 0) (ag sp i 1) (ag sp i 2) k
 |0=>by simp[EY]
 | n+1=>by
   rw[EY,Zg,zu,zt]
   constructor
   ·rintro(⟨i,k,h,e⟩|⟨k,h⟩);exact⟨i,k,Uc,e⟩;exact⟨n,k,Uc,h⟩
   ·rintro⟨i,k,h,e⟩;by_cases q:i=n
    ·subst q;exact .inr ⟨k,e⟩
    ·exact .inl ⟨i,k,Uc,e⟩
def zq {lg:ab}{x:Int}:∀ {n:Nat},x∈HJ lg n↔∃ j:Nat,j<n/\x=ag lg j 0*16
 |0=>by simp[HJ]
 | n+1=>by
   rw[HJ,Zg,zq,Yu]
   constructor
   ·rintro(⟨i,h,e⟩|h);exact⟨i,Uc,e⟩;exact⟨n,Uc,h⟩
   ·rintro⟨i,h,e⟩;by_cases q:i=n
    ·subst q;exact .inr e
    ·exact .inl ⟨i,Uc,e⟩
def Ij {sp:ab}{i:Nat}(h:spOk (ag sp i 0) (ag sp i 1) (ag sp i 2)=true):∀ {n:Nat},n<=(slN (ag sp i 1)).toNat->(F3 sp i n).Nodup
 |0,_=>ZL
 | n+1,hn=>by
   rw[F3];by_cases c:hsB (ag sp i 2) n=true
   ·rw[VE c];refine nD (Ij h Uc) (fun m=>?_);obtain⟨k,k1,_,k3⟩:=zt.1 m;have a:=qR (s:=(n:Int)) h Uc Uc;have b:=qR (s:=(k:Int)) h Uc Uc;have q:((k:Int)+1)*clsSz (ag sp i 1)<=(n:Int)*clsSz (ag sp i 1):=Xk Uc Uc;rw[Wz]at q;omega
   ·rw[VF c,List.append_nil];exact Ij h Uc
def ML {sp lg:ab}(F:LyF sp lg):∀ {n:Nat},n<=sp.length->(EY sp n).Nodup
 |0,_=>ZL
 | n+1,hn=>by
   rw[EY,Zu];refine⟨ML F Uc,Ij (F.s n Uc) (Zf _),fun x hx y hy e=>?_⟩;subst e;obtain⟨i,k,i1,k1,_,e1⟩:=zu.1 hx;obtain⟨k',k2,_,e2⟩:=zt.1 hy;have a:=qR (s:=(k:Int)) (F.s i Uc) Uc Uc;have b:=qR (s:=(k':Int)) (F.s n Uc) Uc Uc;have:=F.ss i n Uc Uc Uc;omega
def MJ {sp lg:ab}(F:LyF sp lg):∀ {n:Nat},n<=lg.length->(HJ lg n).Nodup
 |0,_=>ZL
 | n+1,hn=>by
   rw[HJ];refine nD (MJ F Uc) (fun m=>?_);obtain⟨j,j1,e⟩:=zq.1 m;have t:=oE (F.l j Uc);have b:=ng t.1;have t':=oE (F.l n Uc);have b':=ng t'.1;have:=F.ll j n (ag lg j 0) Uc Uc Uc Uc Uc Uc;omega
def aaP {sp lg:ab}(F:LyF sp lg):(iaA sp lg).Nodup:=by
 unfold iaA;rw[Zu];refine⟨ML F (Zf _),MJ F (Zf _),fun x hx y hy e=>?_⟩;subst e;obtain⟨i,k,i1,k1,_,e1⟩:=zu.1 hx;obtain⟨j,j1,e2⟩:=zq.1 hy;have a:=qR (s:=(k:Int)) (F.s i Uc) Uc Uc;have t:=oE (F.l j Uc);have b:=ng t.1;exact F.sl i j i1 j1 Uc Uc
end Go.V
namespace Go.V
def pP {p:Int->Bool}{n:Nat}(h:0<=cK p n):cK p n<n/\p (cK p n)=true:=by
 refine⟨by rcases uB (p:=p) (n:=n)with q|q<;>omega,?_⟩;unfold cK at h ⊢;split at h
 ·rename_i j e;have q:=List.find?_some e;exact q
 ·omega
def uC {p:Int->Bool}{n i:Nat}(h:i<n)(hp:p i=true):0<=cK p n:=by
 unfold cK;split;omega
 ·rename_i e;rw[List.find?_eq_none]at e;exact absurd hp (e i (Z7.2 h))
def Og {sp:ab}{a i:Int}:Fw sp a i=true↔HO (ag sp i 0) (ag sp i 1) (ag sp i 2) a=true:=by
 unfold Fw;rw[VD]
 constructor
 ·intro h;cases c:HO (ag sp i 0) (ag sp i 1) (ag sp i 2) a with
  |true=>rfl
  |false=>rw[(D1 c).1]at h;omega
 ·intro h;obtain⟨h1,h2,h3⟩:=G9.1 h;have cb:=lW (mT h1).2.2.1;rw[(BL h).1];exact XY Uc Uc
def lvP (sp lg:ab)(x:Int):Prop:=(∃ i k:Nat,i<sp.length/\k<(slN (ag sp i 1)).toNat/\hsB (ag sp i 2) k=true/\x=aaI (ag sp i 0) (ag sp i 1) (ag sp i 2) k)\/∃ j:Nat,j<lg.length/\x=ag lg j 0*16
def J9 {sp lg:ab}{x:Int}:x∈iaA sp lg↔lvP sp lg x:=by
 unfold iaA lvP;rw[Zg,zu,zq]
def ac0 {sp lg:ab}{a:Int}(h:0<=pp sp a):dnK sp lg a=(if hsB (ag sp (pp sp a) 2) (O6 sp a (pp sp a))then 1 else 2)/\dnO sp lg a=soA sp a (pp sp a):=by
 unfold dnK dnO;rw[VE h,VE h];exact⟨rfl,rfl⟩
def acZ {sp lg:ab}{a:Int}(h:¬ 0<=pp sp a)(g:0<=CZ lg a):dnK sp lg a=3/\dnO sp lg a=loA lg a (CZ lg a):=by
 unfold dnK dnO;rw[VF h,VF h,VE g,VE g];exact⟨rfl,rfl⟩
def ag8 {sp lg:ab}{a:Int}(h:¬ 0<=pp sp a)(g:¬ 0<=CZ lg a):dnK sp lg a=0/\dnO sp lg a=0:=by
 unfold dnK dnO;rw[VF h,VF h,VF g,VF g];exact⟨rfl,rfl⟩
def J4 {sp lg:ab}{a:Int}(hl:layOk sp lg=true):yQ sp lg a=true↔dnO sp lg a=0/\(dnK sp lg a=1\/dnK sp lg a=3):=by
 unfold yQ dzO dzK;rw[VE hl,VE hl];simp only[Zc,ZU,VD]
def SZ {sp lg:ab}{x:Int}(F:LyF sp lg)(hl:layOk sp lg=true)(h:yQ sp lg x=true):lvP sp lg x:=by
 obtain⟨h1,h2⟩:=(J4 hl).1 h;by_cases c:0<=pp sp x
 ·obtain⟨d1,d2⟩:=ac0 (lg:=lg) c;obtain⟨b,q⟩:=pP c;change pp sp x<sp.length at b;change Fw sp x (pp sp x)=true at q;rw[d1]at h2;rw[d2]at h1;generalize hF:pp sp x=f at*;obtain⟨f,rfl⟩:=Yc c;have bf:f<sp.length:=by omega
  have q':=Og.1 q;obtain⟨a1,a2,a3⟩:=G9.1 q';obtain⟨e1,e2⟩:=BL q';have cb:=lW (mT a1).2.2.1;have hh:hsB (ag sp f 2) (O6 sp x f)=true:=by
   cases c:hsB (ag sp f 2) (O6 sp x f)with
   |true=>rfl
   |false=>rw[c]at h2;simp at h2
  unfold soA at h1;rw[e2]at h1;unfold O6 at hh;rw[e1]at hh;have dv:clsSz (ag sp f 1)*((x-ag sp f 0*16)/clsSz (ag sp f 1))=x-ag sp f 0*16:=Int.mul_ediv_cancel_of_emod_eq_zero h1;have nn:0<=(x-ag sp f 0*16)/clsSz (ag sp f 1):=XY Uc Uc;generalize hs:(x-ag sp f 0*16)/clsSz (ag sp f 1)=s at*;have lt:s<slN (ag sp f 1):=by
   by_cases w:s<slN (ag sp f 1);exact w
   ·have m:slN (ag sp f 1)*clsSz (ag sp f 1)<=s*clsSz (ag sp f 1):=Xk Uc Uc;rw[X1 s]at m;omega
  obtain⟨s,rfl⟩:=Yc nn;have ae:=qR a1 nn lt;refine .inl ⟨f,s,bf,Uc,hh,?_⟩;have ae1:=ae.1;rw[X1 (s:Int)]at ae1;show x=aaI (ag sp f 0) (ag sp f 1) (ag sp f 2) s;rw[ae1];omega
 ·by_cases g:0<=CZ lg x
  ·obtain⟨d1,d2⟩:=acZ c g;obtain⟨b,q⟩:=pP g;change CZ lg x<lg.length at b;change GO lg x (CZ lg x)=true at q;rw[d2]at h1;generalize hF:CZ lg x=f at*;obtain⟨f,rfl⟩:=Yc g;refine .inr ⟨f,Uc,?_⟩;unfold loA loI at h1;unfold GO at q;rw[VE q]at h1;show x=ag lg f 0*16;omega
  ·obtain⟨d1,d2⟩:=ag8 c g;rw[d1]at h2;omega
def Sn {sp lg:ab}{x:Int}(h:0<=pp sp x):∃ f:Nat,pp sp x=f/\f<sp.length/\HO (ag sp f 0) (ag sp f 1) (ag sp f 2) x=true:=by
 obtain⟨b,q⟩:=pP h;obtain⟨f,e⟩:=Yc h;refine⟨f,e,?_,?_⟩
 ·have:pp sp x<sp.length:=b;rw[e]at this;exact Int.ofNat_lt.1 this
 ·have:Fw sp x (pp sp x)=true:=q;rw[e]at this;exact Og.1 this
def aeb {sp lg:ab}{x:Int}(F:LyF sp lg)(hl:layOk sp lg=true)(h:lvP sp lg x):yQ sp lg x=true:=by
 rw[J4 hl];rcases h with⟨i,k,i1,k1,hh,e⟩|⟨j,j1,e⟩
 ·have a1:=F.s i i1;have cb:=lW (mT a1).2.2.1;have ae:=qR (s:=(k:Int)) a1 Uc Uc;have sb:HO (ag sp i 0) (ag sp i 1) (ag sp i 2) x=true:=G9.2 ⟨a1,Uc,Uc⟩;have c:0<=pp sp x:=uC i1 (Og.2 sb);obtain⟨f,e1,f1,f2⟩:=Sn (lg:=lg) c;obtain⟨_,g2,g3⟩:=G9.1 f2;have:f=i:=F.ss f i f1 i1 Uc;subst this;obtain⟨d1,d2⟩:=ac0 (lg:=lg) c;rw[d1,d2,e1];obtain⟨y1,y2⟩:=BL sb;have xe:x-ag sp f 0*16=k*clsSz (ag sp f 1):=by omega
  unfold O6 soA;rw[y1,y2,xe,Int.mul_ediv_cancel _ Uc,VE hh];exact⟨Int.mul_emod_left _ _,.inl rfl⟩
 ·have t:=oE (F.l j j1);have b:=ng t.1;have r:=bz.1 t.1;have c:¬ 0<=pp sp x:=fun c=>by
   obtain⟨f,e1,f1,f2⟩:=Sn (lg:=lg) c;obtain⟨_,g2,g3⟩:=G9.1 f2;exact F.sl f j f1 j1 Uc Uc
  have lb:lhB (ag lg j 0) (ag lg j 1) (ag lg j 2) x=true:=abq.2 ⟨F.l j j1,Uc,Uc⟩;have g:0<=CZ lg x:=uC j1 (show GO lg x j=true from lb);obtain⟨d1,d2⟩:=acZ c g;obtain⟨b1,q⟩:=pP g;change CZ lg x<lg.length at b1;change GO lg x (CZ lg x)=true at q;rw[d1,d2];generalize hF:CZ lg x=f at*;obtain⟨f,rfl⟩:=Yc g;have f1:f<lg.length:=by omega
  have q':lhB (ag lg f 0) (ag lg f 1) (ag lg f 2) x=true:=q;obtain⟨_,u1,u2⟩:=abq.1 q';have t2:=oE (F.l f f1);have b2:=ng t2.1;have:f=j:=F.ll f j (ag lg j 0) f1 j1 Uc Uc Uc Uc;subst this;refine⟨?_,.inr rfl⟩;show loI (ag lg f 0) (ag lg f 1) (ag lg f 2) x=0;unfold loI;rw[VE lb];omega
def SY (sp lg:ab):Nat->List Int
 |0=>[]
 |n+1=>SY sp lg n++(if yQ sp lg n then[(n:Int)]else[])
def Bj {sp lg:ab}:∀ n:Nat,O4 sp lg n=jd (SY sp lg n)
 |0=>rfl
 | n+1=>by
   rw[O4,SY,hP,Bj n];by_cases c:yQ sp lg n=true
   ·rw[VE c,VE c];rfl
   ·rw[VF c,VF c];rfl
def uR {sp lg:ab}{x:Int}:∀ {n:Nat},x∈SY sp lg n↔0<=x/\x<n/\yQ sp lg x=true
 |0=>⟨(fun h=>by cases h),(fun h=>absurd h.2.1 Uc)⟩
 | n+1=>by
   rw[SY,Zg,uR]
   constructor
   ·rintro(h|h);exact⟨h.1,Uc,h.2.2⟩
    ·by_cases c:yQ sp lg n=true
     ·rw[VE c,Yu]at h;subst h;exact⟨Uc,Uc,c⟩
     ·rw[VF c]at h;cases h
   ·rintro⟨h1,h2,h3⟩;by_cases q:x=n
    ·subst q;rw[VE h3];exact .inr (by simp)
    ·exact .inl ⟨h1,Uc,h3⟩
def IW {sp lg:ab}:∀ n:Nat,(SY sp lg n).Pairwise (· < ·)
 |0=>Vo
 | n+1=>by
   rw[SY,List.pairwise_append];refine⟨IW n,?_,fun a ha b hb=>?_⟩
   ·by_cases c:yQ sp lg n=true
    ·rw[VE c];simp
    ·rw[VF c];simp
   ·have m:=uR.1 ha;by_cases c:yQ sp lg n=true
    ·rw[VE c,Yu]at hb;omega
    ·rw[VF c]at hb;cases hb
def QG {l:List Int}(h:l.Nodup):(l.mergeSort fun x y=>decide (x<=y)).Pairwise (· < ·):=by
 have p:=List.pairwise_mergeSort (le:=fun x y:Int=>decide (x<=y)) (fun a b c h1 h2=>by simp only[VD]at*;omega) (fun a b=>by simp only[ZU,VD];omega) l;have n:(l.mergeSort fun x y=>decide (x<=y)).Nodup:=(WA l _).nodup_iff.2 h;refine Vp (R:=fun a b=>decide (a<=b)=true) (S:=(· ≠ ·)) (T:=(· < ·)) (fun a b h1 h2=>?_) p n;simp only[VD]at h1;omega
def Ql {sp lg:ab}:iaL sp lg=laL sp lg:=by
 unfold iaL laL;by_cases hl:layOk sp lg=true
 ·rw[VE hl,VE hl];have F:=lyF hl;unfold srtL;rw[Il,Bj];refine congrArg jd (zN (QG (aaP F)) (IW 512) (fun x=>?_));rw[(WA _ _).mem_iff,J9,uR]
  constructor
  ·intro h;have v:=aeb F hl h;refine⟨?_,?_,v⟩
   ·rcases h with⟨i,k,i1,k1,_,e⟩|⟨j,j1,e⟩
    ·have ae:=qR (s:=(k:Int)) (F.s i i1) Uc Uc;have t:=mT (F.s i i1);omega
    ·have t:=oE (F.l j j1);omega
   ·rcases h with⟨i,k,i1,k1,_,e⟩|⟨j,j1,e⟩
    ·have ae:=qR (s:=(k:Int)) (F.s i i1) Uc Uc;have t:=mT (F.s i i1);omega
    ·have t:=oE (F.l j j1);have b:=ng t.1;omega
  ·rintro⟨_,_,h⟩;exact SZ F hl h
 ·rw[VF hl,VF hl]
end Go.V
namespace Go.V
def C5 (qs:ab)(a j:Int):Bool:=eqB (ag qs j 0) a
def qtI (qs:ab)(a:Int):Int:=cK (C5 qs a) qs.length
def qtB (qs:ab)(a:Int):Bool:=decide (0<=qtI qs a)
def ab5 {qs:ab}{a i:Int}(h:upto (cY (C5 qs a)) i)(h0:0<=i)(h1:i<qs.length)(e:ag qs i 0=a):qtB qs a=true:=by
 unfold qtB qtI;rw[gx h h0 h1 (Gw e)];exact VB h0
def afA {qs:ab}{a i:Int}(h:upto (cY (C5 qs a)) i)(h1:(qs.length:Int)<=i):qtB qs a=false:=by
 unfold qtB qtI;rw[fK h h1];rfl
end Go.V
namespace Go.V
structure NsL (ls:ab):Prop where
 w:Rw [.sl [tI]] ls
 l:ls.length<=1099511627776
 n:∀ i:Int,(aw ls i 0).length<=1099511627776
def NsL.el {ls:ab}(h:NsL ls){i:Int}(h0:0<=i)(h1:i<ls.length):Rw [tI] (aw ls i 0)/\(aw ls i 0).length<=1099511627776:=
 ⟨Rw.sub (fs:=[.sl [tI]]) h.w Uc rfl,h.n i⟩
end Go.V
namespace Go.V
def Le (b:ab)(i k:Int):Bool:=inR (ag (aw b i 0) k 0) 0 ((b.length:Int)-1)&&decide (0<=ag (aw b i 0) k 1)
def LR (x:ab)(i k:Int):Bool:=decide (0<=ag (aw x i 0) k 0)
def rOk (b x:ab)(i:Int):Bool:=cC (Le b i) (aw b i 0).length&&cC (LR x i) (aw x i 0).length
def Qt (b x:ab):Nat->Int
 |0=>0
 |n+1=>Qt b x n+((aw b n 0).length+(aw x n 0).length)
def mailOk (b x:ab):Bool:=inR b.length 1 4&&(decide (x.length=b.length)&&(cC (rOk b x) b.length&&decide (Qt b x b.length<=30)))
structure OZ (b x:ab):Prop where
 bw:Rw [.sl [tI,tI]] b
 xw:Rw [.sl [tI]] x
 bl:b.length<=1099511627776
 xl:x.length<=1099511627776
 bn:∀ i:Int,(aw b i 0).length<=1099511627776
 xn:∀ i:Int,(aw x i 0).length<=1099511627776
def Tc {b x:ab}(h:OZ b x):∀ n:Nat,0<=Qt b x n/\Qt b x n<=2199023255552*n
 |0=>⟨Yh _,Yh _⟩
 | n+1=>by
   have q:=Tc h n;have p1:=h.bn n;have p2:=h.xn n;rw[Qt];omega
structure Ph (b x:ab)(i t:Int):Prop where
 ok:upto (rOk b x) i
 t:t=Qt b x i.toNat
def ahV {b x:ab}:Ph b x 0 0:=⟨bI,rfl⟩
def aeo {b x:ab}{i t:Int}(N:OZ b x)(h:Ph b x i t)(i0:0<=i)(i1:i<=4):0<=t/\t<=8796093022208:=by
 have q:=Tc N i.toNat;have e:=h.t;omega
def aep {b x:ab}{i t k j:Int}(h:Ph b x i t)(i0:0<=i)(hp:upto (Le b i) k)(k1:((aw b i 0).length:Int)<=k)(ha:upto (LR x i) j)(j1:((aw x i 0).length:Int)<=j):Ph b x (i+1) (t+((aw b i 0).length+(aw x i 0).length)):=by
 refine⟨bu h.ok ?_,?_⟩
 ·unfold rOk;rw[bJ hp k1,bJ ha j1];rfl
 ·rw[show(i+1).toNat=i.toNat+1 from by omega,Qt, <-h.t,Zo i0]
def abD {b x:ab}(h:inR b.length 1 4=false):mailOk b x=false:=by unfold mailOk;rw[h];rfl
def abE {b x:ab}(h:(x.length:Int)≠b.length):mailOk b x=false:=by
 unfold mailOk;rw[VC (p:=x.length=b.length) Uc];simp
def S8 {b x:ab}{i:Int}(i0:0<=i)(i1:i<b.length)(h:rOk b x i=false):mailOk b x=false:=by
 unfold mailOk;rw[bV i0 i1 h];simp
def Nr {b x:ab}{i k:Int}(i0:0<=i)(i1:i<b.length)(k0:0<=k)(k1:k<(aw b i 0).length)(h:Le b i k=false):mailOk b x=false:=
 S8 i0 i1 (by unfold rOk;rw[bV k0 k1 h];rfl)
def abF {b x:ab}{i k:Int}(i0:0<=i)(i1:i<b.length)(k0:0<=k)(k1:k<(aw x i 0).length)(h:LR x i k=false):mailOk b x=false:=
 S8 i0 i1 (by unfold rOk;rw[bV k0 k1 h,Z3])
def abC {b x:ab}{i t:Int}(h:Ph b x i t)(h1:inR b.length 1 4=true)(h2:(x.length:Int)=b.length)(i1:i<=b.length)(i2:(b.length:Int)<=i):mailOk b x=decide (t<=30):=by
 have e:i.toNat=b.length:=by omega
 have q:=h.t;rw[e]at q;unfold mailOk;rw[h1,VB (p:=x.length=b.length) Uc,bJ h.ok i2, <-q];rfl
def ae5 {b:ab}{i k:Int}(h:inR (ag (aw b i 0) k 0) 0 ((b.length:Int)-1)=false):Le b i k=false:=by unfold Le;rw[h];rfl
def ae6 {b:ab}{i k:Int}(h:ag (aw b i 0) k 1<0):Le b i k=false:=by unfold Le;rw[VC Uc,Z3]
def ae7 {b:ab}{i k:Int}(h:inR (ag (aw b i 0) k 0) 0 ((b.length:Int)-1)=true)(g:0<=ag (aw b i 0) k 1):Le b i k=true:=by unfold Le;rw[h,VB g];rfl
def agY {x:ab}{i k:Int}(h:ag (aw x i 0) k 0<0):LR x i k=false:=by unfold LR;rw[VC Uc]
def acJ {x:ab}{i k:Int}(h:0<=ag (aw x i 0) k 0):LR x i k=true:=by unfold LR;rw[VB h]
end Go.V
namespace Go.V
def Sf (b:ab)(i:Int):Nat->ab
 |0=>[]
 |n+1=>Sf b i n++[[.i (ag (aw b i 0) n 1)]]
def Ms (b:ab):Nat->ab
 |0=>[]
 |n+1=>Ms b n++Sf b n (aw b n 0).length
def KZ (x:ab):Nat->ab
 |0=>[]
 |n+1=>KZ x n++aw x n 0
def ifL (b x:ab):ab:=if mailOk b x then Ms b b.length++KZ x x.length else[]
def abG {b x:ab}(h:mailOk b x=true):b.length<=4/\x.length=b.length:=by
 unfold mailOk at h;simp only[Zc,VD,bz]at h;omega
structure Rp (b:ab)(i:Int)(o:ab):Prop where
 e:o=Ms b i.toNat
 l:o.length<=1099511627776*i.toNat
structure Rq (b:ab)(i k:Int)(o:ab):Prop where
 e:o=Ms b i.toNat++Sf b i k.toNat
 l:o.length<=1099511627776*i.toNat+k.toNat
structure Rr (b x:ab)(j:Int)(o:ab):Prop where
 e:o=Ms b b.length++KZ x j.toNat
 l:o.length<=1099511627776*b.length+1099511627776*j.toNat
def aha {b:ab}:Rp b 0 []:=⟨rfl,Ze _⟩
def ahb {b o:ab}{i:Int}(h:Rp b i o):Rq b i 0 o:=⟨by rw[h.e];simp[Sf],by have:=h.l;omega⟩
def ac4 {b o:ab}{i k:Int}(h:Rq b i k o)(k0:0<=k):Rq b i (k+1) (o++[[.i (ag (aw b i 0) k 1)]]):=by
 have l:=h.l;have e:=h.e;refine⟨?_,?_⟩
 ·rw[show(k+1).toNat=k.toNat+1 from by omega,Sf,Zo k0, <-Zj, <-e]
 ·rw[Zh,Zp,Zt];omega
def aau {b o:ab}{i k:Int}(h:Rq b i k o)(i0:0<=i)(hn:(aw b i 0).length<=1099511627776)(k1:k<=((aw b i 0).length:Int))(k2:((aw b i 0).length:Int)<=k):Rp b (i+1) o:=by
 have l:=h.l;have e:=h.e;have ek:k.toNat=(aw b i 0).length:=by omega
 refine⟨?_,Uc⟩;rw[show(i+1).toNat=i.toNat+1 from by omega,Ms,Zo i0, <-ek];exact e
def ahc {b x o:ab}{i:Int}(h:Rp b i o)(i1:i<=b.length)(i2:(b.length:Int)<=i):Rr b x 0 o:=by
 have l:=h.l;have e:=h.e;have ei:i.toNat=b.length:=by omega
 rw[ei]at e l;exact⟨by rw[e];simp[KZ],Uc⟩
def ac7 {b x o:ab}{j:Int}(h:Rr b x j o)(j0:0<=j)(hn:(aw x j 0).length<=1099511627776):Rr b x (j+1) (o++aw x j 0):=by
 have l:=h.l;have e:=h.e;refine⟨?_,?_⟩
 ·rw[show(j+1).toNat=j.toNat+1 from by omega,KZ,Zo j0, <-Zj, <-e]
 ·rw[Zh];omega
def aaA {b x o:ab}{j:Int}(h:Rr b x j o)(hm:mailOk b x=true)(j1:j<=x.length)(j2:(x.length:Int)<=j):o=ifL b x:=by
 have e:=h.e;rw[show j.toNat=x.length from by omega]at e;unfold ifL;rw[VE hm];exact e
def ahu {b x:ab}(hm:mailOk b x=false):([]:ab)=ifL b x:=by unfold ifL;rw[hm];rfl
end Go.V
namespace Go.V
structure NsC (cs:ab):Prop where
 w:Rw [.sl [.sl [tI]]] cs
 l:cs.length<=1099511627776
 n:∀ i:Int,0<=i->i<cs.length->NsL (aw cs i 0)
end Go.V
namespace Go.V
def Dh:∀ {fs:List Ty} {e:ax} {j:Nat},bW fs e->fs[j]?=some tI->∃ n,e[j]?=some (.i n)/\ -9223372036854775808<=n/\n<=9223372036854775807
 |[],_,j,_,h=>by simp at h
 |_::_,[],j,h,_=>h.elim
 | t::ts,l::ls,0,h,e=>by
   simp at e;subst e;have h1:=h.1;cases l with
   | v x=>cases x with
     |int k n=>simp only[dn]at h1;exact⟨n,by simp[h1.1],yP h1.2⟩
     |_=>simp[dn]at h1
   |_=>simp[dn]at h1
 | t::ts,l::ls,j+1,h,e=>by
   simp at e;obtain⟨n,h1,h2⟩:=Dh h.2 e;exact⟨n,by simpa using h1,h2⟩
def Dw {fs:List Ty}{es:ab}{i:Int}{j:Nat}(h:Rw fs es)(hj:fs[j]?=some tI)(h1:i.toNat<es.length): -9223372036854775808<=ag es i j/\ag es i j<=9223372036854775807:=by
 obtain⟨n,e,b⟩:=Dh (h.at h1) hj;unfold ag;rw[Zn (l:=es.getD i.toNat []),e];exact b
def acb {x:Int}(h: -9223372036854775808<=x/\x<=9223372036854775807):Rw [tI] [[.i x]]:=Rw.one (fs:=[tI]) ⟨⟨rfl,h⟩,trivial⟩
def obR (os:ab)(f:Nat):Nat->ab
 |0=>[]
 |n+1=>obR os f n++[[.i (ag os n f)]]
def clR (ls:ab):Nat->ab
 |0=>[]
 |n+1=>clR ls n++aw ls n 0
def ccR (cs:ab):Nat->ab
 |0=>[]
 |n+1=>ccR cs n++clR (aw cs n 0) (aw cs n 0).length
def Bd {es:ab}{n j:Nat}(h:n<es.length):au (aw es n j)<=dO (es.getD n []):=by
 unfold aw;rw[ZA];generalize es.getD n []=r;cases e:r[j]? with
 |none=>rw[Zn,e];exact Ze _
 | some l=>
   rw[Zn,e];have q:=JD e;cases l with
   |s sz es=>exact q
   |_=>exact Ze _
def pC {es:ab}{n:Nat}(h:n<es.length):bO (es.take (n+1))=bO (es.take n)+dO (es.getD n []):=by
 rw[fB (d:=[]) h,gK];simp[bO]
def Gr {es:ab}{n:Nat}:bO (es.take n)<=bO es:=by
 conv=>rhs;rw[<-ZR n es,gK]
 omega
def uE {b:ab}{i:Int}:∀ n,(Sf b i n).length=n
 |0=>rfl
 |n+1=>by rw[Sf,Zh,uE n];rfl
def NF {b x:ab}:∀ n:Nat,(((Ms b n).length+(KZ x n).length:Nat):Int)=Qt b x n
 |0=>rfl
 | n+1=>by
   have q:=NF (b:=b) (x:=x) n;rw[Qt,Ms,KZ,Zh,Zh,uE, <-q];omega
def Ik {b x:ab}:(ifL b x).length<=30:=by
 unfold ifL;by_cases c:mailOk b x=true
 ·rw[VE c,Zh];have t:=abG c;unfold mailOk at c;simp only[Zc,VD]at c;have q:=NF (b:=b) (x:=x) b.length;rw[t.2];omega
 ·rw[VF c];exact Ze _
def Mv {b x:ab}{i:Int}(h:OZ b x)(i0:0<=i)(i1:i<b.length):∀ n,n<=(aw b i 0).length->Rw [tI] (Sf b i n)
 |0,_=>Rw.nil
 | n+1,hn=>Rw.append (Mv h i0 i1 n Uc) (acb (Dw (fs:=[tI,tI]) (Rw.sub (fs:=[.sl [tI,tI]]) h.bw Uc rfl) rfl Uc)) (by
    have:=h.bn i;rw[uE];unfold maxLen;simp only[Zp,Zt];omega)
def Mt {b x:ab}(h:OZ b x)(hb:b.length<=4):∀ n,n<=b.length->Rw [tI] (Ms b n)/\(Ms b n).length<=n*1099511627776
 |0,_=>⟨Rw.nil,Ze _⟩
 | n+1,hn=>by
   obtain⟨q1,q2⟩:=Mt h hb n Uc;have l:=h.bn n;refine⟨Rw.append q1 (Mv h Uc Uc _ (Zf _)) (by rw[uE];unfold maxLen;omega),?_⟩;rw[Ms,Zh,uE];omega
def MA {b x:ab}(h:OZ b x)(hb:x.length<=4):∀ n,n<=x.length->Rw [tI] (KZ x n)/\(KZ x n).length<=n*1099511627776
 |0,_=>⟨Rw.nil,Ze _⟩
 | n+1,hn=>by
   obtain⟨q1,q2⟩:=MA h hb n Uc;have l:=h.xn n;refine⟨Rw.append q1 (Rw.sub (fs:=[.sl [tI]]) h.xw Uc rfl) (by unfold maxLen;omega),?_⟩;rw[KZ,Zh];omega
def MQ {b x:ab}(h:OZ b x):Rw [tI] (ifL b x):=by
 unfold ifL;by_cases c:mailOk b x=true
 ·rw[VE c];have t:=abG c;obtain⟨q1,l1⟩:=Mt h t.1 b.length (Zf _);obtain⟨q2,l2⟩:=MA h Uc x.length (Zf _);exact Rw.append q1 q2 (by unfold maxLen;omega)
 ·rw[VF c];exact Rw.nil
structure Pi (sp lg os cs b x qs:ab):Prop where
 sw:Rw [tI,tI,tI] sp
 lw:Rw [tI,tI,tI] lg
 ow:Rw [tI,tI,tI,tI] os
 cw:Rw [.sl [.sl [tI]]] cs
 qw:Rw [tI,tI,tI] qs
 m:OZ b x
 c:NsC cs
 sl:sp.length<=1073741824
 ll:lg.length<=1073741824
 ol:os.length<=1073741824
 ql:qs.length<=1073741824
 cl:au cs<=1073741824
structure O1P (os:ab)(i:Int)(o:ab):Prop where
 e:o=obR os 1 i.toNat
structure O2P (os cs:ab)(i:Int)(o:ab):Prop where
 e:o=obR os 1 os.length++ccR cs i.toNat
structure O3P (os cs:ab)(i k:Int)(o:ab):Prop where
 e:o=obR os 1 os.length++ccR cs i.toNat++clR (aw cs i 0) k.toNat
structure O4P (os cs qs:ab)(j:Int)(o:ab):Prop where
 e:o=obR os 1 os.length++ccR cs cs.length++obR qs 0 j.toNat
section
variable {sp lg os cs b x qs o: ab} {i k j: Int}
end
def P8 (e:ax):Int:=SX (e.getD 0 .g)
def Dx {l:ab}{a:Int}:hasB l a=true↔a∈l.map P8:=by
 rw[JL,ZO]
 constructor
 ·rintro⟨k,hk,e⟩;refine⟨l[k],Xl _,?_⟩;rw[<-e];unfold ag P8;rw[ZA,Zn (l:=l),Zr hk];rfl
 ·rintro⟨e,he,q⟩;obtain⟨k,hk,rfl⟩:=X2.1 he;refine⟨k,hk,?_⟩;rw[<-q];unfold ag P8;rw[ZA,Zn (l:=l),Zr hk];rfl
def P6 {l m:ab}{a:Int}:hasB (l++m) a=(hasB l a||hasB m a):=by
 refine ij ?_;rw[ZU,Dx,Dx,Dx,List.map_append,Zg]
def P7 {x a:Int}:hasB [[.i x]] a=true↔x=a:=by
 rw[Dx];show a∈[x]↔x=a;rw[Yu];exact⟨Eq.symm,Eq.symm⟩
def Dp {p:Int->Bool}{n:Nat}:0<=cK p n↔∃ k:Nat,k<n/\p k=true:=by
 constructor
 ·intro h;obtain⟨h1,h2⟩:=pP h;obtain⟨k,e⟩:=Yc h;rw[e]at h1 h2;exact⟨k,Uc,h2⟩
 ·rintro⟨k,h1,h2⟩;exact uC h1 h2
def flN (p:Int->Bool)(l:ab):Nat->ab
 |0=>[]
 |n+1=>flN p l n++(if p (ag l n 0)then[[.i (ag l n 0)]]else[])
structure aiN (p:Int->Bool)(l:ab)(i:Int)(o:ab):Prop where
 e:o=flN p l i.toNat
 l:o.length<=i.toNat
section
variable {p: Int -> Bool} {l o: ab} {i: Int}
end
def M4 {sp lg:ab}:(laL sp lg).length<=512:=by
 have k:∀ n,(O4 sp lg n).length<=n:=by
  intro n
  induction n with
  |zero=>exact Zf _
  |succ n ih=>rw[O4,Zh];split<;>simp<;>omega
 unfold laL;split;exact k 512;exact Ze _
def adY {sp lg:ab}:Rw [tI] (laL sp lg):=by
 unfold laL;by_cases c:layOk sp lg=true
 ·rw[VE c,Bj];refine wC (fun x hx=>?_) ?_
  ·have:=uR.1 hx;omega
  ·have q:=M4 (sp:=sp) (lg:=lg);unfold laL at q;rw[VE c,Bj,cq]at q;omega
 ·rw[VF c];exact Rw.nil
def DT {l:ab}{i:Int}(h:Rw [tI] l)(h0:0<=i)(h1:i<l.length):∃ rec o,bT (L.s 1 l) [(i.toNat,0)]=some (rec,o)/\o+[L.v (Zq ZG 0)].length<=rec.length/\Yp [L.v (Zq ZG 0)].length (YI o rec)=oB ah (L.s 1 l) [(i.toNat,0)] 0 [L.v (Zq ZG 0)]:=
 rM (z0:=[.i 0]) (z:=[.i 0]) h.wf Uc rfl (by decide)
def EU {es:ab}{i:Int}{j:Nat}:au (aw es i j)<=au es:=by
 by_cases c:i.toNat<es.length
 ·have q:=Bd (j:=j) c;rw[show aw es (i.toNat:Nat) j=aw es i j from by unfold aw;rw[ZA]]at q;have d:=pC c;have e:=Gr (es:=es) (n:=i.toNat+1);unfold au at q ⊢;omega
 ·have e:aw es i j=[]:=by
   unfold aw;rw[Zn (l:=es),List.getElem?_eq_none Uc];simp[LE]
  rw[e];exact Ze _
def abR {ls:ab}(h:Rw [.sl [tI]] ls)(hc:au ls<=1073741824):NsL ls:=by
 refine⟨h,by unfold au at hc;omega,fun i=>?_⟩;have:=EU (es:=ls) (i:=i) (j:=0);unfold au at this hc;omega
def abQ {cs:ab}(h:Rw [.sl [.sl [tI]]] cs)(hc:au cs<=1073741824):NsC cs:=by
 refine⟨h,by unfold au at hc;omega,fun i i0 i1=>abR (Rw.sub (fs:=[.sl [.sl [tI]]]) h Uc rfl) ?_⟩;exact Nat.le_trans EU hc
def abS {b x:ab}(hb:Rw [.sl [tI,tI]] b)(hx:Rw [.sl [tI]] x)(cb:au b<=1073741824)(cx:au x<=1073741824):OZ b x:=by
 refine⟨hb,hx,by unfold au at cb;omega,by unfold au at cx;omega,fun i=>?_,fun i=>?_⟩
 ·have:=EU (es:=b) (i:=i) (j:=0);unfold au at this cb;omega
 ·have:=EU (es:=x) (i:=i) (j:=0);unfold au at this cx;omega
end Go.V
namespace Go.V
def C9 {i:Int}(h:0<=i)(h1:i<=9223372036854775807):bK .sub Za i 1=i-1:=dp Uc
def wG {es:ab}{i:Int}:BO es (Int.toNat 0) (H9 i 0)=es.take i.toNat:=by simp[BO,H9]
def cmp_eq {a b:Int}:cM .eql a b=decide (a=b):=by unfold cM;by_cases c:a=b<;>simp[c]
def EK {a b:Int}:cM .neq a b=decide (a≠b):=by unfold cM;by_cases c:a=b<;>simp[c]
def rngIn (n a l:Int):Bool:=inR l 1 n&&inR a 0 (n-l)
def yS (n:Int)(rs:ab)(i:Int):Bool:=rngIn n (ag rs i 0) (ag rs i 1)&& !(decide (0<i)&&decide (ag rs i 0<=bK .add Za (ag rs (i-1) 0) (ag rs (i-1) 1)))
def rgOk (n:Int)(rs:ab):Bool:=cC (yS n rs) rs.length&&inR n 1 32
section
variable {n i: Int} {rs: ab}
def ab7 (i0:0<=i)(i1:i<rs.length)(h:rngIn n (ag rs i 0) (ag rs i 1)=false):rgOk n rs=false:=by
 unfold rgOk;rw[bV i0 i1 (by unfold yS;rw[h];rfl)];rfl
def ab8 (i0:0<=i)(i1:i<rs.length)(h:0<i)(g:ag rs i 0<=bK .add Za (ag rs (i-1) 0) (ag rs (i-1) 1)):rgOk n rs=false:=by
 unfold rgOk;rw[bV i0 i1 (by unfold yS;rw[VB h,VB g];simp)];rfl
def QN (h:rngIn n (ag rs i 0) (ag rs i 1)=true)(g:i<=0):yS n rs i=true:=by
 unfold yS;rw[h,VC Uc];rfl
def QO (h:rngIn n (ag rs i 0) (ag rs i 1)=true)(g:bK .add Za (ag rs (i-1) 0) (ag rs (i-1) 1)<ag rs i 0):yS n rs i=true:=by
 unfold yS;rw[h,VC (p:=ag rs i 0<=_) Uc];simp
def ab6 (h:upto (yS n rs) i)(g:(rs.length:Int)<=i):inR n 1 32=rgOk n rs:=by unfold rgOk;rw[bJ h g];rfl
end
def uK (rs:ab)(p j:Int):Bool:=decide (ag rs j 0<=p)&&decide (p<bK .add Za (ag rs j 0) (ag rs j 1))
def rhI (rs:ab)(p:Int):Int:=cK (uK rs p) rs.length
def rhB (rs:ab)(p:Int):Bool:=decide (0<=rhI rs p)
def rh1 (a l p:Int):Bool:=decide (a<=p)&&decide (p<bK .add Za a l)
def ab9 {rs:ab}{p i:Int}(h:upto (cY (uK rs p)) i)(h0:0<=i)(h1:i<rs.length)(a:ag rs i 0<=p)(b:p<bK .add Za (ag rs i 0) (ag rs i 1)):rhB rs p=true:=by
 unfold rhB rhI;rw[gx h h0 h1 (by unfold uK;rw[VB a,VB b];rfl)];exact VB h0
def afE {rs:ab}{p i:Int}(h:upto (cY (uK rs p)) i)(h1:(rs.length:Int)<=i):rhB rs p=false:=by
 unfold rhB rhI;rw[fK h h1];rfl
def afC {rs:ab}{p i:Int}(a:p<ag rs i 0):cY (uK rs p) i=true:=by unfold cY uK;rw[VC Uc];rfl
def afD {rs:ab}{p i:Int}(b:bK .add Za (ag rs i 0) (ag rs i 1)<=p):cY (uK rs p) i=true:=by unfold cY uK;rw[VC (p:=p<_) Uc];simp
def mshB (p1 k1 b1 p2 k2 b2:Int):Bool:=spOk p1 k1 b1&&(spOk p2 k2 b2&&(decide (k1=k2)&&(decide (p1≠p2)&&decide (bK .and Za b1 b2=0))))
def qcN (qs:ab):Nat->Int
 |0=>0
 |n+1=>qcN qs n+clsSz (ag qs n 1)
def qcI (qs:ab):Int:=qcN qs qs.length
def JB {k:Int}:0<=clsSz k/\clsSz k<=8:=by
 unfold clsSz;repeat' split
 all_goals omega
def TF {qs:ab}:∀ n:Nat,0<=qcN qs n/\qcN qs n<=8*n
 |0=>⟨Yh _,Yh _⟩
 |n+1=>by have q:=TF (qs:=qs) n;have c:=JB (k:=ag qs n 1);rw[qcN];omega
structure Pj (qs:ab)(i t:Int):Prop where
 e:t=qcN qs i.toNat
def aib {qs:ab}:Pj qs 0 0:=⟨rfl⟩
def aic {qs:ab}{i t:Int}(h:Pj qs i t)(i0:0<=i):0<=t/\t<=8*i:=by have q:=TF (qs:=qs) i.toNat;rw[<-h.e]at q;omega
def aft {qs:ab}{i t:Int}(h:Pj qs i t)(i0:0<=i)(i1:i<=1099511627776):Pj qs (i+1) (bK .add Za t (clsSz (ag qs i 1))):=by
 have b:=aic h i0;have c:=JB (k:=ag qs i 1);refine⟨?_⟩;rw[show bK .add Za t (clsSz (ag qs i 1))=t+clsSz (ag qs i 1)from bD Uc,show(i+1).toNat=i.toNat+1 from by omega,qcN, <-h.e,Zo i0]
def ab4 {qs:ab}{i t:Int}(h:Pj qs i t)(i1:i<=qs.length)(i2:(qs.length:Int)<=i):t=qcI qs:=by unfold qcI;rw[h.e,show i.toNat=qs.length from by omega]
def stlOk (b:ab)(a c s:Int):Bool:=inR c 0 3&&(decide (0<=a)&&(decide (0<=s)&&(!qtB b a&&(decide (b.length=0)||decide (ag b (b.length-1:Int) 2<=s)))))
def G0 (qs:ab)(i:Int):Bool:=stlOk (qs.take i.toNat) (ag qs i 0) (ag qs i 1) (ag qs i 2)
def quarOk (rm:Int)(qs:ab):Bool:=cC (G0 qs) qs.length&&(inR rm 0 500&&decide (qcI qs<=rm))
def staB (a c s:Int):Bool:=inR c 0 3&&(decide (0<=a)&&decide (0<=s))
def zm {es:ab}{n:Nat}{i:Int}{j:Nat}(h:i.toNat<n):ag (es.take n) i j=ag es i j:=by
 unfold ag;rw[Zn (l:=es.take n),List.getElem?_take,VE h,Zn (l:=es)]
section
variable {rm i: Int} {qs: ab}
def Kt (i0:0<=i)(i1:i<qs.length)(h:G0 qs i=false):quarOk rm qs=false:=by unfold quarOk;rw[bV i0 i1 h];rfl
def N8 (h:upto (G0 qs) i)(g:(qs.length:Int)<=i):quarOk rm qs=(inR rm 0 500&&decide (qcI qs<=rm)):=by unfold quarOk;rw[bJ h g];rfl
def afn (h:staB (ag qs i 0) (ag qs i 1) (ag qs i 2)=false):G0 qs i=false:=by
 unfold G0 stlOk;unfold staB at h
 revert h
 cases inR (ag qs i 1) 0 3<;>cases decide (0<=ag qs i 0)<;>cases decide (0<=ag qs i 2)<;>simp
def Ks (i0:0<i)(i1:i<qs.length):(decide ((qs.take i.toNat).length=0)||decide (ag (qs.take i.toNat) ((qs.take i.toNat).length-1:Int) 2<=ag qs i 2))=decide (ag qs (i-1) 2<=ag qs i 2):=by
 have e:(qs.take i.toNat).length=i.toNat:=by rw[Zm];omega
 rw[e,zm Uc,VC (p:=i.toNat=0) Uc,show((i.toNat:Nat):Int)-1=i-1 from by omega];rfl
def afo (i0:0<i)(i1:i<qs.length)(h:ag qs i 2<ag qs (i-1) 2):G0 qs i=false:=by
 unfold G0 stlOk;rw[Ks i0 i1,VC (p:=ag qs (i-1) 2<=ag qs i 2) Uc];simp
def afp (h:qtB (qs.take i.toNat) (ag qs i 0)=true):G0 qs i=false:=by unfold G0 stlOk;rw[h];simp
def afq (h:staB (ag qs i 0) (ag qs i 1) (ag qs i 2)=true)(g:qtB (qs.take i.toNat) (ag qs i 0)=false)(i0:0<=i)(z:i<=0):G0 qs i=true:=by
 unfold G0 stlOk;unfold staB at h;simp only[Zc]at h;have e:i=0:=by omega
 subst e;rw[h.1,h.2.1,h.2.2,g];rfl
def afs (h:staB (ag qs i 0) (ag qs i 1) (ag qs i 2)=true)(g:qtB (qs.take i.toNat) (ag qs i 0)=false)(i0:0<i)(i1:i<qs.length)(z:ag qs (i-1) 2<=ag qs i 2):G0 qs i=true:=by
 unfold G0 stlOk;unfold staB at h;simp only[Zc]at h;rw[Ks i0 i1,h.1,h.2.1,h.2.2,g,VB z];rfl
end
def za (ls:ab)(i:Int):Nat->List Int
 |0=>[]
 |n+1=>za ls i n++[ag (aw ls i 0) n 0]
def zd (ls:ab):Nat->List Int
 |0=>[]
 |n+1=>zd ls n++za ls n (aw ls n 0).length
def RL (ls:ab)(i k:Int):Bool:=inR (ag (aw ls i 0) k 0) 0 511&&decide (bK .rem Za (ag (aw ls i 0) k 0) (clsSz i)=0)
def caA (ls:ab)(i:Int):Bool:=decide ((aw ls i 0).length<=8)&&cC (RL ls i) (aw ls i 0).length
def caOk (ls:ab):Bool:=decide (ls.length=4)&&(cC (caA ls) 4&&decide ((zd ls 4).Nodup))
def zb {ls:ab}{i:Int}:∀ n,(za ls i n).length=n
 |0=>rfl
 |n+1=>by rw[za,Zh,zb n];rfl
def Jx {ls:ab}{i:Int}:∀ (m n:Nat),n<=m->∃ r,za ls i m=za ls i n++r
 |0,n,h=>⟨[],by rw[show n=0 from by omega];rfl⟩
 | m+1,n,h=>by
   by_cases c:n=m+1
   ·subst c;exact⟨[],by simp⟩
   ·obtain⟨r,e⟩:=Jx (ls:=ls) (i:=i) m n Uc;exact⟨r++[ag (aw ls i 0) m 0],by rw[za,e,Zj]⟩
def Jy {ls:ab}:∀ (m n:Nat),n<=m->∃ r,zd ls m=zd ls n++r
 |0,n,h=>⟨[],by rw[show n=0 from by omega];rfl⟩
 | m+1,n,h=>by
   by_cases c:n=m+1
   ·subst c;exact⟨[],by simp⟩
   ·obtain⟨r,e⟩:=Jy (ls:=ls) m n Uc;exact⟨r++za ls m (aw ls m 0).length,by rw[zd,e,Zj]⟩
def AZ {ls:ab}{i k:Int}(h:0<=k):za ls i (k+1).toNat=za ls i k.toNat++[ag (aw ls i 0) k 0]:=by
 rw[show(k+1).toNat=k.toNat+1 from by omega,za,Zo h]
def A0 {ls:ab}{i:Int}(h:0<=i):zd ls (i+1).toNat=zd ls i.toNat++za ls i (aw ls i 0).length:=by
 rw[show(i+1).toNat=i.toNat+1 from by omega,zd,Zo h]
structure CaP (ls:ab)(i:Int):Prop where
 ok:upto (caA ls) i
 nd:(zd ls i.toNat).Nodup
 l:i<=4
 b:∀ x∈zd ls i.toNat,0<=x/\x<=511
 n:(zd ls i.toNat).length<=8*i.toNat
structure CbP (ls:ab)(i k:Int):Prop where
 ok:upto (caA ls) i
 nd:(zd ls i.toNat++za ls i k.toNat).Nodup
 l:i<=3
 s:(aw ls i 0).length<=8
 bk:upto (RL ls i) k
 b:∀ x∈zd ls i.toNat++za ls i k.toNat,0<=x/\x<=511
 n:(zd ls i.toNat).length<=8*i.toNat
section
variable {ls: ab} {i k: Int}
def acK:CaP ls 0:=⟨bI,ZL,Uc,(fun x hx=>by cases hx),Ze _⟩
def acM (h:CaP ls i)(i0:0<=i)(c:inR i 0 3=true)(s:(aw ls i 0).length<=8):CbP ls i 0:=
 ⟨h.ok,by simpa[za]using h.nd,(bz.1 c).2,s,bI,by simpa[za]using h.b,h.n⟩
def RR (h:CbP ls i k)(k0:0<=k)(h1:inR (ag (aw ls i 0) k 0) 0 511=true)(h2:bK .rem Za (ag (aw ls i 0) k 0) (clsSz i)=0)(h3:ag (aw ls i 0) k 0∉zd ls i.toNat++za ls i k.toNat):CbP ls i (k+1):=by
 refine⟨h.ok,?_,h.l,h.s,bu h.bk (by unfold RL;rw[h1,VB h2];rfl),?_,h.n⟩
 ·rw[AZ k0, <-Zj];exact nD h.nd h3
 ·rw[AZ k0, <-Zj];intro x hx;rcases Zg.1 hx with q|q;exact h.b x q
  ·simp at q;subst q;exact bz.1 h1
def RO (h:CbP ls i k)(i0:0<=i)(k1:k<=((aw ls i 0).length:Int))(k2:((aw ls i 0).length:Int)<=k):CaP ls (i+1):=by
 have e:k.toNat=(aw ls i 0).length:=by omega
 have nd:=h.nd;have b:=h.b;have n:=h.n;have s:=h.s;have l:=h.l;rw[e, <-A0 i0]at nd b;refine⟨bu h.ok (by unfold caA;rw[VB h.s,bJ h.bk k2];rfl),nd,Uc,b,?_⟩;rw[A0 i0,Zh,zb];omega
def EH (h:(ls.length:Int)≠4):caOk ls=false:=by unfold caOk;rw[VC Uc];rfl
def RN (i0:0<=i)(l:i<=3)(h:caA ls i=false):caOk ls=false:=by unfold caOk;rw[bV (n:=4) i0 Uc h];simp
def Mc (i0:0<=i)(h:8<(aw ls i 0).length)(l:i<=3):caOk ls=false:=RN i0 l (by unfold caA;rw[VC Uc];rfl)
def EI (i0:0<=i)(l:i<=3)(k0:0<=k)(k1:k<(aw ls i 0).length)(h:RL ls i k=false):caOk ls=false:=RN i0 l (by unfold caA;rw[bV k0 k1 h,Z3])
def RP (h:inR (ag (aw ls i 0) k 0) 0 511=false):RL ls i k=false:=by unfold RL;rw[h];rfl
def RQ (h:bK .rem Za (ag (aw ls i 0) k 0) (clsSz i)≠0):RL ls i k=false:=by unfold RL;rw[VC h,Z3]
def Mb (i0:0<=i)(l:i<=3)(k0:0<=k)(k1:k<(aw ls i 0).length)(h:ag (aw ls i 0) k 0∈zd ls i.toNat++za ls i k.toNat):caOk ls=false:=by
 obtain⟨r,e⟩:=Jy (ls:=ls) 4 (i+1).toNat Uc;obtain⟨r2,e2⟩:=Jx (ls:=ls) (i:=i) (aw ls i 0).length (k+1).toNat Uc;rw[A0 i0,e2,AZ k0]at e;have:¬ (zd ls 4).Nodup:=dup (a:=zd ls i.toNat++za ls i k.toNat) (b:=r2++r) (x:=ag (aw ls i 0) k 0) (by rw[e];simp only[Zj];rfl) h;unfold caOk;rw[VC this];simp
def Md (h:CaP ls i)(h1:(ls.length:Int)=4)(i2:4<=i):caOk ls=true:=by
 have l:=h.l;have e:i=4:=by omega
 subst e;unfold caOk;rw[VB Uc,bJ h.ok Uc,VB (p:=(zd ls 4).Nodup) h.nd];rfl
def aak (h:CaP ls i)(i1:i<=ls.length)(i2:(ls.length:Int)<=i):decide ((ls.length:Int)=4)=caOk ls:=by
 by_cases c:(ls.length:Int)=4
 ·rw[Md h c Uc];exact VB c
 ·rw[EH c];exact VC c
end
structure ScP (ls:ab)(i:Int)(o:ab):Prop where
 p:CaP ls i
 e:o=jd (zd ls i.toNat)
structure RD (ls:ab)(i k:Int)(o:ab):Prop where
 p:CbP ls i k
 e:o=jd (zd ls i.toNat++za ls i k.toNat)
structure HR (ls:ab)(i:Int)(es:ab):Prop where
 p:CaP ls i
 s:sJ es (zd ls i.toNat)
structure HS (ls:ab)(i k:Int)(es:ab):Prop where
 p:CbP ls i k
 s:sJ es (zd ls i.toNat++za ls i k.toNat)
section
variable {ls o es: ab} {i k: Int}
def aiA:ScP ls 0 []:=⟨acK,rfl⟩
def aiB (h:ScP ls i o)(i0:0<=i)(i1:i<4)(s:(aw ls i 0).length<=8):RD ls i 0 o:=⟨acM h.p i0 (bz.2 Uc) s,by rw[h.e];simp[za]⟩
def afR (h:RD ls i k o)(k0:0<=k)(h1:inR (ag (aw ls i 0) k 0) 0 511=true)(h2:bK .rem Za (ag (aw ls i 0) k 0) (clsSz i)=0)(h3:hasB o (ag (aw ls i 0) k 0)=false):RD ls i (k+1) (o++[[.i (ag (aw ls i 0) k 0)]]):=by
 have e:=h.e;rw[e]at h3;refine⟨RR h.p k0 h1 h2 (zn h3),?_⟩;rw[AZ k0, <-Zj,hP, <-e];rfl
def afQ (h:RD ls i k o)(i0:0<=i)(k1:k<=((aw ls i 0).length:Int))(k2:((aw ls i 0).length:Int)<=k):ScP ls (i+1) o:=
 ⟨RO h.p i0 k1 k2,by rw[A0 i0,h.e,show k.toNat=(aw ls i 0).length from by omega]⟩
def acf (h:RD ls i k o)(i0:0<=i)(k0:0<=k)(k1:k<(aw ls i 0).length)(h3:hasB o (ag (aw ls i 0) k 0)=true):caOk ls=false:=by
 rw[h.e,rY]at h3;exact Mb i0 h.p.l k0 k1 h3
def acg (h:RD ls i k o)(k0:0<=k):o.length<=40+k.toNat/\Rw [tI] o:=by
 have n:=h.p.n;have l:=h.p.l;have s:=h.p.s;have q:o.length<=40+k.toNat:=by rw[h.e,cq,Zh,zb];omega
 refine⟨q,?_⟩;rw[h.e];have nd:=h.p.nd;refine wC (fun x hx=>by have:=h.p.b x hx;omega) ?_;rw[<-cq, <-h.e];have bd:k.toNat<=512\/512<k.toNat:=by omega
 rcases bd with bd|bd;omega
 ·exfalso;have c:=WB (l₁:=zd ls i.toNat++za ls i k.toNat) (l₂:=(List.range 512).map fun j:Nat=>(j:Int)) nd (fun x hx=>by
   have b:=h.p.b x hx;rw[ZO];exact⟨x.toNat,Z7.2 Uc,Uc⟩)
  rw[Zh,zb,Y2,List.length_range]at c;omega
def adD:HR ls 0 []:=⟨acK,I0⟩
def adE (h:HR ls i es)(i0:0<=i)(c:inR i 0 3=true)(s:(aw ls i 0).length<=8):HS ls i 0 es:=⟨acM h.p i0 c s,by simpa[za]using h.s⟩
def aaV (h:HS ls i k es)(k0:0<=k)(h1:inR (ag (aw ls i 0) k 0) 0 511=true)(h2:bK .rem Za (ag (aw ls i 0) k 0) (clsSz i)=0)(h3:mgbI es (ag (aw ls i 0) k 0)=false):HS ls i (k+1) (pu es (ag (aw ls i 0) k 0) (.v (.bool true))):=by
 refine⟨RR h.p k0 h1 h2 (fun m=>by rw[(h.s.at_ _).2 m]at h3;cases h3),?_⟩;rw[AZ k0, <-Zj];exact zB h.s
def aaU (h:HS ls i k es)(i0:0<=i)(k1:k<=((aw ls i 0).length:Int))(k2:((aw ls i 0).length:Int)<=k):HR ls (i+1) es:=
 ⟨RO h.p i0 k1 k2,by have s:=h.s;rw[show k.toNat=(aw ls i 0).length from by omega]at s;rw[A0 i0];exact s⟩
def Qc (h:HS ls i k es)(i0:0<=i)(k0:0<=k)(k1:k<(aw ls i 0).length)(h3:mgbI es (ag (aw ls i 0) k 0)=true):caOk ls=false:=Mb i0 h.p.l k0 k1 ((h.s.at_ _).1 h3)
def Qa (h:HR ls i es)(i0:0<=i)(s:8<(aw ls i 0).length)(i1:i<ls.length):caOk ls=false:=by
 by_cases c:(ls.length:Int)=4;exact Mc i0 s Uc;exact EH c
def Qb (h:HR ls i es)(i0:0<=i)(c:inR i 0 3=false)(i1:i<ls.length):caOk ls=false:=by
 have:=uJ.1 c;exact EH Uc
end
def IS (cs:ab)(i:Int):Bool:=inR (ag cs i 0) 0 15&& !(decide (0<i)&&decide (ag cs i 0<=ag cs (i-1) 0))
def plOk (k m:Int)(cs:ab):Bool:=cC (IS cs) cs.length&&(inR k 0 31&&(inR m 0 31&&decide (k≠m)))
def jbOk (k m:Int)(cs:ab)(ph nx:Int):Bool:=plOk k m cs&&(inR ph 0 5&&inR nx 0 cs.length)
section
variable {k m i: Int} {cs: ab}
def N4 (i0:0<=i)(i1:i<cs.length)(h:inR (ag cs i 0) 0 15=false):plOk k m cs=false:=by
 unfold plOk;rw[bV i0 i1 (by unfold IS;rw[h];rfl)];rfl
def N5 (i0:0<=i)(i1:i<cs.length)(h:0<i)(g:ag cs i 0<=ag cs (i-1) 0):plOk k m cs=false:=by
 unfold plOk;rw[bV i0 i1 (by unfold IS;rw[VB h,VB g];simp)];rfl
def Ko (h:inR (ag cs i 0) 0 15=true)(g:i<=0):IS cs i=true:=by unfold IS;rw[h,VC Uc];rfl
def Kp (h:inR (ag cs i 0) 0 15=true)(g:ag cs (i-1) 0<ag cs i 0):IS cs i=true:=by
 unfold IS;rw[h,VC (p:=ag cs i 0<=_) Uc];simp
def Fq (h:upto (IS cs) i)(g:(cs.length:Int)<=i):plOk k m cs=(inR k 0 31&&(inR m 0 31&&decide (k≠m))):=by unfold plOk;rw[bJ h g];rfl
end
end Go.V
namespace Go.V
def R4 {sp lg:ab}{a:Int}(h:layOk sp lg=true):dzK sp lg a=dnK sp lg a:=by unfold dzK;rw[VE h]
def R5 {sp lg:ab}{a:Int}(h:layOk sp lg=true):dzI sp lg a=dnI sp lg a:=by unfold dzI;rw[VE h]
def R6 {sp lg:ab}{a:Int}(h:layOk sp lg=true):dzO sp lg a=dnO sp lg a:=by unfold dzO;rw[VE h]
def JG {sp lg:ab}{a:Int}(h:dnK sp lg a=1):0<=dnI sp lg a/\dnI sp lg a<sp.length:=by
 unfold dnK at h;by_cases c:0<=pp sp a
 ·unfold dnI;rw[VE c];rcases uB (p:=Fw sp a) (n:=sp.length)with q|q
  ·have:pp sp a= -1:=q;omega
  ·exact q
 ·rw[VF c]at h;by_cases d:0<=CZ lg a
  ·rw[VE d]at h;omega
  ·rw[VF d]at h;omega
def R2 {sp lg:ab}{a:Int}(h:dnK sp lg a=3):0<=dnI sp lg a/\dnI sp lg a<lg.length:=by
 unfold dnK at h;by_cases c:0<=pp sp a
 ·rw[VE c]at h;split at h<;>omega
 ·rw[VF c]at h;by_cases d:0<=CZ lg a
  ·unfold dnI;rw[VF c,VE d];rcases uB (p:=GO lg a) (n:=lg.length)with q|q
   ·have:CZ lg a= -1:=q;omega
   ·exact q
  ·rw[VF d]at h;omega
def Io (os:ab)(x j:Int):Bool:=eqB (ag os j 0) x
def oiI (os:ab)(x:Int):Int:=cK (Io os x) os.length
def oiB (os:ab)(x:Int):Bool:=decide (0<=oiI os x)
def okO (sp lg:ab)(a s:Int):Bool:=decide (dnO sp lg a=0)&&((decide (dnK sp lg a=1)&&decide (ag sp (dnI sp lg a) 1=clsOf s))||(decide (dnK sp lg a=3)&&decide (ag lg (dnI sp lg a) 2=s)))
def DN (sp lg os cs:ab)(nx i:Int):Bool:=
 !(decide (0<i)&&decide (ag os i 1<=ag os (i-1) 1))&&(inR (ag os i 0) 1 (bK .sub Za nx 1)&&(inR (ag os i 3) 0 (cs.length-1:Int)&&(!oiB (os.take i.toNat) (ag os i 0)&&okO sp lg (ag os i 1) (ag os i 2))))
def objOk (sp lg os cs:ab)(nx:Int):Bool:=cC (DN sp lg os cs nx) os.length
section
variable {sp lg os cs: ab} {nx i k: Int}
def qK (i0:0<=i)(i1:i<os.length)(h:DN sp lg os cs nx i=false):objOk sp lg os cs nx=false:=bV i0 i1 h
def NO (h:upto (DN sp lg os cs nx) i)(g:(os.length:Int)<=i):objOk sp lg os cs nx=true:=bJ h g
def Tm (h:0<i)(g:ag os i 1<=ag os (i-1) 1):DN sp lg os cs nx i=false:=by unfold DN;rw[VB h,VB g];rfl
def Tn (h:inR (ag os i 0) 1 (bK .sub Za nx 1)=false):DN sp lg os cs nx i=false:=by unfold DN;rw[h];simp
def To (h:inR (ag os i 3) 0 (cs.length-1:Int)=false):DN sp lg os cs nx i=false:=by unfold DN;rw[h];simp
def Tp (h:oiB (os.take i.toNat) (ag os i 0)=true):DN sp lg os cs nx i=false:=by unfold DN;rw[h];simp
def Kh (h:okO sp lg (ag os i 1) (ag os i 2)=false):DN sp lg os cs nx i=false:=by unfold DN;rw[h];simp
def QA (h1:i<=0\/ag os (i-1) 1<ag os i 1)(h2:inR (ag os i 0) 1 (bK .sub Za nx 1)=true)(h3:inR (ag os i 3) 0 (cs.length-1:Int)=true)(h4:oiB (os.take i.toNat) (ag os i 0)=false)(h5:okO sp lg (ag os i 1) (ag os i 2)=true):DN sp lg os cs nx i=true:=by
 unfold DN;rw[h2,h3,h4,h5];rcases h1 with h|h
 ·rw[VC (p:=0<i) Uc];rfl
 ·rw[VC (p:=ag os i 1<=ag os (i-1) 1) Uc];simp
def Tq {a s:Int}(h:dnO sp lg a≠0):okO sp lg a s=false:=by unfold okO;rw[VC h];rfl
def aeZ {a s:Int}(h1:dnK sp lg a≠1\/ag sp (dnI sp lg a) 1≠clsOf s)(h2:dnK sp lg a≠3\/ag lg (dnI sp lg a) 2≠s):okO sp lg a s=false:=by
 unfold okO;rcases h1 with h|h<;>rcases h2 with g|g<;>simp[h,g]
def Ts {a s:Int}(h0:dnO sp lg a=0)(h1:dnK sp lg a=1)(h2:ag sp (dnI sp lg a) 1=clsOf s):okO sp lg a s=true:=by unfold okO;rw[VB h0,VB h1,VB h2];rfl
def Tt {a s:Int}(h0:dnO sp lg a=0)(h1:dnK sp lg a=3)(h2:ag lg (dnI sp lg a) 2=s):okO sp lg a s=true:=by unfold okO;rw[VB h0,VB h1,VB h2];simp
def abV (k0:0<=k)(k1:k<i)(i1:i<os.length)(h:ag os k 0=ag os i 0):oiB (os.take i.toNat) (ag os i 0)=true:=by
 unfold oiB oiI;rw[VD,Dp];refine⟨k.toNat,by rw[Zm];omega,?_⟩;unfold Io;rw[Zo k0,zm Uc];exact Gw h
def aeY {x:Int}(h:upto (fun j=> !eqB (ag os j 0) x) k)(k1:i<=k)(i0:0<=i):oiB (os.take i.toNat) x=false:=by
 unfold oiB oiI;refine VC (fun c=>?_);obtain⟨m,m1,m2⟩:=Dp.1 c;rw[Zm]at m1;have q:=h m Uc Uc;unfold Io at m2;rw[zm Uc]at m2;simp only at q;rw[m2]at q;cases q
end
end Go.V
namespace Go.V
def WfI (es:ab):Prop:=∀ e∈es,∃ k b:Int,e=[.i k,.i b]
def xh {k b:Int}{es:ab}{n:Int}:eU ([.i k,.i b]::es) n=if k=n then some (0,.int Za b)else(eU es n).map fun p=>(p.1+1,p.2):=rfl
def rB {k b:Int}{es:ab}{n:Int}:jM ([.i k,.i b]::es) n=if k=n then b else jM es n:=by
 unfold jM;rw[xh];by_cases c:k=n
 ·rw[VE c,VE c]
 ·rw[VF c,VF c];cases eU es n with
  |none=>rfl
  |some p=>obtain⟨j,v⟩:=p;cases v<;>rfl
def NJ {k b x:Int}{es:ab}{n:Int}:pu ([.i k,.i b]::es) n (.i x)=if k=n then[.i n,.i x]::es else[.i k,.i b]::pu es n (.i x):=by
 unfold pu;rw[xh];by_cases c:k=n
 ·rw[VE c,VE c];rfl
 ·rw[VF c,VF c];cases eU es n with
  |none=>rfl
  |some p=>rfl
def aeP {x n:Int}:∀ {es:ab},WfI es->WfI (pu es n (.i x))/\∀ m,jM (pu es n (.i x)) m=if m=n then x else jM es m
 | [],_=>by
   refine⟨fun e he=>?_,fun m=>?_⟩
   ·have:e=[.i n,.i x]:=by simpa[pu,eU]using he
    exact⟨n,x,this⟩
   ·show jM [[.i n,.i x]] m=_;rw[rB];by_cases c:m=n
    ·rw[VE c.symm,VE c]
    ·rw[VF (fun e=>c e.symm),VF c]
 | e::es,h=>by
   obtain⟨k,b,rfl⟩:=h e (by simp);have h':WfI es:=fun e he=>h e (by simp[he])
   obtain⟨a1,a2⟩:=aeP (x:=x) (n:=n) h';rw[NJ];by_cases c:k=n
   ·rw[VE c];refine⟨fun e he=>?_,fun m=>?_⟩
    ·rcases Zk.1 he with rfl|he;exact⟨n,x,rfl⟩;exact h' e he
    ·rw[rB,rB];by_cases d:m=n
     ·rw[VE d.symm,VE d]
     ·rw[VF (fun e=>d e.symm),VF d,VF (fun e=>d (by rw[<-e,c]))]
   ·rw[VF c];refine⟨fun e he=>?_,fun m=>?_⟩
    ·rcases Zk.1 he with rfl|he;exact⟨k,b,rfl⟩;exact a1 e he
    ·rw[rB,rB,a2 m];by_cases d:k=m
     ·rw[VE d,VE d,VF (fun e=>c (d.trans e))]
     ·rw[VF d,VF d]
def huI (es:ab)(a:Int):ab:=pu es a (.i (bK .add Za (jM es a) 1))
structure Ec (es:ab)(l:List Int):Prop where
 wf:WfI es
 c:∀ m,jM es m=(l.count m:Int)
def ag3:Ec [] []:=⟨(fun e he=>by cases he),fun m=>rfl⟩
def JC {es:ab}{l:List Int}{a:Int}(h:Ec es l)(hl:l.length<=1099511627776):Ec (huI es a) (l++[a]):=by
 have q:=aeP (x:=bK .add Za (jM es a) 1) (n:=a) h.wf;refine⟨q.1,fun m=>?_⟩;show jM (pu es a _) m=_;have b:l.count a<=l.length:=List.count_le_length;have e:=h.c a;rw[q.2 m,List.count_append,show bK .add Za (jM es a) 1=jM es a+1 from bD Uc];by_cases c:m=a
 ·subst c;rw[VE rfl,e];simp
 ·rw[VF c,h.c m];have:[a].count m=0:=WC.2 (by simpa using c);rw[this];rfl
def mL (l:ab)(f:Nat):Nat->List Int
 |0=>[]
 |n+1=>mL l f n++[ag l n f]
def CY (ls:ab):Nat->List Int
 |0=>[]
 |n+1=>CY ls n++mL (aw ls n 0) 0 (aw ls n 0).length
def vt (cs:ab):Nat->List Int
 |0=>[]
 |n+1=>vt cs n++CY (aw cs n 0) (aw cs n 0).length
def dP {l:ab}{f:Nat}:∀ n,(mL l f n).length=n
 |0=>rfl
 |n+1=>by rw[mL,Zh,dP n];rfl
def rz {l:ab}{f:Nat}{i:Int}(h:0<=i):mL l f (i+1).toNat=mL l f i.toNat++[ag l i f]:=by
 rw[show(i+1).toNat=i.toNat+1 from by omega,mL,Zo h]
def Mg {l:ab}{i:Int}(h:0<=i):CY l (i+1).toNat=CY l i.toNat++mL (aw l i 0) 0 (aw l i 0).length:=by
 rw[show(i+1).toNat=i.toNat+1 from by omega,CY,Zo h]
def Mf {l:ab}{i:Int}(h:0<=i):vt l (i+1).toNat=vt l i.toNat++CY (aw l i 0) (aw l i 0).length:=by
 rw[show(i+1).toNat=i.toNat+1 from by omega,vt,Zo h]
def sc {l:ab}{f:Nat}{x:Int}:∀ {n},x∈mL l f n↔∃ k:Nat,k<n/\x=ag l k f
 |0=>⟨(fun h=>by cases h),fun⟨k,h,_⟩=>absurd h (Xz _)⟩
 | n+1=>by
   rw[mL,Zg,sc,Yu]
   constructor
   ·rintro(⟨k,h,e⟩|e);exact⟨k,Uc,e⟩;exact⟨n,Uc,e⟩
   ·rintro⟨k,h,e⟩;by_cases c:k=n
    ·subst c;exact .inr e
    ·exact .inl ⟨k,Uc,e⟩
def E8 {ls:ab}{x:Int}:∀ {n},x∈CY ls n↔∃ k:Nat,k<n/\x∈mL (aw ls k 0) 0 (aw ls k 0).length
 |0=>⟨(fun h=>by cases h),fun⟨k,h,_⟩=>absurd h (Xz _)⟩
 | n+1=>by
   rw[CY,Zg,E8]
   constructor
   ·rintro(⟨k,h,e⟩|e);exact⟨k,Uc,e⟩;exact⟨n,Uc,e⟩
   ·rintro⟨k,h,e⟩;by_cases c:k=n
    ·subst c;exact .inr e
    ·exact .inl ⟨k,Uc,e⟩
def E7 {cs:ab}{x:Int}:∀ {n},x∈vt cs n↔∃ k:Nat,k<n/\x∈CY (aw cs k 0) (aw cs k 0).length
 |0=>⟨(fun h=>by cases h),fun⟨k,h,_⟩=>absurd h (Xz _)⟩
 | n+1=>by
   rw[vt,Zg,E7]
   constructor
   ·rintro(⟨k,h,e⟩|e);exact⟨k,Uc,e⟩;exact⟨n,Uc,e⟩
   ·rintro⟨k,h,e⟩;by_cases c:k=n
    ·subst c;exact .inr e
    ·exact .inl ⟨k,Uc,e⟩
def EJ {ls:ab}:∀ n,n<=ls.length->(CY ls n).length<=bO (ls.take n)
 |0,_=>Ze _
 | n+1,h=>by
   have q:=EJ n (by omega:n<=ls.length);have c:=Bd (es:=ls) (n:=n) (j:=0) Uc;unfold au at c;rw[CY,Zh,dP,pC Uc];omega
def ny {cs:ab}:∀ n,n<=cs.length->(vt cs n).length<=bO (cs.take n)
 |0,_=>Ze _
 | n+1,h=>by
   have q:=ny n (by omega:n<=cs.length);have c:=Bd (es:=cs) (n:=n) (j:=0) Uc;have d:=EJ (ls:=aw cs n 0) (aw cs n 0).length (Zf _);rw[Yq]at d;unfold au at c;rw[vt,Zh,pC Uc];omega
def PH {cs:ab}{i k:Int}(i0:0<=i)(i1:i<cs.length)(k1:k<=(aw cs i 0).length):(vt cs i.toNat++CY (aw cs i 0) k.toNat).length+bO ((aw cs i 0).drop k.toNat)<=bO cs:=by
 have q:=ny (cs:=cs) i.toNat Uc;have c:=Gr (es:=cs) (n:=i.toNat+1);have d:=pC (es:=cs) (n:=i.toNat) Uc;have e:=Bd (es:=cs) (n:=i.toNat) (j:=0) Uc;rw[Zo i0]at e;have f:=EJ (ls:=aw cs i 0) k.toNat Uc;have g:bO (aw cs i 0)=bO ((aw cs i 0).take k.toNat)+bO ((aw cs i 0).drop k.toNat):=by rw[<-gK,ZR]
 rw[Zh];unfold au at e;omega
def JA {cs:ab}{i k j:Int}(i0:0<=i)(i1:i<cs.length)(k0:0<=k)(k1:k<(aw cs i 0).length)(j0:0<=j)(j1:j<=(aw (aw cs i 0) k 0).length):(vt cs i.toNat++CY (aw cs i 0) k.toNat++mL (aw (aw cs i 0) k 0) 0 j.toNat).length<=bO cs:=by
 have q:=PH i0 i1 (by omega:k<=(aw cs i 0).length);have e:=Bd (es:=aw cs i 0) (n:=k.toNat) (j:=0) Uc;rw[Zo k0]at e;have d:dO ((aw cs i 0).getD k.toNat [])<=bO ((aw cs i 0).drop k.toNat):=by
  rw[XA Uc];rw[Zn,Zr Uc];simp[bO]
 rw[Zh,dP];unfold au at e;omega
def hlB (sp lg:ab)(a k:Int):Bool:=decide (dnK sp lg a=1)&&(decide (dnO sp lg a=0)&&(decide (k<0)||decide (ag sp (dnI sp lg a) 1=k)))
def jA (sp lg l:ab)(k j:Int):Bool:=hlB sp lg (ag l j 0) k
def kA (sp lg ls:ab)(k:Int):Bool:=cC (jA sp lg (aw ls k 0) k) (aw ls k 0).length
def iA (sp lg cs:ab)(i:Int):Bool:=cC (kA sp lg (aw cs i 0)) (aw cs i 0).length
def qA (sp lg qs:ab)(i:Int):Bool:=hlB sp lg (ag qs i 0) (ag qs i 1)
def sA (qs:ab)(c i:Int):Bool:=decide (ag qs i 2<=c)
def Ku (sp lg qs:ab)(c i:Int):Bool:=qA sp lg qs i&&sA qs c i
def P9 (os cs qs fl:ab):List Int:=vt cs cs.length++mL qs 0 qs.length++mL fl 0 fl.length++mL os 1 os.length
def Ig (os cs qs fl:ab):List Int:=mL os 1 os.length++vt cs cs.length++mL qs 0 qs.length++mL fl 0 fl.length
def RJ (l:List Int)(lv:ab)(i:Int):Bool:=decide (l.count (ag lv i 0)=1)
def hoI (sp lg os cs b x qs:ab)(c:Int):Bool:=cC (iA sp lg cs) cs.length&&(cC (Ku sp lg qs c) qs.length&&(cC (jA sp lg (ifL b x) (-1)) (ifL b x).length&&cC (RJ (P9 os cs qs (ifL b x)) (laL sp lg)) (laL sp lg).length))
def hoS (sp lg os cs b x qs:ab):Bool:=cC (iA sp lg cs) cs.length&&(cC (qA sp lg qs) qs.length&&(cC (jA sp lg (ifL b x) (-1)) (ifL b x).length&&(decide ((Ig os cs qs (ifL b x)).Nodup)&&decide ((Ig os cs qs (ifL b x)).length=(laL sp lg).length))))
section
variable {sp lg os cs b x qs fl es: ab} {i k j c: Int}
def adz (k0:0<=k)(k1:k<(aw cs i 0).length)(j0:0<=j)(j1:j<(aw (aw cs i 0) k 0).length)(h:hlB sp lg (ag (aw (aw cs i 0) k 0) j 0) k=false):iA sp lg cs i=false:=
 bV k0 k1 (bV (p:=jA sp lg (aw (aw cs i 0) k 0) k) j0 j1 h)
def aaF (i0:0<=i)(i1:i<cs.length)(h:iA sp lg cs i=false):hoI sp lg os cs b x qs c=false:=by unfold hoI;rw[bV i0 i1 h];rfl
def MF (i0:0<=i)(i1:i<qs.length)(h:Ku sp lg qs c i=false):hoI sp lg os cs b x qs c=false:=by unfold hoI;rw[bV i0 i1 h];simp
def aaG (i0:0<=i)(i1:i<(ifL b x).length)(h:hlB sp lg (ag (ifL b x) i 0) (-1)=false):hoI sp lg os cs b x qs c=false:=by unfold hoI;rw[bV (p:=jA sp lg (ifL b x) (-1)) i0 i1 h];simp
def aaH (i0:0<=i)(i1:i<(laL sp lg).length)(h:RJ (P9 os cs qs (ifL b x)) (laL sp lg) i=false):hoI sp lg os cs b x qs c=false:=by unfold hoI;rw[bV i0 i1 h];simp
def aaJ (i0:0<=i)(i1:i<cs.length)(h:iA sp lg cs i=false):hoS sp lg os cs b x qs=false:=by unfold hoS;rw[bV i0 i1 h];rfl
def aaK (i0:0<=i)(i1:i<qs.length)(h:qA sp lg qs i=false):hoS sp lg os cs b x qs=false:=by unfold hoS;rw[bV i0 i1 h];simp
def aaL (i0:0<=i)(i1:i<(ifL b x).length)(h:hlB sp lg (ag (ifL b x) i 0) (-1)=false):hoS sp lg os cs b x qs=false:=by unfold hoS;rw[bV (p:=jA sp lg (ifL b x) (-1)) i0 i1 h];simp
def afy (h:hlB sp lg (ag qs i 0) (ag qs i 1)=false):Ku sp lg qs c i=false:=by unfold Ku qA;rw[h];rfl
def afz (h:c<ag qs i 2):Ku sp lg qs c i=false:=by unfold Ku sA;rw[VC Uc,Z3]
def aik (h:hlB sp lg (ag qs i 0) (ag qs i 1)=true)(g:ag qs i 2<=c):Ku sp lg qs c i=true:=by unfold Ku qA sA;rw[h,VB g];rfl
structure HiP (sp lg cs:ab)(i:Int)(es:ab):Prop where
 ok:upto (iA sp lg cs) i
 c:Ec es (vt cs i.toNat)
structure HkP (sp lg cs:ab)(i k:Int)(es:ab):Prop where
 ok:upto (iA sp lg cs) i
 ok2:upto (kA sp lg (aw cs i 0)) k
 c:Ec es (vt cs i.toNat++CY (aw cs i 0) k.toNat)
structure HjP (sp lg cs:ab)(i k j:Int)(es:ab):Prop where
 ok:upto (iA sp lg cs) i
 ok2:upto (kA sp lg (aw cs i 0)) k
 ok3:upto (jA sp lg (aw (aw cs i 0) k 0) k) j
 c:Ec es (vt cs i.toNat++CY (aw cs i 0) k.toNat++mL (aw (aw cs i 0) k 0) 0 j.toNat)
structure HqP (sp lg cs qs:ab)(t j:Int)(es:ab):Prop where
 ok:cC (iA sp lg cs) cs.length=true
 ok2:upto (Ku sp lg qs t) j
 c:Ec es (vt cs cs.length++mL qs 0 j.toNat)
structure HfP (sp lg cs qs fl:ab)(t j:Int)(es:ab):Prop where
 ok:cC (iA sp lg cs) cs.length=true
 ok2:cC (Ku sp lg qs t) qs.length=true
 ok3:upto (jA sp lg fl (-1)) j
 c:Ec es (vt cs cs.length++mL qs 0 qs.length++mL fl 0 j.toNat)
structure HoP (sp lg os cs qs fl:ab)(t j:Int)(es:ab):Prop where
 ok:cC (iA sp lg cs) cs.length=true
 ok2:cC (Ku sp lg qs t) qs.length=true
 ok3:cC (jA sp lg fl (-1)) fl.length=true
 c:Ec es (vt cs cs.length++mL qs 0 qs.length++mL fl 0 fl.length++mL os 1 j.toNat)
def ahg:HiP sp lg cs 0 []:=⟨bI,ag3⟩
def ahi (h:HiP sp lg cs i es):HkP sp lg cs i 0 es:=⟨h.ok,bI,by simpa[CY]using h.c⟩
def ahh (h:HkP sp lg cs i k es):HjP sp lg cs i k 0 es:=⟨h.ok,h.ok2,bI,by simpa[mL]using h.c⟩
def adc (h:HjP sp lg cs i k j es)(i0:0<=i)(i1:i<cs.length)(k0:0<=k)(k1:k<(aw cs i 0).length)(j0:0<=j)(j1:j<(aw (aw cs i 0) k 0).length)(hc:au cs<=1073741824)(hh:hlB sp lg (ag (aw (aw cs i 0) k 0) j 0) k=true):
 HjP sp lg cs i k (j+1) (huI es (ag (aw (aw cs i 0) k 0) j 0)):=by
 have l:=JA (cs:=cs) i0 i1 k0 k1 j0 Uc;unfold au at hc;exact⟨h.ok,h.ok2,bu h.ok3 hh,by rw[rz j0, <-Zj];exact JC h.c Uc⟩
def ade (h:HjP sp lg cs i k j es)(k0:0<=k)(j1:j<=((aw (aw cs i 0) k 0).length:Int))(j2:((aw (aw cs i 0) k 0).length:Int)<=j):HkP sp lg cs i (k+1) es:=by
 refine⟨h.ok,bu h.ok2 (bJ h.ok3 j2),?_⟩;have c:=h.c;rw[show j.toNat=(aw (aw cs i 0) k 0).length from by omega,Zj, <-Mg k0]at c;exact c
def adb (h:HkP sp lg cs i k es)(i0:0<=i)(k1:k<=((aw cs i 0).length:Int))(k2:((aw cs i 0).length:Int)<=k):HiP sp lg cs (i+1) es:=by
 refine⟨bu h.ok (bJ h.ok2 k2),?_⟩;have c:=h.c;rw[show k.toNat=(aw cs i 0).length from by omega, <-Mf i0]at c;exact c
def ahp (h:HiP sp lg cs i es)(i1:i<=cs.length)(i2:(cs.length:Int)<=i):HqP sp lg cs qs c 0 es:=
 ⟨bJ h.ok i2,bI,by have c:=h.c;rw[show i.toNat=cs.length from by omega]at c;simpa[mL]using c⟩
def adx (h:HqP sp lg cs qs c j es)(j0:0<=j)(j1:j<qs.length)(hc:au cs<=1073741824)(hq:qs.length<=1073741824)(hh:Ku sp lg qs c j=true):HqP sp lg cs qs c (j+1) (huI es (ag qs j 0)):=by
 have l:=ny (cs:=cs) cs.length (Zf _);rw[Yq]at l;unfold au at hc;refine⟨h.ok,bu h.ok2 hh,?_⟩;rw[rz j0, <-Zj];refine JC h.c ?_;rw[Zh,dP];omega
def ahf (h:HqP sp lg cs qs c i es)(i1:i<=qs.length)(i2:(qs.length:Int)<=i):HfP sp lg cs qs fl c 0 es:=
 ⟨h.ok,bJ h.ok2 i2,bI,by have c:=h.c;rw[show i.toNat=qs.length from by omega]at c;simpa[mL]using c⟩
def ada (h:HfP sp lg cs qs fl c j es)(j0:0<=j)(j1:j<fl.length)(hc:au cs<=1073741824)(hq:qs.length<=1073741824)(hf:fl.length<=30)(hh:hlB sp lg (ag fl j 0) (-1)=true):HfP sp lg cs qs fl c (j+1) (huI es (ag fl j 0)):=by
 have l:=ny (cs:=cs) cs.length (Zf _);rw[Yq]at l;unfold au at hc;refine⟨h.ok,h.ok2,bu h.ok3 hh,?_⟩;rw[rz j0, <-Zj];refine JC h.c ?_;rw[Zh,Zh,dP,dP];omega
def ahl (h:HfP sp lg cs qs fl c i es)(i1:i<=fl.length)(i2:(fl.length:Int)<=i):HoP sp lg os cs qs fl c 0 es:=
 ⟨h.ok,h.ok2,bJ h.ok3 i2,by have c:=h.c;rw[show i.toNat=fl.length from by omega]at c;simpa[mL]using c⟩
def adh (h:HoP sp lg os cs qs fl c j es)(j0:0<=j)(j1:j<os.length)(hc:au cs<=1073741824)(hq:qs.length<=1073741824)(ho:os.length<=1073741824)(hf:fl.length<=30):HoP sp lg os cs qs fl c (j+1) (huI es (ag os j 1)):=by
 have l:=ny (cs:=cs) cs.length (Zf _);rw[Yq]at l;unfold au at hc;refine⟨h.ok,h.ok2,h.ok3,?_⟩;rw[rz j0, <-Zj];refine JC h.c ?_;rw[Zh,Zh,Zh,dP,dP,dP];omega
structure Rs (sp lg os cs qs fl:ab)(t i:Int)(es:ab):Prop where
 p:HoP sp lg os cs qs fl t os.length es
 ok:upto (RJ (P9 os cs qs fl) (laL sp lg)) i
def ahj (h:HoP sp lg os cs qs fl c i es)(i1:i<=os.length)(i2:(os.length:Int)<=i):Rs sp lg os cs qs fl c 0 es:=⟨by rw[show(os.length:Int)=i from by omega];exact h,bI⟩
def adf (h:Rs sp lg os cs qs fl c i es)(m:Int):jM es m=((P9 os cs qs fl).count m:Int):=by
 have q:=h.p.c.c m;rw[ZA]at q;exact q
def adg (h:Rs sp lg os cs qs fl c i es)(e:jM es (ag (laL sp lg) i 0)=1):Rs sp lg os cs qs fl c (i+1) es:=
 ⟨h.p,bu h.ok (by unfold RJ;rw[adf h]at e;exact VB Uc)⟩
def ahk (h:Rs sp lg os cs qs (ifL b x) c i es)(i0:0<=i)(i1:i<(laL sp lg).length)(e:jM es (ag (laL sp lg) i 0)≠1):hoI sp lg os cs b x qs c=false:=
 aaH i0 i1 (by unfold RJ;rw[adf h]at e;exact VC Uc)
def aaE (h:Rs sp lg os cs qs (ifL b x) c i es)(i2:((laL sp lg).length:Int)<=i):hoI sp lg os cs b x qs c=true:=by
 unfold hoI;rw[h.p.ok,h.p.ok2,h.p.ok3,bJ h.ok i2];rfl
end
end Go.V
namespace Go.V
structure S1P (os:ab)(i:Int)(o:ab):Prop where
 e:o=jd (mL os 1 i.toNat)
structure S2P (sp lg os cs:ab)(i:Int)(o:ab):Prop where
 ok:upto (iA sp lg cs) i
 e:o=jd (mL os 1 os.length++vt cs i.toNat)
structure S3P (sp lg os cs:ab)(i k:Int)(o:ab):Prop where
 ok:upto (iA sp lg cs) i
 ok2:upto (kA sp lg (aw cs i 0)) k
 e:o=jd (mL os 1 os.length++(vt cs i.toNat++CY (aw cs i 0) k.toNat))
structure S4P (sp lg os cs:ab)(i k j:Int)(o:ab):Prop where
 ok:upto (iA sp lg cs) i
 ok2:upto (kA sp lg (aw cs i 0)) k
 ok3:upto (jA sp lg (aw (aw cs i 0) k 0) k) j
 e:o=jd (mL os 1 os.length++(vt cs i.toNat++CY (aw cs i 0) k.toNat++mL (aw (aw cs i 0) k 0) 0 j.toNat))
structure S5P (sp lg os cs qs:ab)(j:Int)(o:ab):Prop where
 ok:cC (iA sp lg cs) cs.length=true
 ok2:upto (qA sp lg qs) j
 e:o=jd (mL os 1 os.length++vt cs cs.length++mL qs 0 j.toNat)
structure S6P (sp lg os cs qs fl:ab)(j:Int)(o:ab):Prop where
 ok:cC (iA sp lg cs) cs.length=true
 ok2:cC (qA sp lg qs) qs.length=true
 ok3:upto (jA sp lg fl (-1)) j
 e:o=jd (mL os 1 os.length++vt cs cs.length++mL qs 0 qs.length++mL fl 0 j.toNat)
structure Pm (sp lg os cs qs fl:ab)(j:Int)(o:ab):Prop where
 ok:cC (iA sp lg cs) cs.length=true
 ok2:cC (qA sp lg qs) qs.length=true
 ok3:cC (jA sp lg fl (-1)) fl.length=true
 e:o=jd (Ig os cs qs fl)
 nd:((Ig os cs qs fl).take j.toNat).Nodup
section
variable {sp lg os cs b x qs fl o: ab} {i k j: Int}
def ain:S1P os 0 []:=⟨rfl⟩
def aio (h:S1P os i o):o.length=i.toNat:=by rw[h.e,cq,dP]
def afF (h:S1P os i o)(i0:0<=i):S1P os (i+1) (o++[[.i (ag os i 1)]]):=⟨by rw[rz i0,hP, <-h.e];rfl⟩
def aip (h:S1P os i o)(i1:i<=os.length)(i2:(os.length:Int)<=i):S2P sp lg os cs 0 o:=⟨bI,by rw[h.e,show i.toNat=os.length from by omega];simp[vt]⟩
def aiq (h:S2P sp lg os cs i o):S3P sp lg os cs i 0 o:=⟨h.ok,bI,by rw[h.e];simp[CY]⟩
def air (h:S3P sp lg os cs i k o):S4P sp lg os cs i k 0 o:=⟨h.ok,h.ok2,bI,by rw[h.e];simp[mL]⟩
def ais (h:S4P sp lg os cs i k j o)(i0:0<=i)(i1:i<cs.length)(k0:0<=k)(k1:k<(aw cs i 0).length)(j0:0<=j)(j1:j<=(aw (aw cs i 0) k 0).length)(hc:au cs<=1073741824)(ho:os.length<=1073741824):o.length<=2147483648:=by
 have l:=JA (cs:=cs) i0 i1 k0 k1 j0 j1;unfold au at hc;rw[h.e,cq,Zh,dP];omega
def afI (h:S4P sp lg os cs i k j o)(j0:0<=j)(hh:hlB sp lg (ag (aw (aw cs i 0) k 0) j 0) k=true):S4P sp lg os cs i k (j+1) (o++[[.i (ag (aw (aw cs i 0) k 0) j 0)]]):=
 ⟨h.ok,h.ok2,bu h.ok3 hh,by rw[rz j0, <-Zj (vt cs i.toNat++CY (aw cs i 0) k.toNat), <-Zj (mL os 1 os.length),hP, <-h.e];rfl⟩
def afH (h:S4P sp lg os cs i k j o)(k0:0<=k)(j1:j<=((aw (aw cs i 0) k 0).length:Int))(j2:((aw (aw cs i 0) k 0).length:Int)<=j):S3P sp lg os cs i (k+1) o:=by
 refine⟨h.ok,bu h.ok2 (bJ h.ok3 j2),?_⟩;rw[h.e,show j.toNat=(aw (aw cs i 0) k 0).length from by omega,Zj (vt cs i.toNat), <-Mg k0]
def afG (h:S3P sp lg os cs i k o)(i0:0<=i)(k1:k<=((aw cs i 0).length:Int))(k2:((aw cs i 0).length:Int)<=k):S2P sp lg os cs (i+1) o:=by
 refine⟨bu h.ok (bJ h.ok2 k2),?_⟩;rw[h.e,show k.toNat=(aw cs i 0).length from by omega, <-Mf i0]
def ait (h:S2P sp lg os cs i o)(i1:i<=cs.length)(i2:(cs.length:Int)<=i):S5P sp lg os cs qs 0 o:=⟨bJ h.ok i2,bI,by rw[h.e,show i.toNat=cs.length from by omega];simp[mL]⟩
def aiu (h:S5P sp lg os cs qs j o)(j1:j<=qs.length)(hc:au cs<=1073741824)(ho:os.length<=1073741824)(hq:qs.length<=1073741824):o.length<=4294967296:=by
 have l:=ny (cs:=cs) cs.length (Zf _);rw[Yq]at l;unfold au at hc;rw[h.e,cq,Zh,Zh,dP,dP];omega
def afJ (h:S5P sp lg os cs qs j o)(j0:0<=j)(hh:hlB sp lg (ag qs j 0) (ag qs j 1)=true):S5P sp lg os cs qs (j+1) (o++[[.i (ag qs j 0)]]):=
 ⟨h.ok,bu h.ok2 hh,by rw[rz j0, <-Zj,hP, <-h.e];rfl⟩
def aiv (h:S5P sp lg os cs qs i o)(i1:i<=qs.length)(i2:(qs.length:Int)<=i):S6P sp lg os cs qs fl 0 o:=⟨h.ok,bJ h.ok2 i2,bI,by rw[h.e,show i.toNat=qs.length from by omega];simp[mL]⟩
def aiw (h:S6P sp lg os cs qs fl j o)(j1:j<=fl.length)(hc:au cs<=1073741824)(ho:os.length<=1073741824)(hq:qs.length<=1073741824)(hf:fl.length<=30):o.length<=4294967400:=by
 have l:=ny (cs:=cs) cs.length (Zf _);rw[Yq]at l;unfold au at hc;rw[h.e,cq,Zh,Zh,Zh,dP,dP,dP];omega
def afK (h:S6P sp lg os cs qs fl j o)(j0:0<=j)(hh:hlB sp lg (ag fl j 0) (-1)=true):S6P sp lg os cs qs fl (j+1) (o++[[.i (ag fl j 0)]]):=
 ⟨h.ok,h.ok2,bu h.ok3 hh,by rw[rz j0, <-Zj,hP, <-h.e];rfl⟩
def aix (h:S6P sp lg os cs qs fl i o)(i1:i<=fl.length)(i2:(fl.length:Int)<=i):Pm sp lg os cs qs fl 0 o:=
 ⟨h.ok,h.ok2,bJ h.ok3 i2,by rw[h.e,show i.toNat=fl.length from by omega];rfl,ZL⟩
def afL (h:Pm sp lg os cs qs fl j o)(hc:au cs<=1073741824)(ho:os.length<=1073741824)(hq:qs.length<=1073741824)(hf:fl.length<=30):o.length<=4294967400:=by
 have l:=ny (cs:=cs) cs.length (Zf _);rw[Yq]at l;unfold au at hc;rw[h.e,cq];unfold Ig;rw[Zh,Zh,Zh,dP,dP,dP];omega
def G8 {l:List Int}{n:Nat}:(jd l).take n=jd (l.take n):=by unfold jd;rw[List.map_take]
def Fv {l:List Int}{i:Int}(h0:0<=i)(h:i<(jd l).length):∃ x,l[i.toNat]?=some x/\ag (jd l) i 0=x:=by
 rw[cq]at h;have q:=wB (l:=l) (k:=i.toNat) Uc;rw[Zo h0]at q;exact⟨_,Zr Uc,q⟩
def afN (h:Pm sp lg os cs qs fl j o)(j0:0<=j)(j1:j<o.length)(hh:hasB (o.take j.toNat) (ag o j 0)=false):Pm sp lg os cs qs fl (j+1) o:=by
 refine⟨h.ok,h.ok2,h.ok3,h.e,?_⟩;have e:=h.e;rw[e]at j1 hh;obtain⟨v,q1,q2⟩:=Fv j0 j1;rw[G8,q2]at hh;have nm:=zn hh;rw[show(j+1).toNat=j.toNat+1 from by omega,List.take_succ,q1];exact nD h.nd nm
def aiy (h:Pm sp lg os cs qs (ifL b x) j o)(j0:0<=j)(j1:j<o.length)(hh:hasB (o.take j.toNat) (ag o j 0)=true):hoS sp lg os cs b x qs=false:=by
 have e:=h.e;rw[e]at j1 hh;obtain⟨v,q1,q2⟩:=Fv j0 j1;rw[G8,q2,rY]at hh;have:¬ (Ig os cs qs (ifL b x)).Nodup:=fun nd=>by
  have lt:j.toNat<(Ig os cs qs (ifL b x)).length:=by rw[cq]at j1;omega
  have sp:=ZR j.toNat (Ig os cs qs (ifL b x));rw[XA lt]at sp;have gv:(Ig os cs qs (ifL b x))[j.toNat]=v:=by rw[Zr lt]at q1;exact YA q1
  rw[gv]at sp;exact dup sp.symm hh nd
 unfold hoS;rw[VC this];simp
def acd (h:Pm sp lg os cs qs (ifL b x) j o)(j2:(o.length:Int)<=j):decide ((o.length:Int)=(laL sp lg).length)=hoS sp lg os cs b x qs:=by
 have e:=h.e;have nd:=h.nd;have l:(Ig os cs qs (ifL b x)).length=o.length:=by rw[e,cq]
 rw[List.take_of_length_le Uc]at nd;unfold hoS;rw[h.ok,h.ok2,h.ok3,VB nd,l];simp only[Y3];exact ij (by rw[VD,VD];omega)
def inI (l:List Int):Prop:=∀ v∈l,-9223372036854775808<=v/\v<=9223372036854775807
def EZ {l m:List Int}(h:inI l)(g:inI m):inI (l++m):=fun v hv=>by
 rcases Zg.1 hv with q|q;exact h v q;exact g v q
def E0 {fs:List Ty}{l:ab}{f:Nat}(h:Rw fs l)(hf:fs[f]?=some tI):inI (mL l f l.length):=fun v hv=>by
 obtain⟨n,n1,rfl⟩:=sc.1 hv;exact Dw h hf Uc
def aa0 {ls:ab}(h:Rw [.sl [tI]] ls):inI (CY ls ls.length):=fun v hv=>by
 obtain⟨n,n1,q⟩:=E8.1 hv;exact E0 (fs:=[tI]) (Rw.sub (fs:=[.sl [tI]]) h Uc rfl) rfl v q
def aaZ {cs:ab}(h:Rw [.sl [.sl [tI]]] cs):inI (vt cs cs.length):=fun v hv=>by
 obtain⟨n,n1,q⟩:=E7.1 hv;exact aa0 (Rw.sub (fs:=[.sl [.sl [tI]]]) h Uc rfl) v q
def afM (N:Pi sp lg os cs b x qs)(h:Pm sp lg os cs qs (ifL b x) j o)(n:Nat):Rw [tI] (o.take n):=by
 have l:=afL h N.cl N.ol N.ql Ik;refine Rw.take ?_ n;rw[h.e]at l ⊢;rw[cq]at l;refine wC ?_ Uc;unfold Ig;exact EZ (EZ (EZ (E0 N.ow rfl) (aaZ N.cw)) (E0 N.qw rfl)) (E0 (MQ N.m) rfl)
def ME {a k:Int}(hl:layOk sp lg=true)(h:hlB sp lg a k=true):yQ sp lg a=true:=by
 unfold hlB at h;simp only[Zc,VD]at h;exact(J4 hl).2 ⟨h.2.1,.inl h.1⟩
def ae0 {a s:Int}(hl:layOk sp lg=true)(h:okO sp lg a s=true):yQ sp lg a=true:=by
 unfold okO at h;simp only[Zc,ZU,VD]at h;exact(J4 hl).2 ⟨h.1,h.2.elim (fun q=>.inl q.1) (fun q=>.inr q.1)⟩
def lvI (sp lg:ab):List Int:=SY sp lg 512
def adX (hl:layOk sp lg=true):laL sp lg=jd (lvI sp lg):=by unfold laL lvI;rw[VE hl,Bj]
def Qq (hl:layOk sp lg=true){a:Int}:a∈lvI sp lg↔yQ sp lg a=true:=by
 unfold lvI;rw[uR]
 constructor;exact fun h=>h.2.2
 ·intro h;have F:=lyF hl;have v:=SZ F hl h;have r:a∈iaA sp lg:=J9.2 v;refine⟨?_,?_,h⟩
  ·rcases v with⟨i,k,i1,k1,_,e⟩|⟨j,j1,e⟩
   ·have ae:=qR (s:=(k:Int)) (F.s i i1) Uc Uc;have t:=mT (F.s i i1);omega
   ·have t:=oE (F.l j j1);omega
  ·rcases v with⟨i,k,i1,k1,_,e⟩|⟨j,j1,e⟩
   ·have ae:=qR (s:=(k:Int)) (F.s i i1) Uc Uc;have t:=mT (F.s i i1);omega
   ·have t:=oE (F.l j j1);have b:=ng t.1;omega
def abO:(lvI sp lg).Nodup:=(IW 512).imp (fun h=>by omega)
def Km:(P9 os cs qs fl).Perm (Ig os cs qs fl):=by
 unfold P9 Ig;have q:=List.perm_append_comm (l₁:=vt cs cs.length++mL qs 0 qs.length++mL fl 0 fl.length) (l₂:=mL os 1 os.length);refine q.trans ?_;rw[Zj,Zj,Zj]
def NN {l m:List Int}(hm:m.Nodup)(hs:∀ v∈l,v∈m):(∀ v∈m,l.count v=1)↔l.Nodup/\l.length=m.length:=by
 constructor
 ·intro h;have nd:l.Nodup:=WE.2 (fun v=>by
   by_cases c:v∈l
   ·rw[h v (hs v c)];exact Zf _
   ·rw[WC.2 c];omega)
  refine⟨nd,?_⟩;have p:l.Perm m:=by
   rw[List.perm_ext_iff_of_nodup nd hm];intro v;refine⟨hs v,fun hv=>?_⟩;have:=h v hv;exact WF.1 Uc
  exact p.length_eq
 ·rintro⟨nd,len⟩ v hv;have hv':v∈l:=by
   by_cases c:v∈l;exact c
   ·exfalso;have q:=WB (l₁:=v::l) (l₂:=m) (List.nodup_cons.2 ⟨c,nd⟩) (fun y hy=>by
     rcases Zk.1 hy with rfl|hy;exact hv
     ·exact hs y hy)
    rw[Zp]at q;omega
  have p1:=WE.1 nd v;have p2:=WF.2 hv';omega
def gN {p:Int->Bool}{n:Nat}(h:cC p n=true):∀ k:Nat,k<n->p k=true:=fun k hk=>dN.1 h k Uc Uc
def QJ {c:Int}:cC (Ku sp lg qs c) qs.length=(cC (qA sp lg qs) qs.length&&cC (sA qs c) qs.length):=by
 refine ij ?_;rw[Zc,dN,dN,dN];unfold upto Ku
 constructor
 ·intro h;refine⟨fun j h0 h1=>?_,fun j h0 h1=>?_⟩
  ·have:=h j h0 h1;rw[Zc]at this;exact this.1
  ·have:=h j h0 h1;rw[Zc]at this;exact this.2
 ·rintro⟨h,g⟩ j h0 h1;rw[h j h0 h1,g j h0 h1];rfl
def MG {nx c:Int}(hl:layOk sp lg=true)(ho:objOk sp lg os cs nx=true):hoI sp lg os cs b x qs c=(hoS sp lg os cs b x qs&&cC (sA qs c) qs.length):=by
 unfold hoI hoS;rw[QJ];by_cases h1:cC (iA sp lg cs) cs.length=true
 case neg=>rw[YQ]at h1;rw[h1];rfl
 by_cases h2:cC (qA sp lg qs) qs.length=true
 case neg=>rw[YQ]at h2;rw[h2];simp
 by_cases h3:cC (jA sp lg (ifL b x) (-1)) (ifL b x).length=true
 case neg=>rw[YQ]at h3;rw[h3];simp
 have sub:∀ v∈P9 os cs qs (ifL b x),v∈lvI sp lg:=by
  intro v hv;rw[Qq hl];unfold P9 at hv;rw[Zg,Zg,Zg]at hv;rcases hv with((hv|hv)|hv)|hv
  ·obtain⟨i,i1,hv⟩:=E7.1 hv;obtain⟨k,k1,hv⟩:=E8.1 hv;obtain⟨j,j1,rfl⟩:=sc.1 hv;have q1:=gN h1 i i1;have q2:=gN q1 k k1;have q3:=gN q2 j j1;exact ME hl q3
  ·obtain⟨j,j1,rfl⟩:=sc.1 hv;exact ME hl (gN h2 j j1)
  ·obtain⟨j,j1,rfl⟩:=sc.1 hv;exact ME hl (gN h3 j j1)
  ·obtain⟨j,j1,rfl⟩:=sc.1 hv;have q:=gN ho j j1;unfold DN at q;simp only[Zc]at q;exact ae0 hl q.2.2.2.2
 have key:=NN abO sub;have e1:cC (RJ (P9 os cs qs (ifL b x)) (laL sp lg)) (laL sp lg).length=(decide (Ig os cs qs (ifL b x)).Nodup&&decide ((Ig os cs qs (ifL b x)).length=(laL sp lg).length)):=by
  refine ij ?_;rw[Zc,VD,VD, <-Km.nodup_iff, <-Km.length_eq,adX hl,cq, <-key]
  constructor
  ·intro h v hv;obtain⟨n,n1,rfl⟩:=X2.1 hv;have q:=gN h n n1;unfold RJ at q;rw[wB n1,VD]at q;exact q
  ·intro h;rw[dN];intro j h0 h1;have n1:j.toNat<(lvI sp lg).length:=by omega
   have q:=wB n1;rw[Zo h0]at q;unfold RJ;rw[q,VD];exact h _ (Xl n1)
 rw[h1,h2,h3,e1];simp only[Y3];exact Bool.and_comm _ _
end
end Go.V
namespace Go.V
def JU {n:Int}:∀ {es:ab},WfB es->∀ m,m∈pR (pu es n (.v (.bool true)))↔m∈pR es\/m=n
 | [],_,m=>by
   show m∈pR [[.i n,.v (.bool true)]]↔_;simp[pR,kOf]
 | e::es,h,m=>by
   obtain⟨k,b,rfl⟩:=h e (by simp);have h':WfB es:=fun e he=>h e (by simp[he])
   have ih:=JU (n:=n) h' m;rw[Kd];by_cases c:k=n
   ·rw[VE c];subst c;show m∈k::pR es↔m∈k::pR es\/m=k;simp only[Zk]
    constructor;exact fun h=>.inl h
    ·rintro(h|h);exact h;exact .inl h
   ·rw[VF c];show m∈k::pR (pu es n (.v (.bool true)))↔m∈k::pR es\/m=n;simp only[Zk,ih,or_assoc]
structure zH (es:ab)(l:List Int):Prop where
 s:sJ es l
 k:∀ m,m∈pR es↔m∈l
def ae3:zH [] []:=⟨I0,fun m=>Iff.rfl⟩
def NS {es:ab}{l:List Int}{n:Int}(h:zH es l):zH (pu es n (.v (.bool true))) (l++[n]):=
 ⟨zB h.s,fun m=>by rw[JU h.s.wf,h.k,Zg,Yu]⟩
def zA (sp:ab)(i:Int):Bool:= !(decide (0<i)&&decide (ag sp i 0<=ag sp (i-1) 0))
def O2 (es:ab)(p:Int):Bool:=decide ((fpg es p).length=1)
def Cg (es lg:ab)(i:Int):Bool:=zA lg i&&cC (fun k=>O2 es (ag lg i 0+k)) (ag lg i 1).toNat
def ownB (sp lg:ab)(p:Int):Bool:=decide (p∈BA sp lg)
def mapB (es:ab)(p:Int):Bool:=decide (peM es p≠0)
def A3 (es fr sp lg:ab)(p:Int):Bool:=(mapB es p==ownB sp lg p)&& !(rhB fr p==ownB sp lg p)
def Ki (es sp lg:ab):Bool:=decide (∀ p∈BA sp lg,p<es.length)
def Bt (sp:ab)(i j:Int):Bool:=mshB (ag sp i 0) (ag sp i 1) (ag sp i 2) (ag sp j 0) (ag sp j 1) (ag sp j 2)
def Iz (es sp:ab)(i j:Int):Bool:= !decide (peF es (ag sp i 0)=peF es (ag sp j 0))||Bt sp i j
def La (es sp:ab)(i:Int):Bool:=cC (Iz es sp i) i.toNat
def Nj (es sp:ab)(i k:Int):Bool:=decide (spI sp (ag (fpg es (ag sp i 0)) k 0)=i)||(decide (0<=spI sp (ag (fpg es (ag sp i 0)) k 0))&&Bt sp i (spI sp (ag (fpg es (ag sp i 0)) k 0)))
def msA (es sp:ab)(i:Int):Bool:=cC (Nj es sp i) (fpg es (ag sp i 0)).length
def pgI (es fr sp lg:ab):Bool:=cC (zA sp) sp.length&&(cC (Cg es lg) lg.length&&(cC (A3 es fr sp lg) es.length&&(Ki es sp lg&&cC (La es sp) sp.length)))
def pgS (es fr sp lg:ab):Bool:=cC (zA sp) sp.length&&(cC (Cg es lg) lg.length&&(Ki es sp lg&&cC (A3 es fr sp lg) es.length))
def smS (es sp:ab):Bool:=cC (msA es sp) sp.length
section
variable {es fr sp lg m: ab} {i j k p: Int} {vs: List Int}
def KA (h:0<i)(g:ag sp i 0<=ag sp (i-1) 0):zA sp i=false:=by unfold zA;rw[VB h,VB g];rfl
def KB (h:i<=0):zA sp i=true:=by unfold zA;rw[VC Uc];rfl
def KC (h:ag sp (i-1) 0<ag sp i 0):zA sp i=true:=by unfold zA;rw[VC (p:=ag sp i 0<=_) Uc];simp
def afa (i0:0<=i)(i1:i<sp.length)(h:zA sp i=false):pgI es fr sp lg=false:=by unfold pgI;rw[bV i0 i1 h];rfl
def Tz (i0:0<=i)(i1:i<lg.length)(h:Cg es lg i=false):pgI es fr sp lg=false:=by unfold pgI;rw[bV i0 i1 h];simp
def TA (i0:0<=i)(i1:i<es.length)(h:A3 es fr sp lg i=false):pgI es fr sp lg=false:=by unfold pgI;rw[bV i0 i1 h];simp
def afb (h:Ki es sp lg=false):pgI es fr sp lg=false:=by unfold pgI;rw[h];simp
def afc (i0:0<=i)(i1:i<sp.length)(h:La es sp i=false):pgI es fr sp lg=false:=by unfold pgI;rw[bV i0 i1 h];simp
def ah5 {a b c d:Int}(h1:upto (zA sp) a)(g1:(sp.length:Int)<=a)(h2:upto (Cg es lg) b)(g2:(lg.length:Int)<=b)(h3:upto (A3 es fr sp lg) c)(g3:(es.length:Int)<=c)(h4:Ki es sp lg=true)(h5:upto (La es sp) d)(g5:(sp.length:Int)<=d):pgI es fr sp lg=true:=by
 unfold pgI;rw[bJ h1 g1,bJ h2 g2,bJ h3 g3,h4,bJ h5 g5];rfl
def afl (i0:0<=i)(i1:i<sp.length)(h:zA sp i=false):pgS es fr sp lg=false:=by unfold pgS;rw[bV i0 i1 h];rfl
def TC (i0:0<=i)(i1:i<lg.length)(h:Cg es lg i=false):pgS es fr sp lg=false:=by unfold pgS;rw[bV i0 i1 h];simp
def TD (i0:0<=i)(i1:i<es.length)(h:A3 es fr sp lg i=false):pgS es fr sp lg=false:=by unfold pgS;rw[bV i0 i1 h];simp
def afm (h:Ki es sp lg=false):pgS es fr sp lg=false:=by unfold pgS;rw[h];simp
def aia {a b c:Int}(h1:upto (zA sp) a)(g1:(sp.length:Int)<=a)(h2:upto (Cg es lg) b)(g2:(lg.length:Int)<=b)(h3:upto (A3 es fr sp lg) c)(g3:(es.length:Int)<=c)(h4:Ki es sp lg=true):pgS es fr sp lg=true:=by
 unfold pgS;rw[bJ h1 g1,bJ h2 g2,bJ h3 g3,h4];rfl
def SR (h:zA lg i=false):Cg es lg i=false:=by unfold Cg;rw[h];rfl
def SU (k0:0<=k)(k1:k<ag lg i 1)(h:(fpg es (ag lg i 0+k)).length≠1):Cg es lg i=false:=by
 unfold Cg;rw[bV (i:=k) (n:=(ag lg i 1).toNat) k0 Uc (show O2 es (ag lg i 0+k)=false from VC h),Z3]
def adZ (h:zA lg i=true)(g:upto (fun k=>O2 es (ag lg i 0+k)) k)(k1:ag lg i 1<=k)(n0:0<=ag lg i 1):Cg es lg i=true:=by
 unfold Cg;rw[h,bJ g Uc];rfl
def Sd (g:upto (fun k=>O2 es (ag lg i 0+k)) k)(h:(fpg es (ag lg i 0+k)).length=1):upto (fun k=>O2 es (ag lg i 0+k)) (k+1):=bu g (VB h)
structure PlP (es sp lg:ab)(j:Int)(m:ab):Prop where
 ok:upto (Cg es lg) j
 o:zH m (oQ sp sp.length++oP lg j.toNat)
structure PkP (es sp lg:ab)(j k:Int)(m:ab):Prop where
 ok:upto (Cg es lg) j
 h:zA lg j=true
 g:upto (fun k=>O2 es (ag lg j 0+k)) k
 o:zH m (oQ sp sp.length++oP lg j.toNat++sj (ag lg j 0) k.toNat)
def ah6 (h:zH m (oQ sp i.toNat))(i1:i<=sp.length)(i2:(sp.length:Int)<=i):PlP es sp lg 0 m:=⟨bI,by rw[show i.toNat=sp.length from by omega]at h;simpa[oP]using h⟩
def afe (h:PlP es sp lg j m)(g:zA lg j=true):PkP es sp lg j (ag lg j 0-ag lg j 0) m:=by
 rw[Int.sub_self];exact⟨h.ok,g,bI,by simpa[sj]using h.o⟩
def afg (h:PkP es sp lg j (p-ag lg j 0) m)(p0:ag lg j 0<=p)(g:(fpg es p).length=1):PkP es sp lg j (p+1-ag lg j 0) (pu m p (.v (.bool true))):=by
 have e:ag lg j 0+(p-ag lg j 0)=p:=by omega
 rw[show p+1-ag lg j 0=(p-ag lg j 0)+1 from by omega];refine⟨h.ok,h.h,Sd h.g (by rw[e];exact g),?_⟩;rw[BC Uc,e, <-Zj];exact NS h.o
def aff (p0:ag lg j 0<=p)(p1:p<ag lg j 0+ag lg j 1)(h:(fpg es p).length≠1):Cg es lg j=false:=
 SU (k:=p-ag lg j 0) Uc Uc (by rw[show ag lg j 0+(p-ag lg j 0)=p from by omega];exact h)
def afh (h:PkP es sp lg j (p-ag lg j 0) m)(j0:0<=j)(n0:0<=ag lg j 1)(p1:p<=ag lg j 0+ag lg j 1)(p2:ag lg j 0+ag lg j 1<=p):PlP es sp lg (j+1) m:=by
 refine⟨bu h.ok (adZ h.h h.g Uc n0),?_⟩;have o:=h.o;rw[show(p-ag lg j 0).toNat=(ag lg j 1).toNat from by omega,Zj, <-tn j0]at o;exact o
def ab0 (h:PlP es sp lg j m)(j1:j<=lg.length)(j2:(lg.length:Int)<=j):zH m (BA sp lg):=by
 have o:=h.o;rw[show j.toNat=lg.length from by omega]at o;exact o
def ae4 (h:zH m (BA sp lg))(p:Int):mgbI m p=ownB sp lg p:=by
 refine ij ?_;unfold ownB;rw[h.s.at_,VD]
def R7 (h:mapB es p≠ownB sp lg p):A3 es fr sp lg p=false:=by unfold A3;rw[beq_eq_false_iff_ne.2 h];rfl
def R8 (h:rhB fr p=ownB sp lg p):A3 es fr sp lg p=false:=by unfold A3;rw[h];simp
def ac1 (h:mapB es p=ownB sp lg p)(g:rhB fr p≠ownB sp lg p):A3 es fr sp lg p=true:=by unfold A3;rw[h,beq_eq_false_iff_ne.2 g];simp
def aaq (h:mapB es p=rhB fr p)(g:mapB es p=ownB sp lg p):A3 es fr sp lg p=false:=R8 (by rw[<-h,g])
def ac2 (h:mapB es p≠rhB fr p)(g:mapB es p=ownB sp lg p):A3 es fr sp lg p=true:=ac1 g (fun e=>h (by rw[g,e]))
def aei (p0:0<=p)(p1:p<es.length):cM .neq (ag es p 0) 0=mapB es p:=by rw[EK];unfold mapB peM;rw[VE Uc]
def aeX (h:p∈BA sp lg)(g:(es.length:Int)<=p):Ki es sp lg=false:=VC (fun c=>by have:=c p h;omega)
def ah0 (o:zH m (BA sp lg))(h:∀ k∈vs,k<es.length)(g:∀ k∈pR m,k∈vs):Ki es sp lg=true:=VB (fun p hp=>h p (g p ((o.k p).2 hp)))
def agk {q:Int}(h:∀ k∈vs,k<(es.length:Int))(g:q<es.length):∀ k∈q::vs,k<(es.length:Int):=fun k hk=>by
 rcases Zk.1 hk with rfl|hk;exact g;exact h k hk
def ahS (j0:0<=j)(j1:j<i)(h:peF es (ag sp i 0)=peF es (ag sp j 0))(g:Bt sp i j=false):La es sp i=false:=by
 unfold La;exact bV j0 Uc (by unfold Iz;rw[g,VB h];rfl)
def aee (h:peF es (ag sp i 0)≠peF es (ag sp j 0)):Iz es sp i j=true:=by unfold Iz;rw[VC h];rfl
def aef (h:Bt sp i j=true):Iz es sp i j=true:=by unfold Iz;rw[h,WG]
def ahT (h:upto (Iz es sp i) j)(g:i<=j)(i0:0<=i):La es sp i=true:=by unfold La;exact bJ h Uc
structure O0 (es sp lg:ab)(j:Int)(o:ab):Prop where
 ok:upto (Cg es lg) j
 e:o=jd (oQ sp sp.length++oP lg j.toNat)
 l:(oP lg j.toNat).length<=64*j.toNat
structure QkP (es sp lg:ab)(j k:Int)(o:ab):Prop where
 ok:upto (Cg es lg) j
 h:zA lg j=true
 g:upto (fun k=>O2 es (ag lg j 0+k)) k
 e:o=jd (oQ sp sp.length++oP lg j.toNat++sj (ag lg j 0) k.toNat)
 l:(oP lg j.toNat).length<=64*j.toNat
structure QsP (sp:ab)(i:Int)(o:ab):Prop where
 ok:upto (zA sp) i
 e:o=jd (oQ sp i.toNat)
variable {o: ab}
def aii:QsP sp 0 []:=⟨bI,rfl⟩
def aij (h:QsP sp i o):o.length=i.toNat:=by rw[h.e,cq,su]
def TG (h:QsP sp i o)(i0:0<=i)(g:zA sp i=true):QsP sp (i+1) (o++[[.i (ag sp i 0)]]):=⟨bu h.ok g,by rw[rP i0,hP, <-h.e];rfl⟩
def aie (h:QsP sp i o)(i1:i<=sp.length)(i2:(sp.length:Int)<=i):O0 es sp lg 0 o:=⟨bI,by rw[h.e,show i.toNat=sp.length from by omega];simp[oP],Ze _⟩
def afu (h:O0 es sp lg j o)(g:zA lg j=true):QkP es sp lg j 0 o:=⟨h.ok,g,bI,by rw[h.e];simp[sj],h.l⟩
def afv (h:QkP es sp lg j k o)(k0:0<=k)(g:(fpg es (ag lg j 0+k)).length=1):QkP es sp lg j (k+1) (o++[[.i (ag lg j 0+k)]]):=
 ⟨h.ok,h.h,Sd h.g g,by rw[BC k0, <-Zj,hP, <-h.e];rfl,h.l⟩
def afx (h:QkP es sp lg j k o)(j0:0<=j)(n0:0<=ag lg j 1)(n1:ag lg j 1<=64)(k1:k<=ag lg j 1)(k2:ag lg j 1<=k):O0 es sp lg (j+1) o:=by
 have l:=h.l;refine⟨bu h.ok (adZ h.h h.g k2 n0),?_,?_⟩
 ·rw[h.e,show k.toNat=(ag lg j 1).toNat from by omega,Zj, <-tn j0]
 ·rw[tn j0,Zh,vc];omega
def aid (h:QkP es sp lg j k o)(k1:k<=64):o.length<=sp.length+64*j.toNat+64:=by
 have l:=h.l;rw[h.e,cq,Zh,Zh,su,vc];omega
def QI (h:O0 es sp lg j o)(j1:j<=lg.length)(j2:(lg.length:Int)<=j):o=jd (BA sp lg):=by
 have e:=h.e;rw[show j.toNat=lg.length from by omega]at e;exact e
def Tx (hl:layOk sp lg=true){x:Int}(h:x∈BA sp lg):0<=x/\x<=31:=by
 have F:=lyF hl;unfold BA at h;rw[Zg,sd,uQ]at h;rcases h with⟨i,i1,e⟩|⟨j,j1,e1,e2⟩
 ·have t:=mT (F.s i i1);omega
 ·have t:=oE (F.l j j1);have b:=ng t.1;omega
def afw (hl:layOk sp lg=true)(h:O0 es sp lg j o)(j1:j<=lg.length)(j2:(lg.length:Int)<=j)(hs:sp.length<=1073741824)(hg:lg.length<=1073741824):Rw [tI] o:=by
 have l:=h.l;rw[QI h j1 j2];refine wC (fun x hx=>by have:=Tx hl hx;omega) ?_;unfold BA;rw[Zh,su];rw[show j.toNat=lg.length from by omega]at l;omega
def aif (h:O0 es sp lg j o)(j1:j<=lg.length)(j2:(lg.length:Int)<=j)(i0:0<=i)(i1:i<o.length)(g:(es.length:Int)<=ag o i 0):Ki es sp lg=false:=by
 have e:=QI h j1 j2;rw[e]at i1 g;obtain⟨v,q1,q2⟩:=Fv i0 i1;rw[q2]at g;exact aeX (List.mem_of_getElem? q1) g
def aih (h:O0 es sp lg j o)(j1:j<=lg.length)(j2:(lg.length:Int)<=j)(g:upto (fun t=>decide (ag o t 0<es.length)) i)(i2:(o.length:Int)<=i):Ki es sp lg=true:=by
 have e:=QI h j1 j2;refine VB (fun p hp=>?_);obtain⟨n,n1,rfl⟩:=X2.1 hp;have n2:n<o.length:=by rw[e,cq];exact n1
 have q:=g n Uc Uc;rw[VD,e,wB n1]at q;exact q
def aig (h:O0 es sp lg j o)(j1:j<=lg.length)(j2:(lg.length:Int)<=j)(p:Int):hasB o p=ownB sp lg p:=by
 refine ij ?_;rw[QI h j1 j2,rY];unfold ownB;rw[VD]
def aev (k0:0<=k)(k1:k<(fpg es (ag sp i 0)).length)(h:spI sp (ag (fpg es (ag sp i 0)) k 0)≠i)(g:spI sp (ag (fpg es (ag sp i 0)) k 0)<0):msA es sp i=false:=by
 unfold msA;exact bV k0 k1 (by unfold Nj;rw[VC h,VC Uc];rfl)
def aew (k0:0<=k)(k1:k<(fpg es (ag sp i 0)).length)(h:spI sp (ag (fpg es (ag sp i 0)) k 0)≠i)(g:Bt sp i (spI sp (ag (fpg es (ag sp i 0)) k 0))=false):msA es sp i=false:=by
 unfold msA;exact bV k0 k1 (by unfold Nj;rw[VC h,g];simp)
def aeg (h:spI sp (ag (fpg es (ag sp i 0)) k 0)=i):Nj es sp i k=true:=by unfold Nj;rw[VB h];rfl
def aeh (h:0<=spI sp (ag (fpg es (ag sp i 0)) k 0))(g:Bt sp i (spI sp (ag (fpg es (ag sp i 0)) k 0))=true):Nj es sp i k=true:=by unfold Nj;rw[VB h,g];simp
def afX {p:Int}(h:0<=spI sp p):spI sp p<sp.length:=by
 obtain⟨b,_⟩:=pP h;exact b
def H2 {a b:Int}:bK .and Za a b=bK .and Za b a:=by
 show Xj Za ((ZW _ a&&&ZW _ b).toNat)=Xj Za ((ZW _ b&&&ZW _ a).toNat);rw[BitVec.and_comm]
def Nz:Bt sp i j=Bt sp j i:=by
 refine ij ?_;unfold Bt mshB;simp only[Zc,VD];rw[H2 (a:=ag sp i 2)]
 constructor
 ·rintro⟨a,b,c,d,e⟩;exact⟨b,a,c.symm,fun h=>d h.symm,e⟩
 ·rintro⟨a,b,c,d,e⟩;exact⟨b,a,c.symm,fun h=>d h.symm,e⟩
def Fl {es:ab}{f:Int}:∀ {n:Nat} {x:Int},hasB (vu es f n) x=true↔∃ k:Nat,k<n/\x=k/\ag es k 0≠0/\ag es k 1=f
 |0,x=>⟨fun h=>absurd (Dx.1 h) (Yv),fun⟨k,h,_⟩=>absurd h (Xz _)⟩
 | n+1,x=>by
   by_cases c:ag es n 0≠0/\ag es n 1=f
   ·rw[Kn c.1 c.2,P6,ZU,Fl,P7]
    constructor
    ·rintro(⟨k,h,e⟩|e);exact⟨k,Uc,e⟩;exact⟨n,Uc,e.symm,c⟩
    ·rintro⟨k,h,e,q⟩;by_cases d:k=n
     ·subst d;exact .inr e.symm
     ·exact .inl ⟨k,Uc,e,q⟩
   ·have c':ag es n 0=0\/ag es n 1≠f:=by
     by_cases z:ag es n 0=0;exact .inl z;exact .inr (fun e=>c ⟨z,e⟩)
    rw[N1 c',Fl]
    constructor
    ·rintro⟨k,h,e⟩;exact⟨k,Uc,e⟩
    ·rintro⟨k,h,e,q⟩;by_cases d:k=n
     ·subst d;exact absurd q c
     ·exact⟨k,Uc,e,q⟩
def zg {p x:Int}:hasB (fpg es p) x=true↔peM es p≠0/\0<=x/\x<es.length/\peM es x≠0/\peF es x=peF es p:=by
 by_cases c:peM es p=0
 ·rw[Mw c];exact⟨fun h=>absurd (Dx.1 h) (Yv),fun h=>absurd c h.1⟩
 ·rw[JI c];unfold pagesOn;rw[Fl]
  constructor
  ·rintro⟨k,h,rfl,q1,q2⟩;refine⟨c,Uc,Uc,?_,?_⟩
   ·unfold peM;rw[VE Uc];exact q1
   ·rw[show peF es k=ag es k 1 from by unfold peF;rw[VE Uc]];exact q2
  ·rintro⟨_,h0,h1,q1,q2⟩;refine⟨x.toNat,Uc,Uc,?_,?_⟩
   ·rw[Zo h0];unfold peM at q1;rw[VE Uc]at q1;exact q1
   ·rw[Zo h0];unfold peF at q2;rw[VE (c:=0<=x/\x<_) Uc]at q2;rw[q2];rfl
def EW {l:ab}{x:Int}:hasB l x=true↔∃ k:Nat,k<l.length/\ag l k 0=x:=JL
def N2 (hl:layOk sp lg=true):pgI es fr sp lg=(pgS es fr sp lg&&smS es sp):=by
 have F:=lyF hl;unfold pgI pgS;by_cases h1:cC (zA sp) sp.length=true
 case neg=>rw[YQ]at h1;rw[h1];rfl
 by_cases h2:cC (Cg es lg) lg.length=true
 case neg=>rw[YQ]at h2;rw[h2];simp
 by_cases h3:cC (A3 es fr sp lg) es.length=true
 case neg=>rw[YQ]at h3;rw[h3];simp
 by_cases h4:Ki es sp lg=true
 case neg=>rw[YQ]at h4;rw[h4];simp
 rw[h1,h2,h3,h4];simp only[Y3];have h4':=VG h4;have mp:∀ q:Int,0<=q->q<es.length->(peM es q≠0↔q∈BA sp lg):=by
  intro q q0 q1;have e:=dN.1 h3 q q0 q1;unfold A3 at e;simp only[Zc,beq_iff_eq]at e;have e:=e.1;unfold mapB ownB at e
  constructor
  ·intro h;rw[VB h]at e;exact VG e.symm
  ·intro h;rw[VB h]at e;exact VG e
 have spg:∀ n:Nat,n<sp.length->ag sp n 0∈BA sp lg:=fun n hn=>Zg.2 (.inl (sd.2 ⟨n,hn,rfl⟩))
 have spm:∀ n:Nat,n<sp.length->0<=ag sp n 0/\ag sp n 0<es.length/\peM es (ag sp n 0)≠0:=by
  intro n hn;have b:=Tx hl (spg n hn);have c:=h4' _ (spg n hn);exact⟨b.1,c,(mp _ b.1 c).2 (spg n hn)⟩
 have sat:∀ n:Nat,n<sp.length->spI sp (ag sp n 0)=n:=by
  intro n hn;have q:=uC (p:=isSp sp (ag sp n 0)) hn (Gw rfl);obtain⟨q1,q2⟩:=pP q;obtain⟨m,e⟩:=Yc q;have e':spI sp (ag sp n 0)=m:=e;rw[e]at q1 q2;have:=F.ss m n Uc hn (VG q2);rw[e',this]
 refine ij ?_;unfold smS;rw[dN,dN]
 constructor
 ·intro h i i0 i1;unfold msA;rw[dN];intro k k0 k1;obtain⟨ii,rfl⟩:=Yc i0;obtain⟨kk,rfl⟩:=Yc k0;have hx:hasB (fpg es (ag sp ii 0)) (ag (fpg es (ag sp ii 0)) kk 0)=true:=EW.2 ⟨kk,Uc,rfl⟩;generalize hX:ag (fpg es (ag sp ii 0)) kk 0=x at hx;obtain⟨c1,c2,c3,c4,c5⟩:=zg.1 hx;have hp:=(mp x c2 c3).1 c4;unfold BA at hp;rw[Zg,sd,uQ]at hp;unfold Nj;rw[hX];rcases hp with⟨n,n1,rfl⟩|⟨j,j1,e1,e2⟩
  ·rw[sat n n1];rcases Xx n ii with c|c|c
   ·have q:=dN.1 (h ii Uc i1) n Uc Uc;unfold Iz at q;rw[c5,VB rfl]at q;rw[show Bt sp ii n=true from by simpa using q,VB (p:=(0:Int)<=n) Uc];simp
   ·rw[c,VB rfl];rfl
   ·have q:=dN.1 (h n Uc Uc) ii Uc Uc;unfold Iz at q;rw[c5,VB rfl]at q;have q':Bt sp n ii=true:=by simpa using q
    rw[Nz,q',VB (p:=(0:Int)<=n) Uc];simp
  ·exfalso;have t:=oE (F.l j j1);have b:=ng t.1;have q:=gN h2 j j1;unfold Cg at q;simp only[Zc]at q;have q2:=dN.1 q.2 (x-ag lg j 0) Uc Uc;rw[show ag lg j 0+(x-ag lg j 0)=x from by omega]at q2;have q3:=VG q2;have s1:=spm ii Uc;have a1:hasB (fpg es x) x=true:=zg.2 ⟨c4,c2,c3,c4,rfl⟩;have a2:hasB (fpg es x) (ag sp ii 0)=true:=zg.2 ⟨c4,s1.1,s1.2.1,s1.2.2,c5.symm⟩;obtain⟨u,u1,u2⟩:=EW.1 a1;obtain⟨v,v1,v2⟩:=EW.1 a2;have:u=v:=by omega
   subst this;rw[u2]at v2;exact F.sl ii j Uc j1 Uc Uc
 ·intro h i i0 i1;unfold La;rw[dN];intro j j0 j1;obtain⟨ii,rfl⟩:=Yc i0;obtain⟨jj,rfl⟩:=Yc j0;unfold Iz;by_cases c:peF es (ag sp ii 0)=peF es (ag sp jj 0)
  case neg=>rw[VC c];rfl
  have s1:=spm ii Uc;have s2:=spm jj Uc;have a:hasB (fpg es (ag sp ii 0)) (ag sp jj 0)=true:=zg.2 ⟨s1.2.2,s2.1,s2.2.1,s2.2.2,c.symm⟩;obtain⟨k,k1,k2⟩:=EW.1 a;have q:=h ii Uc i1;unfold msA at q;have q:=gN q k k1;unfold Nj at q;rw[k2,sat jj Uc,VC (p:=(jj:Int)=ii) Uc]at q;simp only[Bool.false_or,Zc]at q;rw[q.2,WG]
end
end Go.V
namespace Go.V
def jobZ (k m:Int)(cs:ab)(ph nx:Int):Bool:=decide (ph=0)&&(decide (nx=0)&&(decide (k=0)&&(decide (m=0)&&decide (cs.length=0))))
def wi (sp:ab)(me:Bool)(k m:Int)(cs:ab)(ph nx:Int):Bool:=
 bif me then(jbOk k m cs ph nx&&(decide (0<=spI sp k)&&decide (0<=spI sp m)))else jobZ k m cs ph nx
def RU (cs:ab)(i:Int):Bool:=caOk (aw cs i 0)
def hpI (a0 a1 a2:ab)(a3:Int)(a4 a5 a6 a7 a8 a9 aA aB:ab)(aC:Int)(aD:ab)(aE aF aG aH:Int)(aI:Bool)(aJ aK:Int)(aL:ab)(aM aN:Int):Bool:=
 kerOk a0 a1 a2 a3 a4&&(rgOk a2.length a5&&(layOk a6 a7&&(pgI a2 a5 a6 a7&&(mailOk aA aB&&(decide (a9.length=aA.length)&&(quarOk aC aD&&(cC (RU a9) a9.length&&
  (objOk a6 a7 a8 a9 aH&&(hoI a6 a7 a8 a9 aA aB aD aF&&(inR aE 0 1073741823&&(inR aF 0 1000000&&(inR aG 0 1000&&(inR aH 1 1000000&&wi a6 aI aJ aK aL aM aN)))))))))))))
structure HpN (a0 a1 a2 a4 a5 a6 a7 a8 a9 aA aB aD aL:ab):Prop where
 n:Pi a6 a7 a8 a9 aA aB aD
 c:Rw [.sl [tI]] a0
 u:Rw [tB] a1
 e:Rw [tI,tI] a2
 el:a2.length<=1073741824
 r:Rw [tI] a4
 f:Rw [tI,tI] a5
 fl:a5.length<=1073741824
 j:Rw [tI] aL
 jl:aL.length<=1073741824
section
variable {a0 a1 a2: ab} {a3: Int} {a4 a5 a6 a7 a8 a9 aA aB: ab} {aC: Int} {aD: ab} {aE aF aG aH: Int} {aI: Bool} {aJ aK: Int} {aL: ab} {aM aN: Int} {i: Int}
def adj (h:kerOk a0 a1 a2 a3 a4=false):hpI a0 a1 a2 a3 a4 a5 a6 a7 a8 a9 aA aB aC aD aE aF aG aH aI aJ aK aL aM aN=false:=by unfold hpI;rw[h];simp
def adq (h:rgOk a2.length a5=false):hpI a0 a1 a2 a3 a4 a5 a6 a7 a8 a9 aA aB aC aD aE aF aG aH aI aJ aK aL aM aN=false:=by unfold hpI;rw[h];simp
def adk (h:layOk a6 a7=false):hpI a0 a1 a2 a3 a4 a5 a6 a7 a8 a9 aA aB aC aD aE aF aG aH aI aJ aK aL aM aN=false:=by unfold hpI;rw[h];simp
def aaO (h:pgI a2 a5 a6 a7=false):hpI a0 a1 a2 a3 a4 a5 a6 a7 a8 a9 aA aB aC aD aE aF aG aH aI aJ aK aL aM aN=false:=by unfold hpI;rw[h];simp
def adl (h:mailOk aA aB=false):hpI a0 a1 a2 a3 a4 a5 a6 a7 a8 a9 aA aB aC aD aE aF aG aH aI aJ aK aL aM aN=false:=by unfold hpI;rw[h];simp
def aho (h:decide (a9.length=aA.length)=false):hpI a0 a1 a2 a3 a4 a5 a6 a7 a8 a9 aA aB aC aD aE aF aG aH aI aJ aK aL aM aN=false:=by unfold hpI;rw[h];simp
def adp (h:quarOk aC aD=false):hpI a0 a1 a2 a3 a4 a5 a6 a7 a8 a9 aA aB aC aD aE aF aG aH aI aJ aK aL aM aN=false:=by unfold hpI;rw[h];simp
def ahn (h:cC (RU a9) a9.length=false):hpI a0 a1 a2 a3 a4 a5 a6 a7 a8 a9 aA aB aC aD aE aF aG aH aI aJ aK aL aM aN=false:=by unfold hpI;rw[h];simp
def aaN (h:objOk a6 a7 a8 a9 aH=false):hpI a0 a1 a2 a3 a4 a5 a6 a7 a8 a9 aA aB aC aD aE aF aG aH aI aJ aK aL aM aN=false:=by unfold hpI;rw[h];simp
def aaM (h:hoI a6 a7 a8 a9 aA aB aD aF=false):hpI a0 a1 a2 a3 a4 a5 a6 a7 a8 a9 aA aB aC aD aE aF aG aH aI aJ aK aL aM aN=false:=by unfold hpI;rw[h];simp
def adr (h:inR aE 0 1073741823=false):hpI a0 a1 a2 a3 a4 a5 a6 a7 a8 a9 aA aB aC aD aE aF aG aH aI aJ aK aL aM aN=false:=by unfold hpI;rw[h];simp
def adt (h:inR aF 0 1000000=false):hpI a0 a1 a2 a3 a4 a5 a6 a7 a8 a9 aA aB aC aD aE aF aG aH aI aJ aK aL aM aN=false:=by unfold hpI;rw[h];simp
def adu (h:inR aG 0 1000=false):hpI a0 a1 a2 a3 a4 a5 a6 a7 a8 a9 aA aB aC aD aE aF aG aH aI aJ aK aL aM aN=false:=by unfold hpI;rw[h];simp
def adw (h:inR aH 1 1000000=false):hpI a0 a1 a2 a3 a4 a5 a6 a7 a8 a9 aA aB aC aD aE aF aG aH aI aJ aK aL aM aN=false:=by unfold hpI;rw[h];simp
def SC (h:(a9.length:Int)≠aA.length):hpI a0 a1 a2 a3 a4 a5 a6 a7 a8 a9 aA aB aC aD aE aF aG aH aI aJ aK aL aM aN=false:=aho (VC Uc)
def SB (i0:0<=i)(i1:i<a9.length)(h:caOk (aw a9 i 0)=false):hpI a0 a1 a2 a3 a4 a5 a6 a7 a8 a9 aA aB aC aD aE aF aG aH aI aJ aK aL aM aN=false:=ahn (bV i0 i1 h)
def MI (hk:kerOk a0 a1 a2 a3 a4=true)(hr:rgOk a2.length a5=true)(hl:layOk a6 a7=true)(hp:pgI a2 a5 a6 a7=true)(hm:mailOk aA aB=true)(hn:decide (a9.length=aA.length)=true)(hq:quarOk aC aD=true)(hc:cC (RU a9) a9.length=true)(ho:objOk a6 a7 a8 a9 aH=true)(hh:hoI a6 a7 a8 a9 aA aB aD aF=true)(hs:inR aE 0 1073741823=true)(ht:inR aF 0 1000000=true)(hw:inR aG 0 1000=true)(hx:inR aH 1 1000000=true):hpI a0 a1 a2 a3 a4 a5 a6 a7 a8 a9 aA aB aC aD aE aF aG aH aI aJ aK aL aM aN=wi a6 aI aJ aK aL aM aN:=by unfold hpI;rw[hk,hr,hl,hp,hm,hn,hq,hc,ho,hh,hs,ht,hw,hx];rfl
structure HpT (a0 a1 a2:ab)(a3:Int)(a4 a5 a6 a7 a8 a9 aA aB:ab)(aC:Int)(aD:ab)(aE aF aG aH:Int)(aI:Bool)(aJ aK:Int)(aL:ab)(aM aN:Int):Prop where
 k:kerOk a0 a1 a2 a3 a4=true
 r:rgOk a2.length a5=true
 l:layOk a6 a7=true
 p:pgI a2 a5 a6 a7=true
 m:mailOk aA aB=true
 n:decide (a9.length=aA.length)=true
 q:quarOk aC aD=true
 c:cC (RU a9) a9.length=true
 o:objOk a6 a7 a8 a9 aH=true
 h:hoI a6 a7 a8 a9 aA aB aD aF=true
 s:inR aE 0 1073741823=true
 t:inR aF 0 1000000=true
 w:inR aG 0 1000=true
 x:inR aH 1 1000000=true
 j:wi a6 aI aJ aK aL aM aN=true
def SF (h:jbOk aJ aK aL aM aN=false):false=wi a6 true aJ aK aL aM aN:=by unfold wi;rw[h];rfl
def SG (h:spI a6 aJ<0):false=wi a6 true aJ aK aL aM aN:=by unfold wi;rw[VC (p:=0<=spI a6 aJ) Uc];simp
def SH (h:jbOk aJ aK aL aM aN=true)(g:0<=spI a6 aJ):cM .geq (spI a6 aK) 0=wi a6 true aJ aK aL aM aN:=by unfold wi;rw[h,VB g];rfl
def af7 (h:cC (sA aD aF) aD.length=false)(hl:layOk a6 a7=true)(ho:objOk a6 a7 a8 a9 aH=true):hoI a6 a7 a8 a9 aA aB aD aF=false:=by rw[MG hl ho,h,Z3]
def ads (i0:0<=i)(i1:i<aD.length)(h:aF<ag aD i 2)(hl:layOk a6 a7=true):hpI a0 a1 a2 a3 a4 a5 a6 a7 a8 a9 aA aB aC aD aE aF aG aH aI aJ aK aL aM aN=false:=by
 by_cases ho:objOk a6 a7 a8 a9 aH=true;exact aaM (af7 (bV i0 i1 (by unfold sA;exact VC Uc)) hl ho);exact aaN (by simpa using ho)
def ado (hl:layOk a6 a7=true)(h:pgS a2 a5 a6 a7=false):hpI a0 a1 a2 a3 a4 a5 a6 a7 a8 a9 aA aB aC aD aE aF aG aH aI aJ aK aL aM aN=false:=aaO (by rw[N2 hl,h];rfl)
def adm (hl:layOk a6 a7=true)(h:smS a2 a6=false):hpI a0 a1 a2 a3 a4 a5 a6 a7 a8 a9 aA aB aC aD aE aF aG aH aI aJ aK aL aM aN=false:=aaO (by rw[N2 hl,h,Z3])
def adi (hl:layOk a6 a7=true)(ho:objOk a6 a7 a8 a9 aH=true)(h:hoS a6 a7 a8 a9 aA aB aD=false):hpI a0 a1 a2 a3 a4 a5 a6 a7 a8 a9 aA aB aC aD aE aF aG aH aI aJ aK aL aM aN=false:=aaM (by rw[MG hl ho,h];rfl)
def ah4 (hl:layOk a6 a7=true)(h:pgS a2 a5 a6 a7=true)(g:smS a2 a6=true):pgI a2 a5 a6 a7=true:=by rw[N2 hl,h,g];rfl
def ahm (hl:layOk a6 a7=true)(ho:objOk a6 a7 a8 a9 aH=true)(h:hoS a6 a7 a8 a9 aA aB aD=true)(i2:(aD.length:Int)<=i)(g:upto (sA aD aF) i):hoI a6 a7 a8 a9 aA aB aD aF=true:=by rw[MG hl ho,h,bJ g i2];rfl
def aiz (h:ag aD i 2<=aF):sA aD aF i=true:=VB h
end
end Go.V
namespace Go.V
def obD (a s ad:Int):Bool:=inR ad a (bK .sub Za (bK .add Za a s) 1)
def obC (os:ab)(ad j:Int):Bool:=obD (ag os j 1) (ag os j 2) ad
def ofI (os:ab)(ad:Int):Int:=cK (obC os ad) os.length
def ooI (b:Bool)(os:ab)(ad:Int):Int:=if b=true then ofI os ad else-1
structure ObB (os:ab):Prop where
 w:Rw [tI,tI,tI,tI] os
 l:os.length<=1099511627776
 b:∀ i:Int,0<=i->i<os.length->0<=ag os i 1/\ag os i 1<=2000/\1<=ag os i 2/\ag os i 2<=1000
end Go.V
namespace Go.V
def ldV (cs us es:ab)(a:Int):Int:=if machOk cs us es=true/\leM es a≠0 then ag (aw cs (leF es a) 0) (leK a) 0 else 0
end Go.V
namespace Go.V
def hlV (o v:Int):Int:=if o<0 then 0 else v
def hlK (o:Int):Int:=if o<0 then 1 else 0
end Go.V
namespace Go.V
end Go.V
namespace Go.V
end Go.V
namespace Go.V
structure PgT (es fr sp lg:ab):Prop where
 l:∀ j:Nat,j<lg.length->∀ q:Int,ag lg j 0<=q->q<ag lg j 0+ag lg j 1->(fpg es q).length=1
 m:∀ q:Int,0<=q->q<es.length->(peM es q≠0↔q∈BA sp lg)
 o:∀ q∈BA sp lg,q<es.length
 c:∀ i j:Nat,i<sp.length->j<sp.length->peF es (ag sp i 0)=peF es (ag sp j 0)->ag sp i 1=ag sp j 1
end Go.V
namespace Go.V
def poN (sp lg fl:ab):Nat->Int
 |0=>0
 |n+1=>poN sp lg fl n+clsSz (ag sp (dnI sp lg (ag fl n 0)) 1)
def ocF (s:Int):Int:=if 0<=clsOf s then clsSz (clsOf s)else s
def ocN (os:ab):Nat->Int
 |0=>0
 |n+1=>ocN os n+ocF (ag os n 2)
end Go.V
namespace Go.V
def RX {k:Int}(h:inR k 0 3=true):clsSz k=1\/clsSz k=2\/clsSz k=4\/clsSz k=8:=by
 have:=bz.1 h;unfold clsSz;repeat' split<;>omega
end Go.V
namespace Go.V
def ceI (cs es:ab)(a:Int):Int:=ag (aw cs (peF es (a/16)) 0) (a%16) 0
def clN (cs es:ab)(a:Int):Nat->ab
 |0=>[]
 |n+1=>clN cs es a n++[[.i (ceI cs es (a+n))]]
structure ClP (cs es:ab)(a i:Int)(o:ab):Prop where
 e:o=clN cs es a i.toNat
structure ObC (cs es os:ab):Prop where
 b:ObB os
 f:∀ j:Int,0<=j->j<os.length->∀ i:Int,0<=i->i<ag os j 2->0<=peF es ((ag os j 1+i)/16)/\peF es ((ag os j 1+i)/16)<cs.length/\(aw cs (peF es ((ag os j 1+i)/16)) 0).length=16
end Go.V
namespace Go.V
end Go.V
namespace Go.V
def qe (k b:Int):Nat->ab
 |0=>[]
 |n+1=>if hsB b ((n:Int)/clsSz k)=true then qe k b n++[[.i n]]else qe k b n
def sclL (p k b:Int):ab:=if spOk p k b=true then qe k b 16 else[]
def vg {k b:Int}:∀ n:Nat,(qe k b n).length<=n
 |0=>Zf _
 | n+1=>by
   have:=vg (k:=k) (b:=b) n;unfold qe;split
   ·rw[Zh];show _+1<=_;omega
   ·omega
def Ha {p k b:Int}:(sclL p k b).length<=16:=by unfold sclL;split;exact vg 16;exact Ze _
structure xD (k b i:Int)(o:ab):Prop where
 e:o=qe k b i.toNat
def On {k b:Int}:xD k b 0 []:=⟨rfl⟩
def Hb {k b i:Int}{o:ab}(h:xD k b i o)(i0:0<=i)(g:hsB b (i/clsSz k)=true):xD k b (i+1) (o++[[.i i]]):=⟨by
 rw[h.e,show(i+1).toNat=i.toNat+1 by omega,qe,Zo i0,VE g]⟩
def KH {k b i:Int}{o:ab}(h:xD k b i o)(i0:0<=i)(g:hsB b (i/clsSz k)=false):xD k b (i+1) o:=⟨by
 rw[h.e,show(i+1).toNat=i.toNat+1 by omega,qe,Zo i0,g];rfl⟩
def TK {p k b:Int}(h:spOk p k b=false):sclL p k b=[]:=by unfold sclL;rw[h];rfl
def KE {p k b i:Int}{o:ab}(h:xD k b i o)(s:spOk p k b=true)(i0:i<=16)(i1:16<=i):o=sclL p k b:=by
 have:i=16:=by omega
 subst this;rw[h.e];unfold sclL;rw[VE s];rfl
def scS (sp:ab):Nat->Int
 |0=>0
 |n+1=>scS sp n+(sclL (ag sp n 0) (ag sp n 1) (ag sp n 2)).length
def lgS (lg:ab):Nat->Int
 |0=>0
 |n+1=>lgS lg n+ag lg n 2
def aal (ls:ab):Nat->Int
 |0=>0
 |n+1=>aal ls n+(aw ls n 0).length*clsSz n
end Go.V
namespace Go.V
structure MkP (f:Int->Bool)(o:ab):Prop where
 w:Rw [tB] o
 l:o.length=16
 v:∀ c:Int,0<=c->c<16->qO o c 0=f c
def mkI (f:Int->Bool)(x:ab)(i c:Int):Bool:=f c||hasB (x.take i.toNat) c
def mkJ (f g:Int->Bool)(i c:Int):Bool:=f c||(decide (c<i)&&g c)
def mbS (es sp:ab)(p:Int):Nat->Int->Bool
 |0,_=>false
 |n+1,c=>mbS es sp p n c||(hasB (fpg es p) (ag sp n 0)&&hasB (sclL (ag sp n 0) (ag sp n 1) (ag sp n 2)) c)
def mbG (es sp lg:ab)(p:Int):Nat->Int->Bool
 |0,c=>mbS es sp p sp.length c
 |n+1,c=>mbG es sp lg p n c||lhB (ag lg n 0) (ag lg n 1) (ag lg n 2) (p*16+c)
end Go.V
namespace Go.V
def ceC (ls:ab):Int:=if caOk ls=true then aal ls ls.length else 0
structure aiM (ls:ab)(i t:Int):Prop where
 e:t=aal ls i.toNat
def acN (cs:ab):Nat->Int
 |0=>0
 |n+1=>acN cs n+ceC (aw cs n 0)
structure AcP (cs:ab)(i t:Int):Prop where
 e:t=acN cs i.toNat
structure OcP (os:ab)(i t:Int):Prop where
 e:t=ocN os i.toNat
structure PoP (sp lg fl:ab)(i t:Int):Prop where
 e:t=poN sp lg fl i.toNat
def KF {k b i:Int}{o:ab}(h:xD k b i o)(i0:0<=i):(o.length:Int)<=i:=by
 rw[h.e];have:=vg (k:=k) (b:=b) i.toNat;omega
def KG {p k b i:Int}{o:ab}(h:xD k b i o)(g:i=0\/spOk p k b=true)(i1:i<=16)(x:16<=i\/spOk p k b=false):o=sclL p k b:=by
 cases c:spOk p k b with
 | true=>
   rcases x with x|x;exact KE h c i1 x
   ·rw[c]at x;cases x
 | false=>
   rcases g with rfl|g
   ·rw[TK c];exact h.e
   ·rw[c]at g;cases g
structure aiQ (sp:ab)(i t:Int):Prop where
 e:t=scS sp i.toNat
structure aiO (sp lg:ab)(i t:Int):Prop where
 e:t=scS sp sp.length+lgS lg i.toNat
def ifZ (b:Bool)(x:Int):Int:=if b=true then x else 0
def zlI (es:ab):Int:=es.length
end Go.V
namespace Go.V
section
variable {cs es fr sp lg: ab} {p k: Int} (hl: layOk sp lg = true) (hp: pgI es fr sp lg = true) (hm: peM es p ≠ 0) (k0: 0 <= k) (k1: k < 16)
include hl hp hm k0 k1
end
structure MsP (es sp:ab)(p i:Int)(o:ab):Prop where
 m:MkP (mbS es sp p i.toNat) o
structure McP (es sp:ab)(p i j:Int)(o:ab):Prop where
 m:MkP (mkI (mbS es sp p i.toNat) (sclL (ag sp i 0) (ag sp i 1) (ag sp i 2)) j) o
structure MgP (es sp lg:ab)(p i:Int)(o:ab):Prop where
 m:MkP (mbG es sp lg p i.toNat) o
structure MdP (es sp lg:ab)(p i j:Int)(o:ab):Prop where
 m:MkP (mkJ (mbG es sp lg p i.toNat) (fun c=>lhB (ag lg i 0) (ag lg i 1) (ag lg i 2) (p*16+c)) j) o
def Tu {l:ab}{i:Int}(h:Rw [tB] l)(h0:0<=i)(h1:i<l.length):∃ rec o,bT (L.s 1 l) [(i.toNat,0)]=some (rec,o)/\o+[L.v (X3 false)].length<=rec.length/\Yp [L.v (X3 false)].length (YI o rec)=oB ah (L.s 1 l) [(i.toNat,0)] 0 [L.v (X3 false)]:=
 rM (z0:=[.v (.bool false)]) (z:=[.v (.bool false)]) h.wf Uc rfl (by decide)
def abX {l:ab}{i:Int}(h0:0<=i):Tv (.s 1 l) [(i.toNat,0)]=qO l i 0:=by
 rw[NY];unfold qO;rw[ZA]
def Fx {k b:Int}:∀ n:Nat,n<=16->Rw [tI] (qe k b n)
 |0,_=>Rw.nil
 | n+1,h=>by
   have l:=vg (k:=k) (b:=b) n;unfold qe;split;exact Rw.append (Fx n Uc) (acb Uc) (by unfold maxLen;simp only[Zp,Zt];omega);exact Fx n Uc
def KD {p k b:Int}:Rw [tI] (sclL p k b):=by unfold sclL;split;exact Fx 16 (Zf _);exact Rw.nil
end Go.V
namespace Go.V
section
variable {r0 r1 r2 r3 r4 r5 r6 r7 r8 r9 r10 r11 r12: ab}
def Mj {n:Nat}(h:aP [r0,r1,r2,r3,r4,r5,r6,r7,r8,r9,r10,r11,r12]<=n):au r0<=n/\au r1<=n/\au r2<=n/\au r3<=n/\au r4<=n/\au r5<=n/\au r6<=n/\au r7<=n/\au r8<=n/\au r9<=n/\au r10<=n/\au r11<=n/\au r12<=n:=⟨ga h (by simp),ga h (by simp),ga h (by simp),ga h (by simp),ga h (by simp),ga h (by simp),ga h (by simp),ga h (by simp),ga h (by simp),ga h (by simp),ga h (by simp),ga h (by simp),ga h (by simp)⟩
def S7 (h0:Rw [.sl [tI]] r0)(h1:Rw [tB] r1)(h2:Rw [tI,tI] r2)(h3:Rw [tI] r3)(h4:Rw [tI,tI] r4)(h5:Rw [tI,tI,tI] r5)(h6:Rw [tI,tI,tI] r6)(h7:Rw [tI,tI,tI,tI] r7)(h8:Rw [.sl [.sl [tI]]] r8)(h9:Rw [.sl [tI,tI]] r9)(h10:Rw [.sl [tI]] r10)(h11:Rw [tI,tI,tI] r11)(h12:Rw [tI] r12)(hc:aP [r0,r1,r2,r3,r4,r5,r6,r7,r8,r9,r10,r11,r12]<=1099511627776):bj [r0,r1,r2,r3,r4,r5,r6,r7,r8,r9,r10,r11,r12] 1<=1152921504606846976:=Nl (by intro r hr;simp only[Zk,Yv,or_false]at hr;rcases hr with rfl|rfl|rfl|rfl|rfl|rfl|rfl|rfl|rfl|rfl|rfl|rfl|rfl;exact h0.marks (by decide);exact h1.marks (by decide);exact h2.marks (by decide);exact h3.marks (by decide);exact h4.marks (by decide);exact h5.marks (by decide);exact h6.marks (by decide);exact h7.marks (by decide);exact h8.marks (by decide);exact h9.marks (by decide);exact h10.marks (by decide);exact h11.marks (by decide);exact h12.marks (by decide)) hc
def mkQ (p:List ab):List ab->Prop
 |[]=>True
 |r::rs=>dL r (bj p 1)=dL r (bj (GU p 1) 1)/\mkQ (p++[r]) rs
def Nq:∀ (p rs:List ab),mkQ p rs
 |_,[]=>True.intro
 |p,_::rs=>⟨congrArg _ Bi.symm,Nq (p++_) rs⟩
def ahU (h0:Rw [.sl [tI]] r0)(h1:Rw [tB] r1)(h2:Rw [tI,tI] r2)(h3:Rw [tI] r3)(h4:Rw [tI,tI] r4)(h5:Rw [tI,tI,tI] r5)(h6:Rw [tI,tI,tI] r6)(h7:Rw [tI,tI,tI,tI] r7)(h8:Rw [.sl [.sl [tI]]] r8)(h9:Rw [.sl [tI,tI]] r9)(h10:Rw [.sl [tI]] r10)(h11:Rw [tI,tI,tI] r11)(h12:Rw [tI] r12)(hc:aP [r0,r1,r2,r3,r4,r5,r6,r7,r8,r9,r10,r11,r12]<=1099511627776):bj [r0,r1,r2,r3,r4,r5,r6,r7,r8,r9,r10,r11,r12] 1<=1152921504606846976/\mkQ [r0] [r1,r2,r3,r4,r5,r6,r7,r8,r9,r10,r11,r12]/\bj (GU [r0,r1,r2,r3,r4,r5,r6,r7,r8,r9,r10,r11,r12] 1) 1=bj [r0,r1,r2,r3,r4,r5,r6,r7,r8,r9,r10,r11,r12] 1/\(au r0<=1099511627776/\au r1<=1099511627776/\au r2<=1099511627776/\au r3<=1099511627776/\au r4<=1099511627776/\au r5<=1099511627776/\au r6<=1099511627776/\au r7<=1099511627776/\au r8<=1099511627776/\au r9<=1099511627776/\au r10<=1099511627776/\au r11<=1099511627776/\au r12<=1099511627776):=
 ⟨S7 h0 h1 h2 h3 h4 h5 h6 h7 h8 h9 h10 h11 h12 hc,Nq _ _,Bi,Mj hc⟩
end
end Go.V
namespace Go.V
def dlT (b:ab)(f:Int):Int:=ag (aw b f 0) 0 0
structure DlT (b x:ab)(f:Int):Prop where
 m:mailOk b x=true
 f0:0<=f
 f1:f<b.length
 n:0<(aw b f 0).length
 t0:0<=dlT b f
 t1:dlT b f<b.length
 l:x.length=b.length
end Go.V
namespace Go.V
structure HsT (cs us es:ab)(a:Int):Prop where
 a0:0<=a
 m:smM cs us es a=peM es (a/16)
 f:smF cs us es a=peF es (a/16)
 n:smM cs us es a≠0
section
variable {a0 a1 a2: ab} {a3: Int} {a4 a5 a6 a7 a8 a9 aA aB: ab} {aC: Int} {aD: ab} {aE aF aG aH: Int} {aI: Bool} {aJ aK: Int} {aL: ab} {aM aN: Int}
end
end Go.V
namespace Go.V
abbrev Pr :=Int×Int
def jnS (o:List Pr)(x:Pr):List Pr:=match o.getLast? with
 |some y=>if y.1+y.2=x.1 then o.dropLast++[(y.1,y.2+x.2)]else o++[x]
 |none=>o++[x]
structure Ip where
 o:List Pr
 r:Pr
 d:Bool
def ipS (s:Ip)(x:Pr):Ip:=
 if x.1+x.2=s.r.1 then⟨s.o,(x.1,x.2+s.r.2),s.d⟩
 else if s.r.1+s.r.2=x.1 then⟨s.o,(s.r.1,s.r.2+x.2),s.d⟩
 else if s.r.1<x.1/\s.d=false then⟨s.o++[s.r,x],s.r,true⟩
 else⟨s.o++[x],s.r,s.d⟩
def ipE (s:Ip):List Pr:=if s.d then s.o else s.o++[s.r]
def ipL (l:List Pr)(r:Pr):List Pr:=ipE (l.foldl ipS ⟨[],r,false⟩)
structure Sp where
 o:List Pr
 d:Bool
def rsS (r:Pr)(s:Sp)(x:Pr):Sp:=if s.d=false/\r.1<x.1 then⟨s.o++[r]++[x],true⟩else⟨s.o++[x],s.d⟩
def chP:List Pr->Prop
 |[]=>True
 |[x]=>0<x.2
 |x::y::l=>0<x.2/\x.1+x.2<y.1/\chP (y::l)
end Go.V
namespace Go.V
structure oR (cs us es:ab):Prop where
 n0:1<=cs.length
 n1:cs.length<=32
 u:us.length=cs.length
 l:∀ i:Int,0<=i->i<cs.length->(aw cs i 0).length=16
 c:∀ i k:Int,0<=i->i<cs.length->0<=k->k<16->0<=ag (aw cs i 0) k 0/\ag (aw cs i 0) k 0<=999/\(qO us i 0=false->ag (aw cs i 0) k 0=0)
 e0:1<=es.length
 e1:es.length<=32
 e:∀ i:Int,0<=i->i<es.length->0<=ag es i 0/\ag es i 0<=2/\(ag es i 0=0->ag es i 1=0)/\(0<ag es i 0->0<=ag es i 1/\ag es i 1<cs.length)
 m:∀ i:Int,0<=i->i<cs.length->qO us i 0=gP es i
def abA {cs us es:ab}(h:machOk cs us es=true):oR cs us es:=by
 obtain⟨h1,h2,h3⟩:=S6 h;have a:=A7 h1;have b:=BW h2;refine⟨a.2.1,a.2.2,a.1,fun i i0 i1=>Si h1 i0 i1,fun i k i0 i1 k0 k1=>?_,b.1,b.2,fun i i0 i1=>T4 h2 i0 i1,h3⟩;have q:=h1;unfold framesOk at q;simp only[Zc,VD]at q;have r:=dN.1 q.2 i i0 i1;unfold hN at r;simp only[Zc,VD]at r;have s:=dN.1 r.2 k k0 Uc;unfold nP at s;simp only[Zc,ZU,VD]at s;have t:=bz.1 s.1;refine⟨t.1,t.2,fun f=>?_⟩;rcases s.2 with w|w
 ·rw[f]at w;cases w
 ·exact w
def abB {cs us es:ab}(h:oR cs us es):machOk cs us es=true:=by
 have f:framesOk cs us=true:=My (i:=cs.length) (bz.2 ⟨by have:=h.n0;omega,by have:=h.n1;omega⟩) h.u (fun i i0 i1=>Sj (k:=16) (h.l i i0 i1) (fun k k0 k1=>by
  have c:=h.c i k i0 i1 k0 k1;refine RV (bz.2 ⟨c.1,c.2.1⟩) ?_;cases q:qO us i 0 with
  |true=>exact .inl rfl
  |false=>exact .inr (c.2.2 q)) (Yh _)) (Yh _)
 have t:tableOk es us.length=true:=by
  rw[OI (i:=es.length) (fun i i0 i1=>T5 (by have:=h.e i i0 i1;rw[h.u];exact this)) (Yh _)];exact bz.2 ⟨by have:=h.e0;omega,by have:=h.e1;omega⟩
 exact IA (i:=us.length) f t (fun i i0 i1=>Nn (h.m i i0 (by rw[h.u]at i1;exact i1))) (Yh _)
def Np {es:ab}{f:Int}:∀ {n:Nat},0<(vu es f n).length↔∃ i:Nat,i<n/\ag es i 0≠0/\ag es i 1=f
 |0=>⟨fun h=>absurd h (Nat.lt_irrefl _),fun⟨i,h,_⟩=>absurd h Uc⟩
 | n+1=>by
   by_cases c:ag es n 0≠0/\ag es n 1=f
   ·rw[vu,VE c,Zh];exact⟨fun _=>⟨n,Uc,c⟩,fun _=>by simp only[Zp,Zt];omega⟩
   ·rw[vu,VF c,Np (n:=n)]
    constructor
    ·rintro⟨i,h,q⟩;exact⟨i,Uc,q⟩
    ·rintro⟨i,h,q⟩;by_cases z:i=n
     ·subst z;exact absurd q c
     ·exact⟨i,Uc,q⟩
def pa {es:ab}{f:Int}:gP es f=true↔∃ i:Nat,i<es.length/\ag es i 0≠0/\ag es i 1=f:=E5.trans Np
def A9 {es:ab}{n i:Nat}{r:ax}(h:n<es.length):(es.set n r).getD i []=if i=n then r else es.getD i []:=by
 simp only[Zn,List.getElem?_set];by_cases c:n=i
 ·subst c;rw[VE rfl,VE h,VE rfl];rfl
 ·rw[VF c,VF (Ne.symm c)]
def giS {es:ab}{n i:Int}{r:ax}{j:Nat}(n0:0<=n)(n1:n<es.length)(i0:0<=i):ag (es.set n.toNat r) i j=if i=n then SX (r.getD j .g)else ag es i j:=by
 unfold ag;rw[A9 Uc];by_cases c:i=n
 ·rw[VE Uc,VE c]
 ·rw[VF Uc,VF c]
def gbS {es:ab}{n i:Int}{r:ax}{j:Nat}(n0:0<=n)(n1:n<es.length)(i0:0<=i):qO (es.set n.toNat r) i j=if i=n then lfB (r.getD j .g)else qO es i j:=by
 unfold qO;rw[A9 Uc];by_cases c:i=n
 ·rw[VE Uc,VE c]
 ·rw[VF Uc,VF c]
def gsS {es:ab}{n i:Int}{r:ax}{j:Nat}(n0:0<=n)(n1:n<es.length)(i0:0<=i):aw (es.set n.toNat r) i j=if i=n then LE (r.getD j .g)else aw es i j:=by
 unfold aw;rw[A9 Uc];by_cases c:i=n
 ·rw[VE Uc,VE c]
 ·rw[VF Uc,VF c]
def umE (es:ab)(p:Int):ab:=es.set p.toNat [.i 0,.i 0]
def dfU (us es:ab)(f:Int):ab:=if gP es f=true then us else us.set f.toNat [.v (.bool false)]
def dfC (cs es:ab)(f:Int):ab:=if gP es f=true then cs else cs.set f.toNat [.s 1 (oJ 16 [.i 0])]
def P5 {k:Int}(k0:0<=k)(k1:k<16):ag (oJ 16 [.i 0]) k 0=0:=by
 show ag (ZM 16 [L.i 0]) k 0=0;unfold ag;rw[Zn (l:=ZM _ _),List.getElem?_replicate,VE Uc];rfl
def acY {cs us es es':ab}{f:Int}(h:oR cs us es)(f0:0<=f)(f1:f<cs.length)(l:es'.length=es.length) 
 (e:∀ i:Int,0<=i->i<es.length->0<=ag es' i 0/\ag es' i 0<=2/\(ag es' i 0=0->ag es' i 1=0)/\(0<ag es' i 0->0<=ag es' i 1/\ag es' i 1<cs.length))
 (m:∀ i:Int,0<=i->i<cs.length->i≠f->gP es' i=gP es i) (g:gP es' f=true->gP es f=true):oR (dfC cs es' f) (dfU us es' f) es':=by
 unfold dfC dfU;by_cases q:gP es' f=true
 ·rw[VE q,VE q];refine⟨h.n0,h.n1,h.u,h.l,h.c,by rw[l];exact h.e0,by rw[l];exact h.e1,fun i i0 i1=>e i i0 Uc,fun i i0 i1=>?_⟩;by_cases c:i=f
  ·rw[c,q,h.m f f0 f1,g q]
  ·rw[m i i0 i1 c];exact h.m i i0 i1
 ·have hu:=h.u;rw[VF q,VF q];refine⟨by rw[ZH];exact h.n0,by rw[ZH];exact h.n1,by rw[ZH,ZH];exact h.u,fun i i0 i1=>?_,fun i k i0 i1 k0 k1=>?_,by rw[l];exact h.e0,by rw[l];exact h.e1,fun i i0 i1=>by rw[ZH];exact e i i0 Uc,fun i i0 i1=>?_⟩
  ·rw[ZH]at i1;rw[gsS f0 f1 i0];split;rfl;exact h.l i i0 i1
  ·rw[ZH]at i1;rw[gsS f0 f1 i0,gbS f0 Uc i0];split
   ·show 0<=ag (oJ 16 [.i 0]) k 0/\ag (oJ 16 [.i 0]) k 0<=999/\(_->ag (oJ 16 [.i 0]) k 0=0);rw[P5 k0 k1];exact⟨Uc,Uc,fun _=>rfl⟩
   ·exact h.c i k i0 i1 k0 k1
  ·rw[ZH]at i1;rw[gbS f0 Uc i0];split
   ·rename_i c;subst c;show false=_;cases z:gP es' i with
    |false=>rfl
    |true=>exact absurd z q
   ·rename_i c;rw[m i i0 i1 c];exact h.m i i0 i1
end Go.V
namespace Go.V
def DX {es:ab}{p:Int}(h:peM es p≠0):(0<=p/\p<es.length)/\peM es p=ag es p 0/\peF es p=ag es p 1:=by
 have pr:0<=p/\p<es.length:=by
  by_cases c:0<=p/\p<es.length;exact c;exact absurd (uZ c).1 h
 exact⟨pr,by unfold peM;rw[VE pr],by unfold peF;rw[VE pr]⟩
def so (es:ab)(p m f:Int):ab:=es.set p.toNat [.i m,.i f]
def jX {es:ab}{p m f:Int}:(so es p m f).length=es.length:=ZH
def oM {es:ab}{p m f:Int}(p0:0<=p)(p1:p<es.length)(i:Int)(i0:0<=i):ag (so es p m f) i 0=(if i=p then m else ag es i 0)/\ag (so es p m f) i 1=if i=p then f else ag es i 1:=⟨giS p0 p1 i0,giS p0 p1 i0⟩
def BM {es:ab}{p m f g:Int}(p0:0<=p)(p1:p<es.length)(hm:m≠0):gP (so es p m f) g=true↔f=g\/∃ i:Nat,i<es.length/\(i:Int)≠p/\ag es i 0≠0/\ag es i 1=g:=by
 rw[pa,jX]
 constructor
 ·rintro⟨i,i1,a,b⟩;rw[(oM p0 p1 i Uc).1]at a;rw[(oM p0 p1 i Uc).2]at b;by_cases c:(i:Int)=p
  ·rw[VE c]at b;exact .inl b
  ·rw[VF c]at a b;exact .inr ⟨i,i1,c,a,b⟩
 ·rintro(q|⟨i,i1,c,a,b⟩)
  ·obtain⟨n,rfl⟩:=Yc p0;exact⟨n,Uc,by rw[(oM p0 p1 n Uc).1,VE rfl];exact hm,by rw[(oM p0 p1 n Uc).2,VE rfl];exact q⟩
  ·exact⟨i,i1,by rw[(oM p0 p1 i Uc).1,VF c];exact a,by rw[(oM p0 p1 i Uc).2,VF c];exact b⟩
def TL {es:ab}{p m f:Int}{n:Nat}(p0:0<=p)(p1:p<es.length)(hm:1<=m/\m<=2)(hf:0<=f/\f<n) 
 (e:∀ i:Int,0<=i->i<es.length->0<=ag es i 0/\ag es i 0<=2/\(ag es i 0=0->ag es i 1=0)/\(0<ag es i 0->0<=ag es i 1/\ag es i 1<n)):
 ∀ i:Int,0<=i->i<es.length->0<=ag (so es p m f) i 0/\ag (so es p m f) i 0<=2/\(ag (so es p m f) i 0=0->ag (so es p m f) i 1=0)/\(0<ag (so es p m f) i 0->0<=ag (so es p m f) i 1/\ag (so es p m f) i 1<n):=fun i i0 i1=>by
 rw[(oM p0 p1 i i0).1,(oM p0 p1 i i0).2];split;exact⟨Uc,Uc,fun q=>by omega,fun _=>hf⟩;exact e i i0 i1
def afk {cs us es:ab}{p m:Int}(h:oR cs us es)(hp:peM es p≠0)(hm:1<=m/\m<=2):oR cs us (so es p m (peF es p)):=by
 obtain⟨pr,em,ef⟩:=DX hp;rw[em]at hp;have ep:=h.e p pr.1 pr.2;have fr:=ep.2.2.2 Uc;rw[ef];refine⟨h.n0,h.n1,h.u,h.l,h.c,by rw[jX];exact h.e0,by rw[jX];exact h.e1,fun i i0 i1=>TL pr.1 pr.2 hm fr h.e i i0 (by rw[jX]at i1;exact i1),fun i i0 i1=>?_⟩;rw[h.m i i0 i1,X5,BM pr.1 pr.2 Uc,pa]
 constructor
 ·rintro⟨k,k1,a,b⟩;by_cases c:(k:Int)=p
  ·rw[c]at b;exact .inl b
  ·exact .inr ⟨k,k1,c,a,b⟩
 ·rintro(q|⟨k,k1,_,a,b⟩)
  ·obtain⟨n,rfl⟩:=Yc pr.1;exact⟨n,Uc,hp,q⟩
  ·exact⟨k,k1,a,b⟩
def aer {cs us es:ab}{p q:Int}(h:oR cs us es)(hp:peM es p≠0)(hq:peM es q≠0)(ne:p≠q):oR (dfC cs (so es p 2 (peF es q)) (peF es p)) (dfU us (so es p 2 (peF es q)) (peF es p)) (so es p 2 (peF es q)):=by
 obtain⟨pr,em,ef⟩:=DX hp;obtain⟨qr,qm,qf⟩:=DX hq;rw[em]at hp;rw[qm]at hq;have ep:=h.e p pr.1 pr.2;have eq:=h.e q qr.1 qr.2;have fp:=ep.2.2.2 Uc;have fq:=eq.2.2.2 Uc;rw[ef,qf];obtain⟨n,rfl⟩:=Yc qr.1;refine acY h fp.1 fp.2 jX (TL pr.1 pr.2 Uc fq h.e) (fun i i0 i1 nf=>?_) (fun z=>?_)
 ·rw[X5,BM pr.1 pr.2 Uc,pa]
  constructor
  ·rintro(c|⟨k,k1,_,a,b⟩);exact⟨n,Uc,hq,c⟩;exact⟨k,k1,a,b⟩
  ·rintro⟨k,k1,a,b⟩;refine .inr ⟨k,k1,fun c=>?_,a,b⟩;rw[c]at b;exact nf b.symm
 ·rcases(BM pr.1 pr.2 Uc).1 z with c|⟨k,k1,_,a,b⟩;exact pa.2 ⟨n,Uc,hq,c⟩;exact pa.2 ⟨k,k1,a,b⟩
def TR {cs us es:ab}{p f k v:Int}(h:oR cs us es)(hp:peM es p≠0)(ef':peF es p=f)(k0:0<=k)(k1:k<16)(v0:0<=v)(v1:v<=999):oR (sU cs f k v) us es:=by
 obtain⟨pr,em,ef⟩:=DX hp;rw[em]at hp;have ep:=h.e p pr.1 pr.2;have fr:=ep.2.2.2 Uc;rw[<-ef,ef']at fr;have used:qO us f 0=true:=by
  rw[h.m f fr.1 fr.2];obtain⟨n,rfl⟩:=Yc pr.1;exact pa.2 ⟨n,Uc,hp,by rw[<-ef,ef']⟩
 have lf:=h.l f fr.1 fr.2;unfold sU;refine⟨by rw[ZH];exact h.n0,by rw[ZH];exact h.n1,by rw[ZH];exact h.u,fun i i0 i1=>?_,fun i j i0 i1 j0 j1=>?_,h.e0,h.e1,fun i i0 i1=>by rw[ZH];exact h.e i i0 i1,fun i i0 i1=>by rw[ZH]at i1;exact h.m i i0 i1⟩
 ·rw[ZH]at i1;rw[gsS fr.1 fr.2 i0];split
  ·show((aw cs f 0).set k.toNat _).length=16;rw[ZH,lf]
  ·exact h.l i i0 i1
 ·rw[ZH]at i1;rw[gsS fr.1 fr.2 i0];split
  ·rename_i c;subst c;show 0<=ag ((aw cs i 0).set k.toNat [.i v]) j 0/\ag ((aw cs i 0).set k.toNat [.i v]) j 0<=999/\(_->ag ((aw cs i 0).set k.toNat [.i v]) j 0=0);rw[giS k0 Uc j0];have c:=h.c i j i0 i1 j0 j1;split;exact⟨v0,v1,fun q=>by rw[used]at q;cases q⟩;exact c
  ·exact h.c i j i0 i1 j0 j1
end Go.V
namespace Go.V
def aiJ (e:ax):Pr:=(SX (e.getD 0 .g),SX (e.getD 1 .g))
def O8 (es:ab):List Pr:=es.map aiJ
def frP (p:Pr):ax:=[.i p.1,.i p.2]
def rowP (l:List Pr):ab:=l.map frP
structure RgT (n:Int)(rs:ab):Prop where
 n0:1<=n
 n1:n<=32
 c:chP (O8 rs)
 b:∀ x∈O8 rs,0<=x.1/\1<=x.2/\x.1+x.2<=n
def ovB (x r:Pr):Bool:=decide (x.1<r.1+r.2)&&decide (r.1<x.1+x.2)
def rpB (n:Int)(rs:ab)(a l:Int):Bool:=rgOk n rs&&(rngIn n a l&&(O8 rs).all fun x=> !ovB x (a,l))
def rpL (n:Int)(rs:ab)(a l:Int):ab:=if rpB n rs a l=true then rowP (ipL (O8 rs) (a,l))else rs
structure RpP (rs:ab)(a0 l0 i:Int)(o:ab)(a l:Int)(d:Bool):Prop where
 s:∃ o',o=rowP o'/\((O8 rs).take i.toNat).foldl ipS ⟨[],(a0,l0),false⟩=⟨o',(a,l),d⟩
 n:∀ x∈(O8 rs).take i.toNat,ovB x (a0,l0)=false
 v:∀ x∈(O8 rs).drop i.toNat,ovB x (a,l)=ovB x (a0,l0)
 b:0<=a/\1<=l/\a+l<=32
end Go.V
namespace Go.V
section
variable {n: Int} {rs: ab} {a0 l0 i: Int} {o: ab} {a l: Int} {d: Bool}
structure aiP (rs:ab)(a0 l0 i:Int)(o:ab)(d:Bool):Prop where
 s:∃ o',o=rowP o'/\((O8 rs).take i.toNat).foldl (rsS (a0,l0)) ⟨[],false⟩=⟨o',d⟩
 n:∀ x∈(O8 rs).take i.toNat,ovB x (a0,l0)=false
 m:o.length<=2*i.toNat
end
end Go.V
namespace Go.V
def agd {o:ab}{n:Int}{x:Value}(h:Rw [tI,tI] o)(n0:0<=n)(n1:n<o.length):vk (.s 2 o) [(n.toNat,0)] [.v x]=o.set n.toNat [.v x,.i (ag o n 1)]:=by
 show o.set n.toNat ((o.getD n.toNat []).take 0++[.v x]++(o.getD n.toNat []).drop (0+1))=_;rw[h.eta n0 n1];rfl
def af5 {o:ab}{n:Int}{j:Nat}(h:Rw [tI,tI] o)(n0:0<=n)(n1:n<o.length)(hj:j<2):∃ rec o',bT (.s 2 o) [(n.toNat,j)]=some (rec,o')/\o'+1<=rec.length:=il Uc (by
 rw[h.eta n0 n1];show j+1<=2;omega)
def Ir {o:ab}{n:Int}{j:Nat}(h:Rw [tI,tI] o)(n0:0<=n)(n1:n<o.length)(hj:j<2):∃ rec o',bT (L.s 2 o) [(n.toNat,j)]=some (rec,o')/\o'+[L.v (Zq ZG 0)].length<=rec.length/\Yp [L.v (Zq ZG 0)].length (YI o' rec)=oB ah (L.s 2 o) [(n.toNat,j)] 0 [L.v (Zq ZG 0)]:=by
 rcases(show j=0\/j=1 by omega)with rfl|rfl
 ·exact rM (z0:=[.i 0,.i 0]) (z:=[.i 0]) h.wf Uc rfl (by decide)
 ·exact rM (z0:=[.i 0,.i 0]) (z:=[.i 0]) h.wf Uc rfl (by decide)
def pe {l:ab}{sz j:Nat}{i:Int}(h0:0<=i):C7 (.s sz l) [(i.toNat,j)]=ag l i j:=by
 rw[IR];unfold ag;rw[ZA]
structure JnP (rs:ab)(i:Int)(o:ab):Prop where
 s:o=rowP (((O8 rs).take i.toNat).foldl jnS [])
 l:o.length<=i.toNat
section
variable {rs o: ab} {i: Int}
end
end Go.V
namespace Go.V
def bsN (rs:ab)(n:Int):Nat->Int
 |0=> -1
 |k+1=>if n<=ag rs k 1/\(bsN rs n k<0\/ag rs k 1<ag rs (bsN rs n k) 1)then k else bsN rs n k
def j8 (rs:ab)(n:Int):Int:=bsN rs n rs.length
structure BsP (rs:ab)(n i b:Int):Prop where
 e:b=bsN rs n i.toNat
section
variable {rs: ab} {n i b: Int}
end
def tkB (p:Int)(rs:ab)(n:Int):Bool:=rgOk p rs&&(decide (1<=n)&&decide (0<=j8 rs n))
def ag5 (rs:ab)(b:Int):ab:=rs.take b.toNat++rs.drop (b+1).toNat
def tkL (p:Int)(rs:ab)(n:Int):ab:=if tkB p rs n=true then(if ag rs (j8 rs n) 1=n then ag5 rs (j8 rs n)else rs.set (j8 rs n).toNat [.i (ag rs (j8 rs n) 0+n),.i (ag rs (j8 rs n) 1-n)])else rs
def tkA (p:Int)(rs:ab)(n:Int):Int:=if tkB p rs n=true then ag rs (j8 rs n) 0 else-1
structure TkT (p:Int)(rs:ab)(n:Int):Prop where
 i0:0<=j8 rs n
 i1:j8 rs n<rs.length
 n0:1<=n
 a0:0<=ag rs (j8 rs n) 0
 l0:n<=ag rs (j8 rs n) 1
 e:ag rs (j8 rs n) 0+ag rs (j8 rs n) 1<=p
 p0:p<=32
end Go.V
namespace Go.V
def Sg (b:Int):Nat->ab
 |0=>[]
 |k+1=>if hsB b k=true then Sg b k else Sg b k++[[.i k]]
def frL (n b:Int):ab:=if bmOk n b=true then Sg b n.toNat else[]
def JJ {b:Int}:∀ k:Nat,(Sg b k).length<=k
 |0=>Zf _
 | k+1=>by
   have:=JJ (b:=b) k;unfold Sg;split;omega
   ·rw[Zh];show _+1<=_;omega
structure FrP (b i:Int)(o:ab):Prop where
 e:o=Sg b i.toNat
def Ic {b:Int}:∀ k:Nat,k<=1024->Rw [tI] (Sg b k)
 |0,_=>Rw.nil
 | k+1,h=>by
   have l:=JJ (b:=b) k;unfold Sg;split;exact Ic k Uc;exact Rw.append (Ic k Uc) (acb Uc) (by unfold maxLen;simp only[Zp,Zt];omega)
end Go.V
namespace Go.V
def clB (ls:ab)(k:Int):Bool:=inR k 0 3&&caOk ls
def ctB (ls:ab)(k:Int):Bool:=clB ls k&&decide (0<(aw ls k 0).length)
def ctL (ls:ab)(k:Int):ab:=if ctB ls k=true then ls.set k.toNat [.s 1 ((aw ls k 0).take ((aw ls k 0).length-1))]else ls
def ctA (ls:ab)(k:Int):Int:=if ctB ls k=true then ag (aw ls k 0) ((aw ls k 0).length-1) 0 else-1
def cuL (ls:ab)(k a:Int):ab:=ls.set k.toNat [.s 1 (aw ls k 0++[[.i a]])]
def ag4 (ls:ab)(k a:Int):Bool:=clB ls k&&caOk (cuL ls k a)
def czN (ls:ab)(k n:Int):Nat:=min n.toNat (aw ls k 0).length
def clO (ls:ab)(k n:Int):Bool:=clB ls k&&decide (1<=n)
def clK (ls:ab)(k n:Int):ab:=if clO ls k n=true then ls.set k.toNat [.s 1 ((aw ls k 0).drop (czN ls k n))]else ls
def aci {ls r:ab}{k:Nat}(h:Rw [.sl [tI]] ls)(g:Rw [tI] r):Rw [.sl [tI]] (ls.set k [.s 1 r]):=Rw.set h (show bW [.sl [tI]] [.s 1 r]from⟨⟨rfl,g⟩,trivial⟩) _
end Go.V
namespace Go.V
def qdN:ab->Int->Nat
 |[],_=>0
 |e::l,r=>if qcI (e::l)<=r then 0 else qdN l r+1
structure QdP (l:ab)(r i:Int):Prop where
 e:i.toNat<=qdN l r
section
variable {l: ab} {r i: Int}
end
def stR (a c s:Int):ax:=[.i a,.i c,.i s]
def qaB (rm:Int)(qs:ab)(a c s:Int):Bool:=quarOk rm qs&&stlOk qs a c s
def qaL (rm:Int)(qs:ab)(a c s:Int):ab:=if qaB rm qs a c s=true then(qs++[stR a c s]).drop (qdN (qs++[stR a c s]) rm)else qs
def qaR (rm:Int)(qs:ab)(a c s:Int):ab:=if qaB rm qs a c s=true then(qs++[stR a c s]).take (qdN (qs++[stR a c s]) rm)else[]
def qeN:ab->Int->Nat
 |[],_=>0
 |e::l,t=>if SX (e.getD 2 .g)<t then qeN l t+1 else 0
structure QeP (l:ab)(t i:Int):Prop where
 e:i.toNat<=qeN l t
section
variable {l: ab} {t i: Int}
end
def qeB (rm:Int)(qs:ab)(now age:Int):Bool:=quarOk rm qs&&(inR now 0 1000000&&inR age 0 1000000)
def qeL (rm:Int)(qs:ab)(now age:Int):ab:=if qeB rm qs now age=true then qs.drop (qeN qs (now-age))else qs
def QH (rm:Int)(qs:ab)(now age:Int):ab:=if qeB rm qs now age=true then qs.take (qeN qs (now-age))else[]
end Go.V
namespace Go.V
def JE {k:Nat}:∀ {l:ab},(∀ e∈l,dO e<=k)->bO l<=k*l.length
 |[],_=>Ze _
 | e::l,h=>by
   have a:=h e (by simp);have b:=JE (l:=l) (fun x hx=>h x (by simp[hx]));simp only[bO,Zp,Nat.mul_succ];omega
def J8 {cs us es:ab}(h:oR cs us es)(rc:Rw [.sl [tI]] cs)(ru:Rw [tB] us)(re:Rw [tI,tI] es):au cs<=1024/\au us<=64/\au es<=64:=by
 have n1:=h.n1;have hu:=h.u;have e1:=h.e1;refine⟨?_,?_,?_⟩
 ·have q:bO cs<=16*cs.length:=JE fun e he=>by
   obtain⟨i,hi,rfl⟩:=List.getElem_of_mem he;have a:=rc.eta (i:=i) Uc Uc;rw[Zn,ZA,Zr hi,Option.getD_some]at a;rw[a];show dO [.s 1 (aw cs i 0)]<=16;have l:=h.l i Uc Uc;have w:=(Rw.sub (fs:=[.sl [tI]]) (j:=0) (i:=(i:Int)) rc Uc rfl).cnt rfl;have e:dO [.s 1 (aw cs i 0)]=au (aw cs i 0):=by simp only[dO,gW,au];omega
   rw[e,w];omega
  unfold au;omega
 ·rw[ru.cnt rfl];omega
 ·rw[re.cnt rfl];omega
def kmB (us es:ab)(c:Int)(rs:ab)(p:Int):Bool:=(!hasB rs c&&decide (0<=Mz us))&&(inR p 0 (es.length-1)&&decide (peM es p=0))
def kmU (us es:ab)(c:Int)(rs:ab)(p:Int):ab:=if kmB us es c rs p=true then us.set (Mz us).toNat [.v (.bool true)]else us
def kmE (us es:ab)(c:Int)(rs:ab)(p:Int):ab:=if kmB us es c rs p=true then so es p 2 (Mz us)else es
def kuC (cs es:ab)(p:Int):ab:=if peM es p≠0 then dfC cs (umE es p) (peF es p)else cs
def kuU (us es:ab)(p:Int):ab:=if peM es p≠0 then dfU us (umE es p) (peF es p)else us
def kuE (es:ab)(p:Int):ab:=if peM es p≠0 then umE es p else es
def kpB (es:ab)(c:Int)(rs:ab)(p m:Int):Bool:= !hasB rs c&&(decide (peM es p≠0)&&(decide (m=1)||decide (m=2)))
def kpE (es:ab)(c:Int)(rs:ab)(p m:Int):ab:=if kpB es c rs p m=true then so es p m (peF es p)else es
def koB (es:ab)(c:Int)(rs:ab)(p q:Int):Bool:= !hasB rs c&&(decide (peM es p≠0)&&(decide (peM es q≠0)&&decide (p≠q)))
def koC (cs es:ab)(c:Int)(rs:ab)(p q:Int):ab:=if koB es c rs p q=true then dfC cs (so es p 2 (peF es q)) (peF es p)else cs
def koU (us es:ab)(c:Int)(rs:ab)(p q:Int):ab:=if koB es c rs p q=true then dfU us (so es p 2 (peF es q)) (peF es p)else us
def koE (es:ab)(c:Int)(rs:ab)(p q:Int):ab:=if koB es c rs p q=true then so es p 2 (peF es q)else es
def adV {cs us es rs:ab}{c p m:Int}(h:oR cs us es):oR cs us (kpE es c rs p m):=by
 unfold kpE;by_cases g:kpB es c rs p m=true
 ·rw[VE g];unfold kpB at g;simp only[Zc,ZU,VD]at g;exact afk h g.2.1 Uc
 ·rw[VF g];exact h
def ahF {cs us es rs:ab}{c p q:Int}(h:oR cs us es):oR (koC cs es c rs p q) (koU us es c rs p q) (koE es c rs p q):=by
 unfold koC koU koE;by_cases g:koB es c rs p q=true
 ·rw[VE g,VE g,VE g];unfold koB at g;simp only[Zc,VD]at g;exact aer h g.2.1 g.2.2.1 g.2.2.2
 ·rw[VF g,VF g,VF g];exact h
def rwU {us:ab}{n:Nat}{b:Bool}(h:Rw [tB] us):Rw [tB] (us.set n [.v (.bool b)]):=Rw.set h (show bW [tB] [.v (.bool b)]from⟨trivial,trivial⟩) _
def QP {es:ab}{p m f:Int}(h:Rw [tI,tI] es)(hm: -9223372036854775808<=m/\m<=9223372036854775807)(hf: -9223372036854775808<=f/\f<=9223372036854775807):Rw [tI,tI] (so es p m f):=Rw.set h (show bW [tI,tI] [.i m,.i f]from⟨⟨rfl,hm⟩,⟨rfl,hf⟩,trivial⟩) _
def ail {cs es:ab}{f:Int}(h:Rw [.sl [tI]] cs):Rw [.sl [tI]] (dfC cs es f):=by
 unfold dfC;split;exact h;exact aci h (Rw.replicate (show bW [tI] [.i 0]from⟨⟨rfl,show-9223372036854775808<=(0:Int)/\(0:Int)<=9223372036854775807 from by omega⟩,trivial⟩) (by unfold maxLen;omega))
def aim {us es:ab}{f:Int}(h:Rw [tB] us):Rw [tB] (dfU us es f):=by
 unfold dfU;split;exact h;exact rwU h
def xf {cs us es rs:ab}{c:Int}(h:kerOk cs us es c rs=true):oR cs us es/\0<=c/\c<=100000/\rK rs=true:=by
 unfold kerOk at h;simp only[Zc]at h;have r:=bz.1 h.1.2;exact⟨abA h.1.1,r.1,r.2,h.2⟩
def abb {cs us es rs:ab}{c:Int}(h:oR cs us es)(c0:0<=c)(c1:c<=100000)(r:rK rs=true):kerOk cs us es c rs=true:=Qi (abB h) (bz.2 ⟨c0,c1⟩) r
end Go.V
namespace Go.V
structure Jm (a0 a1 a2 a4 a5 a6 a7 a8 a9 aA aB aD aL:ab):Prop where
 r0:Rw [.sl [tI]] a0
 r1:Rw [tB] a1
 r2:Rw [tI,tI] a2
 r4:Rw [tI] a4
 r5:Rw [tI,tI] a5
 r6:Rw [tI,tI,tI] a6
 r7:Rw [tI,tI,tI] a7
 r8:Rw [tI,tI,tI,tI] a8
 r9:Rw [.sl [.sl [tI]]] a9
 r10:Rw [.sl [tI,tI]] aA
 r11:Rw [.sl [tI]] aB
 r13:Rw [tI,tI,tI] aD
 r21:Rw [tI] aL
 c0:au a0<=1073741824
 c1:au a1<=1073741824
 c2:au a2<=1073741824
 c4:au a4<=1073741824
 c5:au a5<=1073741824
 c6:au a6<=1073741824
 c7:au a7<=1073741824
 c8:au a8<=1073741824
 c9:au a9<=1073741824
 c10:au aA<=1073741824
 c11:au aB<=1073741824
 c13:au aD<=1073741824
 c21:au aL<=1073741824
def Jm.hp {a0 a1 a2 a4 a5 a6 a7 a8 a9 aA aB aD aL:ab}(h:Jm a0 a1 a2 a4 a5 a6 a7 a8 a9 aA aB aD aL):HpN a0 a1 a2 a4 a5 a6 a7 a8 a9 aA aB aD aL:=by
 have l2:=aS (es:=a2);have l5:=aS (es:=a5);have l6:=aS (es:=a6);have l7:=aS (es:=a7);have l8:=aS (es:=a8);have l13:=aS (es:=aD);have l21:=aS (es:=aL);have c2:=h.c2;have c5:=h.c5;have c6:=h.c6;have c7:=h.c7;have c8:=h.c8;have c13:=h.c13;have c21:=h.c21;exact⟨⟨h.r6,h.r7,h.r8,h.r9,h.r13,abS h.r10 h.r11 h.c10 h.c11,abQ h.r9 h.c9,Uc,Uc,Uc,Uc,h.c9⟩,h.r0,h.r1,h.r2,Uc,h.r4,h.r5,Uc,h.r21,Uc⟩
def OG {fs:List Ty}{es:ab}{i:Int}(h:Rw [.sl fs] es)(h0:0<=i)(h1:i<es.length):Rw fs (aw es i 0):=Rw.sub (fs:=[.sl fs]) (j:=0) (i:=i) h Uc rfl
end Go.V
namespace Go.V
def htB (b x:ab)(f:Int):Bool:=inR f 0 (b.length-1)&&mailOk b x
def T6 {b x:ab}{i:Int}(h:Rw [.sl [tI]] b)(h0:0<=i)(h1:i<b.length):vk (.s 1 b) [(i.toNat,0)] [.s 1 x]=b.set i.toNat [.s 1 x]:=sx (by rw[h.eta h0 h1];rfl)
def af6 {fs:List Ty}{b:ab}{i:Int}(h:Rw [.sl fs] b)(h0:0<=i)(h1:i<b.length):∃ rec o',bT (.s 1 b) [(i.toNat,0)]=some (rec,o')/\o'+1<=rec.length:=il Uc (by rw[h.eta h0 h1];exact Zf _)
end Go.V
namespace Go.V
def ccB (cs us es:ab)(c:Int)(rs:ab):Bool:=decide (c≠100000)&&kerOk cs us es c rs
def Dg {cs us es rs:ab}{c:Int}(h:ccB cs us es c rs=true):c≠100000/\kerOk cs us es c rs=true:=by
 unfold ccB at h;rw[Zc,VD]at h;exact h
def acO {cs us es rs:ab}{c:Int}(h:c=100000):ccB cs us es c rs=false:=by unfold ccB;rw[VC (fun n=>n h)];rfl
def acP {cs us es rs:ab}{c:Int}(h:c≠100000):ccB cs us es c rs=kerOk cs us es c rs:=by unfold ccB;rw[VB h];rfl
def acQ {cs us es rs:ab}{c:Int}(h:kerOk cs us es c rs=false):ccB cs us es c rs=false:=by unfold ccB;rw[h];simp
def acR {cs us es rs:ab}{c:Int}(h:kerOk cs us es c rs=true):cM .lss c 100000=ccB cs us es c rs:=by
 have q:=(xf h).2;unfold ccB;rw[h,Bool.and_true];show decide (c<100000)=_;by_cases e:c=100000
 ·rw[VC Uc,VC (by simp[e])]
 ·rw[VB Uc,VB e]
def lB {es:ab}{p:Int}(h:mapB es p=true):(0<=p/\p<es.length)/\peM es p=ag es p 0/\peF es p=ag es p 1/\peM es p≠0:=by
 unfold mapB at h;have:=VG h;have q:=DX this;exact⟨q.1,q.2.1,q.2.2,this⟩
def uO {cs us es:ab}{p:Int}(m:oR cs us es)(h:mapB es p=true):0<=ag es p 1/\ag es p 1<cs.length:=by
 have q:=lB h;have e:=m.e p q.1.1 q.1.2;exact e.2.2.2 (by have:=q.2.1;have:=q.2.2.2;omega)
def ag6 {cs us es:ab}{f:Int}(h:((pagesOn es f).length:Int)=0):dfC cs es f=cs.set f.toNat [.s 1 (oJ 16 [.i 0])]/\dfU us es f=us.set f.toNat [.v (.bool false)]:=by
 have e:gP es f=false:=Qo Uc;unfold dfC dfU;rw[e];exact⟨rfl,rfl⟩
def ag7 {cs us es:ab}{f:Int}(h:¬ ((pagesOn es f).length:Int)=0):dfC cs es f=cs/\dfU us es f=us:=by
 have e:gP es f=true:=E5.2 Uc;unfold dfC dfU;rw[e];exact⟨rfl,rfl⟩
structure K3 where
 c:ab
 u:ab
 e:ab
def R3 (a0 a1 a2:ab)(t:Int):Nat->K3
 |0=>⟨a0,a1,a2⟩
 |n+1=>⟨kuC (R3 a0 a1 a2 t n).c (R3 a0 a1 a2 t n).e (t+n),kuU (R3 a0 a1 a2 t n).u (R3 a0 a1 a2 t n).e (t+n),kuE (R3 a0 a1 a2 t n).e (t+n)⟩
def duC (a0 a1 a2:ab)(t l:Int):ab:=(R3 a0 a1 a2 t l.toNat).c
def duU (a0 a1 a2:ab)(t l:Int):ab:=(R3 a0 a1 a2 t l.toNat).u
def duE (a0 a1 a2:ab)(t l:Int):ab:=(R3 a0 a1 a2 t l.toNat).e
structure DuP (a0 a1 a2:ab)(t p:Int)(c u e:ab):Prop where
 m:oR c u e
 rc:Rw [.sl [tI]] c
 ru:Rw [tB] u
 re:Rw [tI,tI] e
 l:e.length=a2.length
 ec:c=duC a0 a1 a2 t (p-t)
 eu:u=duU a0 a1 a2 t (p-t)
 ee:e=duE a0 a1 a2 t (p-t)
section
variable {a0 a1 a2 c u e: ab} {t p: Int}
end
def ifR (b:Bool)(x y:ab):ab:=if b=true then x else y
end Go.V
namespace Go.V
structure SmR (rs:ab):Prop where
 w:Rw [tI,tI] rs
 b:∀ i:Int,0<=i->i<rs.length->0<=ag rs i 0/\ag rs i 0<=64/\0<=ag rs i 1/\ag rs i 1<=64
def OJ {o:ab}{n:Int}{b:Bool}(h:Rw [tB] o)(h0:0<=n)(h1:n<o.length):vk (.s 1 o) [(n.toNat,0)] [.v (.bool b)]=o.set n.toNat [.v (.bool b)]:=sx (by rw[h.eta h0 h1];rfl)
def af3 {o:ab}{n:Int}(h:Rw [tB] o)(h0:0<=n)(h1:n<o.length):∃ rec o',bT (.s 1 o) [(n.toNat,0)]=some (rec,o')/\o'+1<=rec.length:=il Uc (by rw[h.eta h0 h1];exact Zf _)
def TZ {es:ab}{p:Int}(h:Rw [tI,tI] es)(p0:0<=p)(p1:p<es.length):∃ rec o,bT (.s 2 es) [(p.toNat,0)]=some (rec,o)/\o+2<=rec.length:=il Uc (by rw[h.eta p0 p1];exact Zf _)
section
variable {n a0 l0 i: Int} {rs o: ab} {d: Bool}
structure JnQ (rs:ab)(i:Int)(o:ab)(n:Nat):Prop where
 p:JnP rs i o
 n:n=o.length
 w:Rw [tI,tI] o
 b:∀ k:Int,0<=k->k<o.length->0<=ag o k 0/\ag o k 0<=64/\0<=ag o k 1/\ag o k 1<=64*i
end
end Go.V
namespace Go.V
def aaD {a0 a1 a2 a4 a5 a6 a7 a8 a9 aA aB aD aL:ab}(h0:Rw [.sl [tI]] a0)(h1:Rw [tB] a1)(h2:Rw [tI,tI] a2)(h4:Rw [tI] a4)(h5:Rw [tI,tI] a5)(h6:Rw [tI,tI,tI] a6)(h7:Rw [tI,tI,tI] a7)(h8:Rw [tI,tI,tI,tI] a8)(h9:Rw [.sl [.sl [tI]]] a9)(h10:Rw [.sl [tI,tI]] aA)(h11:Rw [.sl [tI]] aB)(h13:Rw [tI,tI,tI] aD)(h21:Rw [tI] aL)(hs:aP [a0,a1,a2,a4,a5,a6,a7,a8,a9,aA,aB,aD,aL]<=1048576):Jm a0 a1 a2 a4 a5 a6 a7 a8 a9 aA aB aD aL:=by
 obtain⟨c0,c1,c2,c4,c5,c6,c7,c8,c9,c10,c11,c13,c21⟩:=Mj hs;exact⟨h0,h1,h2,h4,h5,h6,h7,h8,h9,h10,h11,h13,h21,Uc,Uc,Uc,Uc,Uc,Uc,Uc,Uc,Uc,Uc,Uc,Uc,Uc⟩
end Go.V
namespace Go.V
section
variable {n a0 l0: Int} {rs: ab}
end
def bsB (m:Bool)(k v p:Int):Bool:=m&&(decide (k=p)||decide (v=p))
def dsC (a0 a1 a2 a6:ab)(i:Int):ab:=duC a0 a1 a2 (ag a6 i 0) 1
def dsU (a0 a1 a2 a6:ab)(i:Int):ab:=duU a0 a1 a2 (ag a6 i 0) 1
def dsE (a0 a1 a2 a6:ab)(i:Int):ab:=duE a0 a1 a2 (ag a6 i 0) 1
def dsF (a0 a1 a2 a5 a6:ab)(i:Int):ab:=rpL (zlI (dsE a0 a1 a2 a6 i)) a5 (ag a6 i 0) 1
def dsS (a6:ab)(i:Int):ab:=aap a6 i (i+1)
end Go.V
namespace Go.V
section
variable {a0 a1 a2: ab} {a3: Int} {a4 a5 a6 a7 a8 a9 aA aB: ab} {aC: Int} {aD: ab} {aE aF aG aH: Int} {aI: Bool} {aJ aK: Int} {aL: ab} {aM aN: Int} {i: Int}
section
variable {k m: Bool} {c x y p: Int} {sp: ab}
end
end
end Go.V
namespace Go.V
def aaj {r0 r1 r2 r3 r4 r5 r6 r7 r8 r9 r10 r11 r12:ab}(h:Jm r0 r1 r2 r3 r4 r5 r6 r7 r8 r9 r10 r11 r12):aP [r0,r1,r2,r3,r4,r5,r6,r7,r8,r9,r10,r11,r12]<=1099511627776:=by
 have c0:=h.c0;have c1:=h.c1;have c2:=h.c2;have c3:=h.c4;have c4:=h.c5;have c5:=h.c6;have c6:=h.c7;have c7:=h.c8;have c8:=h.c9;have c9:=h.c10;have c10:=h.c11;have c11:=h.c13;have c12:=h.c21;simp only[aP];omega
section
variable {a0 a1 a2: ab} {a3: Int} {a4 a5 a6 a7 a8 a9 aA aB: ab} {aC: Int} {aD: ab} {aE aF aG aH: Int} {aI: Bool} {aJ aK: Int} {aL: ab} {aM aN: Int} {p: Int}
end
end Go.V
namespace Go.V
end Go.V