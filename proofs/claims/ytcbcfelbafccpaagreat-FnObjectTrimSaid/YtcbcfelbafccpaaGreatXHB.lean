/- Plain facts. -/
import Derived.Test.YtcbcfelbafccpaaGreatXW2
import Derived.Test.YtcbcfelbafccpaaGreatXW1
set_option linter.all false
open Go
open Bool renaming and_eq_true->Zb,or_eq_true->Yc,and_false->Yb,eq_iff_iff->XA
open Int renaming mul_nonneg->Xy,mul_le_mul_of_nonneg_right->Xd,toNat_of_nonneg->Zm,add_mul->WE,ediv_nonneg->XY,eq_ofNat_of_zero_le->Yh,mul_comm->X2,le_refl->Yl,toNat_natCast->ZI
open IntKind renaming i64->ZH,i64->Za
open IntWalk renaming i64_in->YU
open List renaming length_map->YY,mem_append->Zg,length_append->Zh,append_assoc->Zn,length_cons->Zr,length_nil->Zs,mem_cons->Zj,mem_singleton->Z3,nodup_append->Zu,nodup_nil->ZO,mergeSort_perm->WF,getD_eq_getElem?_getD->Zp,take_append_drop->ZK,take->Yo,drop->YA,take_length->Y0,drop_eq_getElem_cons->WG,getElem?_eq_getElem->Zt,replicate->Zk,length_set->ZD,getElem_of_mem->X5,mem_of_mem_drop->Yu,foldl_append->XB,foldl_cons->Y1,foldl_nil->Xl,all_eq_true->ZV
open List.Pairwise renaming nil->Vu,imp₂->Vv
open Nat renaming zero_le->ZG,lt_trichotomy->X1,le_refl->Zf,le_trans->ZA,not_lt_zero->X3
open Option.some renaming inj->YB
open Value renaming int->Zq
namespace Go.V
def zO (sp:af)(i:Int):Nat->List Int
 |0=>[]
 |n+1=>zO sp i n++(if hsB (ag sp i 2) n then[aaI (ag sp i 0) (ag sp i 1) (ag sp i 2) n]else[])
def yu (sp:af):Nat->List Int
 |0=>[]
 |n+1=>yu sp n++zO sp n (slN (ag sp n 1)).toNat
def Bv (lg:af):Nat->List Int
 |0=>[]
 |n+1=>Bv lg n++[ag lg n 0*16]
def NQ (sp lg:af):List Int:=yu sp sp.length++Bv lg lg.length
def iaL (sp lg:af):af:=if layOk sp lg then srtL (jG (NQ sp lg))else[]
def vF {a b:Int}(h: -9223372036854775808<=a*b/\a*b<=9223372036854775807):bK .mul Za a b=a*b:=YU _ h
def A1 {l:af}:(srtL l).length=l.length:=by unfold srtL;rw[iQ,List.length_mergeSort];unfold nH;rw[YY]
def MW (l:List Int):Prop:=∀ x∈l,-1<=x/\x<=1000
def Dr {a b:List Int}(h:MW a)(g:MW b):MW (a++b):=fun x hx=>by
 rcases Zg.1 hx with q|q;exact h x q;exact g x q
def Le {x:Int}(h: -1<=x/\x<=1000):MW [x]:=fun y hy=>by simp at hy;rw[hy];exact h
def abz {p k b s:Int}: -1<=aaI p k b s/\aaI p k b s<=1000:=by
 unfold aaI;by_cases h:I7 p k b s=true
 ·rw[VJ h];unfold I7 at h;simp only[Zb]at h;have t:=oT h.1;have c:=lq t.2.2.1;have s1:=bB.1 h.2;have m0:0<=s*clsSz k:=Xy Uc Uc;have m1:s*clsSz k<=slN k*clsSz k:=Xd Uc Uc;omega
 ·rw[VK h];omega
def yt {sp:af}{i k:Int}(h:0<=k):zO sp i (k+1).toNat=zO sp i k.toNat++(if hsB (ag sp i 2) k then[aaI (ag sp i 0) (ag sp i 1) (ag sp i 2) k]else[]):=by
 rw[show(k+1).toNat=k.toNat+1 from by omega,zO,Zm h]
def GT {sp:af}{i:Int}(h:0<=i):yu sp (i+1).toNat=yu sp i.toNat++zO sp i (slN (ag sp i 1)).toNat:=by
 rw[show(i+1).toNat=i.toNat+1 from by omega,yu,Zm h]
def Cc {lg:af}{i:Int}(h:0<=i):Bv lg (i+1).toNat=Bv lg i.toNat++[ag lg i 0*16]:=by
 rw[show(i+1).toNat=i.toNat+1 from by omega,Bv,Zm h]
structure Ql (sp:af)(i:Int)(o:af):Prop where
 e:o=jG (yu sp i.toNat)
 b:MW (yu sp i.toNat)
 l:(yu sp i.toNat).length<=16*i.toNat
structure I2 (sp:af)(i k:Int)(o:af):Prop where
 e:o=jG (yu sp i.toNat++zO sp i k.toNat)
 b:MW (yu sp i.toNat++zO sp i k.toNat)
 l:(yu sp i.toNat).length<=16*i.toNat
 k:(zO sp i k.toNat).length<=k.toNat
structure K9 (sp lg:af)(j:Int)(o:af):Prop where
 e:o=jG (yu sp sp.length++Bv lg j.toNat)
 b:MW (yu sp sp.length++Bv lg j.toNat)
 l:(yu sp sp.length++Bv lg j.toNat).length<=16*sp.length+j.toNat
def acp {sp:af}:Ql sp 0 []:=⟨rfl,(fun x hx=>by cases hx),ZG _⟩
def acr {sp o:af}{i:Int}(h:Ql sp i o):I2 sp i 0 o:=
 ⟨by rw[h.e];simp[zO],by simpa[zO]using h.b,h.l,ZG _⟩
def NU {sp o:af}{i k:Int}(h:I2 sp i k o):o.length<=16*i.toNat+k.toNat:=by
 have l:=h.l;have m:=h.k;rw[h.e,iQ,Zh];omega
def NV {sp o:af}{i k:Int}(h:I2 sp i k o)(k0:0<=k)(hh:hsB (ag sp i 2) k=true):I2 sp i (k+1) (o++[[.i (aaI (ag sp i 0) (ag sp i 1) (ag sp i 2) k)]]):=by
 have m:=h.k;have e:=h.e;refine⟨?_,?_,h.l,?_⟩
 ·rw[yt k0,VJ hh, <-Zn,yV, <-e];rfl
 ·rw[yt k0,VJ hh, <-Zn];exact Dr h.b (Le abz)
 ·rw[yt k0,VJ hh,Zh,Zr,Zs];omega
def Sf {sp o:af}{i k:Int}(h:I2 sp i k o)(k0:0<=k)(hh:hsB (ag sp i 2) k=false):I2 sp i (k+1) o:=by
 have m:=h.k;have e:=h.e;have u:zO sp i (k+1).toNat=zO sp i k.toNat:=by rw[yt k0,hh];simp
 refine⟨?_,?_,h.l,?_⟩
 ·rw[u];exact e
 ·rw[u];exact h.b
 ·rw[u];omega
def adu {sp lg:af}{i:Int}(hl:layOk sp lg=true)(h0:0<=i)(h1:i<sp.length):0<=slN (ag sp i 1)/\slN (ag sp i 1)<=16:=by
 have t:=oT ((G9 hl).1 i h0 h1);have c:=lq t.2.2.1;omega
def NS {sp o:af}{i k:Int}(h:I2 sp i k o)(i0:0<=i)(k1:k<=slN (ag sp i 1))(k2:slN (ag sp i 1)<=k)(hs:0<=slN (ag sp i 1)/\slN (ag sp i 1)<=16):Ql sp (i+1) o:=by
 have ek:k=slN (ag sp i 1):=by omega
 have e:=h.e;have b:=h.b;have l:=h.l;have m:=h.k;rw[ek, <-GT i0]at e b;rw[ek]at m;refine⟨e,b,?_⟩;rw[GT i0,Zh];omega
def acs {sp lg o:af}{i:Int}(h:Ql sp i o)(h1:i<=sp.length)(h2:(sp.length:Int)<=i):K9 sp lg 0 o:=by
 have ei:i.toNat=sp.length:=by omega
 have e:=h.e;have b:=h.b;have l:=h.l;rw[ei]at e b l;exact⟨by rw[e];simp[Bv],by simpa[Bv]using b,by simpa[Bv]using l⟩
def GW {sp lg o:af}{j:Int}(h:K9 sp lg j o):o.length<=16*sp.length+j.toNat:=by
 have l:=h.l;rw[h.e,iQ];exact l
def acP {sp lg:af}{j:Int}(hl:layOk sp lg=true)(h0:0<=j)(h1:j<lg.length):0<=ag lg j 0/\ag lg j 0<=32:=by
 have t:=lC ((G9 hl).2.1 j h0 h1);have b:=m8 t.1;omega
def Si {sp lg o:af}{j:Int}(h:K9 sp lg j o)(j0:0<=j)(hb:0<=ag lg j 0/\ag lg j 0<=32):K9 sp lg (j+1) (o++[[.i (ag lg j 0*16)]]):=by
 have e:=h.e;have l:=h.l;refine⟨?_,?_,?_⟩
 ·rw[Cc j0, <-Zn,yV, <-e];rfl
 ·rw[Cc j0, <-Zn];exact Dr h.b (Le Uc)
 ·rw[Cc j0, <-Zn,Zh,Zr,Zs];omega
def Sg {sp lg o:af}{j:Int}(h:K9 sp lg j o)(h1:sp.length<=1073741824)(h2:j<=1073741824):Rw [tI] o/\o.length<=70368744177664:=by
 have l:=GW h;refine⟨?_,Uc⟩;have e:=h.e;have l2:=h.l;rw[e];exact H1 (fun x hx=>by have:=h.b x hx;omega) Uc
def NW {sp lg o:af}{j:Int}(h:K9 sp lg j o)(j1:j<=lg.length)(j2:(lg.length:Int)<=j)(hl:layOk sp lg=true):srtL o=iaL sp lg:=by
 have ej:j.toNat=lg.length:=by omega
 have e:=h.e;rw[ej]at e;unfold iaL NQ;rw[VJ hl, <-e]
def acq {sp lg:af}(hl:layOk sp lg=false):([]:af)=iaL sp lg:=by unfold iaL;rw[hl];rfl
end Go.V
namespace Go.V
def uD:∀ {a b:List Int},a.Pairwise (· < ·)->b.Pairwise (· < ·)->(∀ x,x∈a↔x∈b)->a=b
 |[],[],_,_,_=>rfl
 |[],y::b,_,_,h=>by have:=(h y).2 (by simp);simp at this
 |x::a,[],_,_,h=>by have:=(h x).1 (by simp);simp at this
 | x::a,y::b,ha,hb,h=>by
   rw[List.pairwise_cons]at ha hb;have e:x=y:=by
    rcases Zj.1 ((h x).1 (by simp))with q|q;exact q
    ·rcases Zj.1 ((h y).2 (by simp))with r|r;exact r.symm
     ·have:=hb.1 x q;have:=ha.1 y r;omega
   subst e;rw[uD ha.2 hb.2 (fun z=>?_)]
   constructor
   ·intro m;rcases Zj.1 ((h z).1 (by simp[m]))with q|q
    ·have:=ha.1 z m;omega
    ·exact q
   ·intro m;rcases Zj.1 ((h z).2 (by simp[m]))with q|q
    ·have:=hb.1 z m;omega
    ·exact q
def qD {sp:af}{x:Int}:∀ {n:Nat},x∈lP sp n↔∃ i:Nat,i<n/\ag sp i 0=x
 |0=>by simp[lP]
 | n+1=>by
   rw[lP,Zg,qD,Z3]
   constructor
   ·rintro(⟨i,h,e⟩|rfl);exact⟨i,Uc,e⟩;exact⟨n,Uc,rfl⟩
   ·rintro⟨i,h,e⟩;by_cases c:i=n
    ·subst c;exact .inr e.symm
    ·exact .inl ⟨i,Uc,e⟩
def yD {p x:Int}:∀ {n:Nat},x∈tj p n↔p<=x/\x<p+n
 |0=>⟨(fun h=>by cases h),(fun h=>absurd h Uc)⟩
 | n+1=>by
   rw[tj,Zg,yD,Z3];omega
def mi {lg:af}{x:Int}:∀ {n:Nat},x∈mZ lg n↔∃ j:Nat,j<n/\ag lg j 0<=x/\x<ag lg j 0+(ag lg j 1).toNat
 |0=>by simp[mZ]
 | n+1=>by
   rw[mZ,Zg,mi,yD]
   constructor
   ·rintro(⟨i,h,e⟩|h);exact⟨i,Uc,e⟩;exact⟨n,Uc,h⟩
   ·rintro⟨i,h,e⟩;by_cases c:i=n
    ·subst c;exact .inr e
    ·exact .inl ⟨i,Uc,e⟩
def Ib {sp:af}:∀ {n:Nat},(lP sp n).Nodup->∀ i i':Nat,i<i'->i'<n->ag sp i 0≠ag sp i' 0
 |0,_,i,i',_,h=>by omega
 | n+1,hn,i,i',h1,h2=>by
   rw[lP,Zu]at hn;by_cases c:i'=n
   ·subst c;exact hn.2.2 _ (qD.2 ⟨i,h1,rfl⟩) _ (by simp)
   ·exact Ib hn.1 i i' h1 Uc
def Hg {lg:af}:∀ {n:Nat},(mZ lg n).Nodup->∀ (j j':Nat) (x:Int),j<j'->j'<n->ag lg j 0<=x->x<ag lg j 0+(ag lg j 1).toNat->ag lg j' 0<=x->x<ag lg j' 0+(ag lg j' 1).toNat->False
 |0,_,j,j',x,_,h,_,_,_,_=>by omega
 | n+1,hn,j,j',x,h1,h2,a,b,c,d=>by
   rw[mZ,Zu]at hn;by_cases e:j'=n
   ·subst e;exact hn.2.2 x (mi.2 ⟨j,h1,a,b⟩) x (yD.2 ⟨c,d⟩) rfl
   ·exact Hg hn.1 j j' x h1 Uc a b c d
structure ML (sp lg:af):Prop where
 s:∀ i:Nat,i<sp.length->spOk (ag sp i 0) (ag sp i 1) (ag sp i 2)=true
 l:∀ j:Nat,j<lg.length->lgOk (ag lg j 0) (ag lg j 1) (ag lg j 2)=true
 ss:∀ i i':Nat,i<sp.length->i'<sp.length->ag sp i 0=ag sp i' 0->i=i'
 sl:∀ i j:Nat,i<sp.length->j<lg.length->ag lg j 0<=ag sp i 0->ag sp i 0<ag lg j 0+ag lg j 1->False
 ll:∀ (j j':Nat) (x:Int),j<lg.length->j'<lg.length->ag lg j 0<=x->x<ag lg j 0+ag lg j 1->ag lg j' 0<=x->x<ag lg j' 0+ag lg j' 1->j=j'
def OA {sp lg:af}(h:layOk sp lg=true):ML sp lg:=by
 obtain⟨h1,h2,h3⟩:=G9 h;unfold wT at h3;rw[Zu]at h3;have n0:∀ j:Nat,j<lg.length->((ag lg j 1).toNat:Int)=ag lg j 1:=fun j hj=>by
  have t:=lC (h2 j Uc Uc);have b:=m8 t.1;omega
 refine⟨fun i hi=>h1 i Uc Uc,fun j hj=>h2 j Uc Uc,fun i i' a b e=>?_,fun i j a b c d=>?_,fun j j' x a b c d e f=>?_⟩
 ·rcases X1 i i' with q|q|q;exact absurd e (Ib h3.1 i i' q b);exact q;exact absurd e.symm (Ib h3.1 i' i q a)
 ·exact h3.2.2 _ (qD.2 ⟨i,a,rfl⟩) _ (mi.2 ⟨j,b,c,by rw[n0 j b];exact d⟩) rfl
 ·rcases X1 j j' with q|q|q;exact(Hg h3.2.1 j j' x q b c (by rw[n0 j a];exact d) e (by rw[n0 j' b];exact f)).elim;exact q;exact(Hg h3.2.1 j' j x q a e (by rw[n0 j' b];exact f) c (by rw[n0 j a];exact d)).elim
def pN {p k b s:Int}(h:spOk p k b=true)(h0:0<=s)(h1:s<slN k):aaI p k b s=p*16+s*clsSz k/\0<=s*clsSz k/\s*clsSz k+clsSz k<=16/\1<=clsSz k:=by
 have t:=oT h;have c:=lq t.2.2.1;have a:I7 p k b s=true:=by unfold I7;rw[h,bB.2 ⟨h0,Uc⟩];rfl
 have m0:0<=s*clsSz k:=Xy h0 Uc;have m1:(s+1)*clsSz k<=slN k*clsSz k:=Xd Uc Uc;rw[WE]at m1;unfold aaI;rw[VJ a];exact⟨rfl,m0,Uc,Uc⟩
def ui {sp:af}{i x:Int}:∀ {n:Nat},x∈zO sp i n↔∃ k:Nat,k<n/\hsB (ag sp i 2) k=true/\x=aaI (ag sp i 0) (ag sp i 1) (ag sp i 2) k
 |0=>by simp[zO]
 | n+1=>by
   rw[zO,Zg,ui]
   constructor
   ·rintro(⟨k,h,e⟩|h);exact⟨k,Uc,e⟩
    ·by_cases c:hsB (ag sp i 2) n=true
     ·rw[VJ c,Z3]at h;exact⟨n,Uc,c,h⟩
     ·rw[VK c]at h;simp at h
   ·rintro⟨k,h,c,e⟩;by_cases q:k=n
    ·subst q;rw[VJ c];exact .inr (by simp[e])
    ·exact .inl ⟨k,Uc,c,e⟩
def uj {sp:af}{x:Int}:∀ {n:Nat},x∈yu sp n↔∃ i k:Nat,i<n/\k<(slN (ag sp i 1)).toNat/\hsB (ag sp i 2) k=true/\x=aaI (ag sp i 0) (ag sp i 1) (ag sp i 2) k
 |0=>by simp[yu]
 | n+1=>by
   rw[yu,Zg,uj,ui]
   constructor
   ·rintro(⟨i,k,h,e⟩|⟨k,h⟩);exact⟨i,k,Uc,e⟩;exact⟨n,k,Uc,h⟩
   ·rintro⟨i,k,h,e⟩;by_cases q:i=n
    ·subst q;exact .inr ⟨k,e⟩
    ·exact .inl ⟨i,k,Uc,e⟩
def qz {lg:af}{x:Int}:∀ {n:Nat},x∈Bv lg n↔∃ j:Nat,j<n/\x=ag lg j 0*16
 |0=>by simp[Bv]
 | n+1=>by
   rw[Bv,Zg,qz,Z3]
   constructor
   ·rintro(⟨i,h,e⟩|h);exact⟨i,Uc,e⟩;exact⟨n,Uc,h⟩
   ·rintro⟨i,h,e⟩;by_cases q:i=n
    ·subst q;exact .inr e
    ·exact .inl ⟨i,Uc,e⟩
def Cd {sp:af}{i:Nat}(h:spOk (ag sp i 0) (ag sp i 1) (ag sp i 2)=true):∀ {n:Nat},n<=(slN (ag sp i 1)).toNat->(zO sp i n).Nodup
 |0,_=>ZO
 | n+1,hn=>by
   rw[zO];by_cases c:hsB (ag sp i 2) n=true
   ·rw[VJ c];refine qG (Cd h Uc) (fun m=>?_);obtain⟨k,k1,_,k3⟩:=ui.1 m;have a:=pN (s:=(n:Int)) h Uc Uc;have b:=pN (s:=(k:Int)) h Uc Uc;have q:((k:Int)+1)*clsSz (ag sp i 1)<=(n:Int)*clsSz (ag sp i 1):=Xd Uc Uc;rw[WE]at q;omega
   ·rw[VK c,List.append_nil];exact Cd h Uc
def GR {sp lg:af}(F:ML sp lg):∀ {n:Nat},n<=sp.length->(yu sp n).Nodup
 |0,_=>ZO
 | n+1,hn=>by
   rw[yu,Zu];refine⟨GR F Uc,Cd (F.s n Uc) (Zf _),fun x hx y hy e=>?_⟩;subst e;obtain⟨i,k,i1,k1,_,e1⟩:=uj.1 hx;obtain⟨k',k2,_,e2⟩:=ui.1 hy;have a:=pN (s:=(k:Int)) (F.s i Uc) Uc Uc;have b:=pN (s:=(k':Int)) (F.s n Uc) Uc Uc;have:=F.ss i n Uc Uc Uc;omega
def GQ {sp lg:af}(F:ML sp lg):∀ {n:Nat},n<=lg.length->(Bv lg n).Nodup
 |0,_=>ZO
 | n+1,hn=>by
   rw[Bv];refine qG (GQ F Uc) (fun m=>?_);obtain⟨j,j1,e⟩:=qz.1 m;have t:=lC (F.l j Uc);have b:=m8 t.1;have t':=lC (F.l n Uc);have b':=m8 t'.1;have:=F.ll j n (ag lg j 0) Uc Uc Uc Uc Uc Uc;omega
def NR {sp lg:af}(F:ML sp lg):(NQ sp lg).Nodup:=by
 unfold NQ;rw[Zu];refine⟨GR F (Zf _),GQ F (Zf _),fun x hx y hy e=>?_⟩;subst e;obtain⟨i,k,i1,k1,_,e1⟩:=uj.1 hx;obtain⟨j,j1,e2⟩:=qz.1 hy;have a:=pN (s:=(k:Int)) (F.s i Uc) Uc Uc;have t:=lC (F.l j Uc);have b:=m8 t.1;exact F.sl i j i1 j1 Uc Uc
end Go.V
namespace Go.V
def fV {p:Int->Bool}{n:Nat}(h:0<=cQ p n):cQ p n<n/\p (cQ p n)=true:=by
 refine⟨by rcases qn (p:=p) (n:=n)with q|q<;>omega,?_⟩;unfold cQ at h ⊢;split at h
 ·rename_i j e;have q:=List.find?_some e;exact q
 ·omega
def vi {p:Int->Bool}{n i:Nat}(h:i<n)(hp:p i=true):0<=cQ p n:=by
 unfold cQ;split;omega
 ·rename_i e;rw[List.find?_eq_none]at e;exact absurd hp (e i (List.mem_range.2 h))
def AX {sp:af}{a i:Int}:yW sp a i=true↔CS (ag sp i 0) (ag sp i 1) (ag sp i 2) a=true:=by
 unfold yW;rw[VI]
 constructor
 ·intro h;cases c:CS (ag sp i 0) (ag sp i 1) (ag sp i 2) a with
  |true=>rfl
  |false=>rw[(H3 c).1]at h;omega
 ·intro h;obtain⟨h1,h2,h3⟩:=yX.1 h;have cb:=lq (oT h1).2.2.1;rw[(v5 h).1];exact XY Uc Uc
def lvP (sp lg:af)(x:Int):Prop:=(∃ i k:Nat,i<sp.length/\k<(slN (ag sp i 1)).toNat/\hsB (ag sp i 2) k=true/\x=aaI (ag sp i 0) (ag sp i 1) (ag sp i 2) k)\/∃ j:Nat,j<lg.length/\x=ag lg j 0*16
def D7 {sp lg:af}{x:Int}:x∈NQ sp lg↔lvP sp lg x:=by
 unfold NQ lvP;rw[Zg,uj,qz]
def Nq {sp lg:af}{a:Int}(h:0<=gp sp a):dnK sp lg a=(if hsB (ag sp (gp sp a) 2) (IX sp a (gp sp a))then 1 else 2)/\dnO sp lg a=Mm sp a (gp sp a):=by
 unfold dnK dnO;rw[VJ h,VJ h];exact⟨rfl,rfl⟩
def Np {sp lg:af}{a:Int}(h:¬ 0<=gp sp a)(g:0<=oz lg a):dnK sp lg a=3/\dnO sp lg a=SX lg a (oz lg a):=by
 unfold dnK dnO;rw[VK h,VK h,VJ g,VJ g];exact⟨rfl,rfl⟩
def abQ {sp lg:af}{a:Int}(h:¬ 0<=gp sp a)(g:¬ 0<=oz lg a):dnK sp lg a=0/\dnO sp lg a=0:=by
 unfold dnK dnO;rw[VK h,VK h,VK g,VK g];exact⟨rfl,rfl⟩
def LR {sp lg:af}{a:Int}(hl:layOk sp lg=true):Hh sp lg a=true↔dnO sp lg a=0/\(dnK sp lg a=1\/dnK sp lg a=3):=by
 unfold Hh dzO dzK;rw[VJ hl,VJ hl];simp only[Zb,Yc,VI]
def Tc {sp lg:af}{x:Int}(F:ML sp lg)(hl:layOk sp lg=true)(h:Hh sp lg x=true):lvP sp lg x:=by
 obtain⟨h1,h2⟩:=(LR hl).1 h;by_cases c:0<=gp sp x
 ·obtain⟨d1,d2⟩:=Nq (lg:=lg) c;obtain⟨b,q⟩:=fV c;change gp sp x<sp.length at b;change yW sp x (gp sp x)=true at q;rw[d1]at h2;rw[d2]at h1;generalize hF:gp sp x=f at*;obtain⟨f,rfl⟩:=Yh c;have bf:f<sp.length:=by omega
  have q':=AX.1 q;obtain⟨a1,a2,a3⟩:=yX.1 q';obtain⟨e1,e2⟩:=v5 q';have cb:=lq (oT a1).2.2.1;have hh:hsB (ag sp f 2) (IX sp x f)=true:=by
   cases c:hsB (ag sp f 2) (IX sp x f)with
   |true=>rfl
   |false=>rw[c]at h2;simp at h2
  unfold Mm at h1;rw[e2]at h1;unfold IX at hh;rw[e1]at hh;have dv:clsSz (ag sp f 1)*((x-ag sp f 0*16)/clsSz (ag sp f 1))=x-ag sp f 0*16:=Int.mul_ediv_cancel_of_emod_eq_zero h1;have nn:0<=(x-ag sp f 0*16)/clsSz (ag sp f 1):=XY Uc Uc;generalize hs:(x-ag sp f 0*16)/clsSz (ag sp f 1)=s at*;have lt:s<slN (ag sp f 1):=by
   by_cases w:s<slN (ag sp f 1);exact w
   ·have m:slN (ag sp f 1)*clsSz (ag sp f 1)<=s*clsSz (ag sp f 1):=Xd Uc Uc;rw[X2 s]at m;omega
  obtain⟨s,rfl⟩:=Yh nn;have ae:=pN a1 nn lt;refine .inl ⟨f,s,bf,Uc,hh,?_⟩;have ae1:=ae.1;rw[X2 (s:Int)]at ae1;show x=aaI (ag sp f 0) (ag sp f 1) (ag sp f 2) s;rw[ae1];omega
 ·by_cases g:0<=oz lg x
  ·obtain⟨d1,d2⟩:=Np c g;obtain⟨b,q⟩:=fV g;change oz lg x<lg.length at b;change yz lg x (oz lg x)=true at q;rw[d2]at h1;generalize hF:oz lg x=f at*;obtain⟨f,rfl⟩:=Yh g;refine .inr ⟨f,Uc,?_⟩;unfold SX loI at h1;unfold yz at q;rw[VJ q]at h1;show x=ag lg f 0*16;omega
  ·obtain⟨d1,d2⟩:=abQ c g;rw[d1]at h2;omega
def LC {sp lg:af}{x:Int}(h:0<=gp sp x):∃ f:Nat,gp sp x=f/\f<sp.length/\CS (ag sp f 0) (ag sp f 1) (ag sp f 2) x=true:=by
 obtain⟨b,q⟩:=fV h;obtain⟨f,e⟩:=Yh h;refine⟨f,e,?_,?_⟩
 ·have:gp sp x<sp.length:=b;rw[e]at this;exact Int.ofNat_lt.1 this
 ·have:yW sp x (gp sp x)=true:=q;rw[e]at this;exact AX.1 this
def LS {sp lg:af}{x:Int}(F:ML sp lg)(hl:layOk sp lg=true)(h:lvP sp lg x):Hh sp lg x=true:=by
 rw[LR hl];rcases h with⟨i,k,i1,k1,hh,e⟩|⟨j,j1,e⟩
 ·have a1:=F.s i i1;have cb:=lq (oT a1).2.2.1;have ae:=pN (s:=(k:Int)) a1 Uc Uc;have sb:CS (ag sp i 0) (ag sp i 1) (ag sp i 2) x=true:=yX.2 ⟨a1,Uc,Uc⟩;have c:0<=gp sp x:=vi i1 (AX.2 sb);obtain⟨f,e1,f1,f2⟩:=LC (lg:=lg) c;obtain⟨_,g2,g3⟩:=yX.1 f2;have:f=i:=F.ss f i f1 i1 Uc;subst this;obtain⟨d1,d2⟩:=Nq (lg:=lg) c;rw[d1,d2,e1];obtain⟨y1,y2⟩:=v5 sb;have xe:x-ag sp f 0*16=k*clsSz (ag sp f 1):=by omega
  unfold IX Mm;rw[y1,y2,xe,Int.mul_ediv_cancel _ Uc,VJ hh];exact⟨Int.mul_emod_left _ _,.inl rfl⟩
 ·have t:=lC (F.l j j1);have b:=m8 t.1;have r:=bB.1 t.1;have c:¬ 0<=gp sp x:=fun c=>by
   obtain⟨f,e1,f1,f2⟩:=LC (lg:=lg) c;obtain⟨_,g2,g3⟩:=yX.1 f2;exact F.sl f j f1 j1 Uc Uc
  have lb:lhB (ag lg j 0) (ag lg j 1) (ag lg j 2) x=true:=Ox.2 ⟨F.l j j1,Uc,Uc⟩;have g:0<=oz lg x:=vi j1 (show yz lg x j=true from lb);obtain⟨d1,d2⟩:=Np c g;obtain⟨b1,q⟩:=fV g;change oz lg x<lg.length at b1;change yz lg x (oz lg x)=true at q;rw[d1,d2];generalize hF:oz lg x=f at*;obtain⟨f,rfl⟩:=Yh g;have f1:f<lg.length:=by omega
  have q':lhB (ag lg f 0) (ag lg f 1) (ag lg f 2) x=true:=q;obtain⟨_,u1,u2⟩:=Ox.1 q';have t2:=lC (F.l f f1);have b2:=m8 t2.1;have:f=j:=F.ll f j (ag lg j 0) f1 j1 Uc Uc Uc Uc;subst this;refine⟨?_,.inr rfl⟩;show loI (ag lg f 0) (ag lg f 1) (ag lg f 2) x=0;unfold loI;rw[VJ lb];omega
def Kg (sp lg:af):Nat->List Int
 |0=>[]
 |n+1=>Kg sp lg n++(if Hh sp lg n then[(n:Int)]else[])
def vz {sp lg:af}:∀ n:Nat,Oh sp lg n=jG (Kg sp lg n)
 |0=>rfl
 | n+1=>by
   rw[Oh,Kg,yV,vz n];by_cases c:Hh sp lg n=true
   ·rw[VJ c,VJ c];rfl
   ·rw[VK c,VK c];rfl
def qC {sp lg:af}{x:Int}:∀ {n:Nat},x∈Kg sp lg n↔0<=x/\x<n/\Hh sp lg x=true
 |0=>⟨(fun h=>by cases h),(fun h=>absurd h.2.1 Uc)⟩
 | n+1=>by
   rw[Kg,Zg,qC]
   constructor
   ·rintro(h|h);exact⟨h.1,Uc,h.2.2⟩
    ·by_cases c:Hh sp lg n=true
     ·rw[VJ c,Z3]at h;subst h;exact⟨Uc,Uc,c⟩
     ·rw[VK c]at h;cases h
   ·rintro⟨h1,h2,h3⟩;by_cases q:x=n
    ·subst q;rw[VJ h3];exact .inr (by simp)
    ·exact .inl ⟨h1,Uc,h3⟩
def HM {sp lg:af}:∀ n:Nat,(Kg sp lg n).Pairwise (· < ·)
 |0=>Vu
 | n+1=>by
   rw[Kg,List.pairwise_append];refine⟨HM n,?_,fun a ha b hb=>?_⟩
   ·by_cases c:Hh sp lg n=true
    ·rw[VJ c];simp
    ·rw[VK c];simp
   ·have m:=qC.1 ha;by_cases c:Hh sp lg n=true
    ·rw[VJ c,Z3]at hb;omega
    ·rw[VK c]at hb;cases hb
def Kz {l:List Int}(h:l.Nodup):(l.mergeSort fun x y=>decide (x<=y)).Pairwise (· < ·):=by
 have p:=List.pairwise_mergeSort (le:=fun x y:Int=>decide (x<=y)) (fun a b c h1 h2=>by simp only[VI]at*;omega) (fun a b=>by simp only[Yc,VI];omega) l;have n:(l.mergeSort fun x y=>decide (x<=y)).Nodup:=(WF l _).nodup_iff.2 h;refine Vv (R:=fun a b=>decide (a<=b)=true) (S:=(· ≠ ·)) (T:=(· < ·)) (fun a b h1 h2=>?_) p n;simp only[VI]at h1;omega
def Kf {sp lg:af}:iaL sp lg=zP sp lg:=by
 unfold iaL zP;by_cases hl:layOk sp lg=true
 ·rw[VJ hl,VJ hl];have F:=OA hl;unfold srtL;rw[Ck,vz];refine congrArg jG (uD (Kz (NR F)) (HM 512) (fun x=>?_));rw[(WF _ _).mem_iff,D7,qC]
  constructor
  ·intro h;have v:=LS F hl h;refine⟨?_,?_,v⟩
   ·rcases h with⟨i,k,i1,k1,_,e⟩|⟨j,j1,e⟩
    ·have ae:=pN (s:=(k:Int)) (F.s i i1) Uc Uc;have t:=oT (F.s i i1);omega
    ·have t:=lC (F.l j j1);omega
   ·rcases h with⟨i,k,i1,k1,_,e⟩|⟨j,j1,e⟩
    ·have ae:=pN (s:=(k:Int)) (F.s i i1) Uc Uc;have t:=oT (F.s i i1);omega
    ·have t:=lC (F.l j j1);have b:=m8 t.1;omega
  ·rintro⟨_,_,h⟩;exact Tc F hl h
 ·rw[VK hl,VK hl]
end Go.V
namespace Go.V
def G0 (qs:af)(a j:Int):Bool:=eqB (ag qs j 0) a
def qtI (qs:af)(a:Int):Int:=cQ (G0 qs a) qs.length
def qtB (qs:af)(a:Int):Bool:=decide (0<=qtI qs a)
end Go.V
namespace Go.V
structure MN (ls:af):Prop where
 w:Rw [.sl [tI]] ls
 l:ls.length<=1099511627776
 n:∀ i:Int,(aO ls i 0).length<=1099511627776
def MN.el {ls:af}(h:MN ls){i:Int}(h0:0<=i)(h1:i<ls.length):Rw [tI] (aO ls i 0)/\(aO ls i 0).length<=1099511627776:=
 ⟨Rw.sub (fs:=[.sl [tI]]) h.w Uc rfl,h.n i⟩
end Go.V
namespace Go.V
def HD (b:af)(i k:Int):Bool:=inR (ag (aO b i 0) k 0) 0 ((b.length:Int)-1)&&decide (0<=ag (aO b i 0) k 1)
def I6 (x:af)(i k:Int):Bool:=decide (0<=ag (aO x i 0) k 0)
def QF (b x:af)(i:Int):Bool:=dj (HD b i) (aO b i 0).length&&dj (I6 x i) (aO x i 0).length
def Kk (b x:af):Nat->Int
 |0=>0
 |n+1=>Kk b x n+((aO b n 0).length+(aO x n 0).length)
def mailOk (b x:af):Bool:=inR b.length 1 4&&(decide (x.length=b.length)&&(dj (QF b x) b.length&&decide (Kk b x b.length<=30)))
structure IL (b x:af):Prop where
 bw:Rw [.sl [tI,tI]] b
 xw:Rw [.sl [tI]] x
 bl:b.length<=1099511627776
 xl:x.length<=1099511627776
 bn:∀ i:Int,(aO b i 0).length<=1099511627776
 xn:∀ i:Int,(aO x i 0).length<=1099511627776
def LY {b x:af}(h:IL b x):∀ n:Nat,0<=Kk b x n/\Kk b x n<=2199023255552*n
 |0=>⟨Yl _,Yl _⟩
 | n+1=>by
   have q:=LY h n;have p1:=h.bn n;have p2:=h.xn n;rw[Kk];omega
structure MM (b x:af)(i t:Int):Prop where
 ok:upto (QF b x) i
 t:t=Kk b x i.toNat
def acW {b x:af}:MM b x 0 0:=⟨bR,rfl⟩
def acX {b x:af}{i t:Int}(N:IL b x)(h:MM b x i t)(i0:0<=i)(i1:i<=4):0<=t/\t<=8796093022208:=by
 have q:=LY N i.toNat;have e:=h.t;omega
def Tf {b x:af}{i t k j:Int}(h:MM b x i t)(i0:0<=i)(hp:upto (HD b i) k)(k1:((aO b i 0).length:Int)<=k)(ha:upto (I6 x i) j)(j1:((aO x i 0).length:Int)<=j):MM b x (i+1) (t+((aO b i 0).length+(aO x i 0).length)):=by
 refine⟨bL h.ok ?_,?_⟩
 ·unfold QF;rw[cv hp k1,cv ha j1];rfl
 ·rw[show(i+1).toNat=i.toNat+1 from by omega,Kk, <-h.t,Zm i0]
def OI {b x:af}(h:inR b.length 1 4=false):mailOk b x=false:=by unfold mailOk;rw[h];rfl
def OJ {b x:af}(h:(x.length:Int)≠b.length):mailOk b x=false:=by
 unfold mailOk;rw[VH (p:=x.length=b.length) Uc];simp
def LW {b x:af}{i:Int}(i0:0<=i)(i1:i<b.length)(h:QF b x i=false):mailOk b x=false:=by
 unfold mailOk;rw[cM i0 i1 h];simp
def Hk {b x:af}{i k:Int}(i0:0<=i)(i1:i<b.length)(k0:0<=k)(k1:k<(aO b i 0).length)(h:HD b i k=false):mailOk b x=false:=
 LW i0 i1 (by unfold QF;rw[cM k0 k1 h];rfl)
def OK {b x:af}{i k:Int}(i0:0<=i)(i1:i<b.length)(k0:0<=k)(k1:k<(aO x i 0).length)(h:I6 x i k=false):mailOk b x=false:=
 LW i0 i1 (by unfold QF;rw[cM k0 k1 h,Yb])
def OH {b x:af}{i t:Int}(h:MM b x i t)(h1:inR b.length 1 4=true)(h2:(x.length:Int)=b.length)(i1:i<=b.length)(i2:(b.length:Int)<=i):mailOk b x=decide (t<=30):=by
 have e:i.toNat=b.length:=by omega
 have q:=h.t;rw[e]at q;unfold mailOk;rw[h1,VG (p:=x.length=b.length) Uc,cv h.ok i2, <-q];rfl
def TW {b:af}{i k:Int}(h:inR (ag (aO b i 0) k 0) 0 ((b.length:Int)-1)=false):HD b i k=false:=by unfold HD;rw[h];rfl
def TX {b:af}{i k:Int}(h:ag (aO b i 0) k 1<0):HD b i k=false:=by unfold HD;rw[VH Uc,Yb]
def TY {b:af}{i k:Int}(h:inR (ag (aO b i 0) k 0) 0 ((b.length:Int)-1)=true)(g:0<=ag (aO b i 0) k 1):HD b i k=true:=by unfold HD;rw[h,VG g];rfl
def aby {x:af}{i k:Int}(h:ag (aO x i 0) k 0<0):I6 x i k=false:=by unfold I6;rw[VH Uc]
def QR {x:af}{i k:Int}(h:0<=ag (aO x i 0) k 0):I6 x i k=true:=by unfold I6;rw[VG h]
end Go.V
namespace Go.V
def Ly (b:af)(i:Int):Nat->af
 |0=>[]
 |n+1=>Ly b i n++[[.i (ag (aO b i 0) n 1)]]
def GA (b:af):Nat->af
 |0=>[]
 |n+1=>GA b n++Ly b n (aO b n 0).length
def EU (x:af):Nat->af
 |0=>[]
 |n+1=>EU x n++aO x n 0
def ifL (b x:af):af:=if mailOk b x then GA b b.length++EU x x.length else[]
def OL {b x:af}(h:mailOk b x=true):b.length<=4/\x.length=b.length:=by
 unfold mailOk at h;simp only[Zb,VI,bB]at h;omega
structure Qc (b:af)(i:Int)(o:af):Prop where
 e:o=GA b i.toNat
 l:o.length<=1099511627776*i.toNat
structure Qd (b:af)(i k:Int)(o:af):Prop where
 e:o=GA b i.toNat++Ly b i k.toNat
 l:o.length<=1099511627776*i.toNat+k.toNat
structure Qe (b x:af)(j:Int)(o:af):Prop where
 e:o=GA b b.length++EU x j.toNat
 l:o.length<=1099511627776*b.length+1099511627776*j.toNat
def abS {b:af}:Qc b 0 []:=⟨rfl,ZG _⟩
def abT {b o:af}{i:Int}(h:Qc b i o):Qd b i 0 o:=⟨by rw[h.e];simp[Ly],by have:=h.l;omega⟩
def RD {b o:af}{i k:Int}(h:Qd b i k o)(k0:0<=k):Qd b i (k+1) (o++[[.i (ag (aO b i 0) k 1)]]):=by
 have l:=h.l;have e:=h.e;refine⟨?_,?_⟩
 ·rw[show(k+1).toNat=k.toNat+1 from by omega,Ly,Zm k0, <-Zn, <-e]
 ·rw[Zh,Zr,Zs];omega
def Nw {b o:af}{i k:Int}(h:Qd b i k o)(i0:0<=i)(hn:(aO b i 0).length<=1099511627776)(k1:k<=((aO b i 0).length:Int))(k2:((aO b i 0).length:Int)<=k):Qc b (i+1) o:=by
 have l:=h.l;have e:=h.e;have ek:k.toNat=(aO b i 0).length:=by omega
 refine⟨?_,Uc⟩;rw[show(i+1).toNat=i.toNat+1 from by omega,GA,Zm i0, <-ek];exact e
def abV {b x o:af}{i:Int}(h:Qc b i o)(i1:i<=b.length)(i2:(b.length:Int)<=i):Qe b x 0 o:=by
 have l:=h.l;have e:=h.e;have ei:i.toNat=b.length:=by omega
 rw[ei]at e l;exact⟨by rw[e];simp[EU],Uc⟩
def RR {b x o:af}{j:Int}(h:Qe b x j o)(j0:0<=j)(hn:(aO x j 0).length<=1099511627776):Qe b x (j+1) (o++aO x j 0):=by
 have l:=h.l;have e:=h.e;refine⟨?_,?_⟩
 ·rw[show(j+1).toNat=j.toNat+1 from by omega,EU,Zm j0, <-Zn, <-e]
 ·rw[Zh];omega
def NF {b x o:af}{j:Int}(h:Qe b x j o)(hm:mailOk b x=true)(j1:j<=x.length)(j2:(x.length:Int)<=j):o=ifL b x:=by
 have e:=h.e;rw[show j.toNat=x.length from by omega]at e;unfold ifL;rw[VJ hm];exact e
def acu {b x:af}(hm:mailOk b x=false):([]:af)=ifL b x:=by unfold ifL;rw[hm];rfl
end Go.V
namespace Go.V
structure NsC (cs:af):Prop where
 w:Rw [.sl [.sl [tI]]] cs
 l:cs.length<=1099511627776
 n:∀ i:Int,0<=i->i<cs.length->MN (aO cs i 0)
end Go.V
namespace Go.V
def xg:∀ {fs:List Ty} {e:ax} {j:Nat},bU fs e->fs[j]?=some tI->∃ n,e[j]?=some (.i n)/\ -9223372036854775808<=n/\n<=9223372036854775807
 |[],_,j,_,h=>by simp at h
 |_::_,[],j,h,_=>h.elim
 | t::ts,l::ls,0,h,e=>by
   simp at e;subst e;have h1:=h.1;cases l with
   | v x=>cases x with
     |int k n=>simp only[dm]at h1;exact⟨n,by simp[h1.1],acv h1.2⟩
     |_=>simp[dm]at h1
   |_=>simp[dm]at h1
 | t::ts,l::ls,j+1,h,e=>by
   simp at e;obtain⟨n,h1,h2⟩:=xg h.2 e;exact⟨n,by simpa using h1,h2⟩
def sV {fs:List Ty}{es:af}{i:Int}{j:Nat}(h:Rw fs es)(hj:fs[j]?=some tI)(h1:i.toNat<es.length): -9223372036854775808<=ag es i j/\ag es i j<=9223372036854775807:=by
 obtain⟨n,e,b⟩:=xg (h.at h1) hj;unfold ag;rw[Zp (l:=es.getD i.toNat []),e];exact b
def aap {x:Int}(h: -9223372036854775808<=x/\x<=9223372036854775807):Rw [tI] [[.i x]]:=Rw.one (fs:=[tI]) ⟨⟨rfl,h⟩,trivial⟩
def QB (os:af)(f:Nat):Nat->af
 |0=>[]
 |n+1=>QB os f n++[[.i (ag os n f)]]
def clR (ls:af):Nat->af
 |0=>[]
 |n+1=>clR ls n++aO ls n 0
def ccR (cs:af):Nat->af
 |0=>[]
 |n+1=>ccR cs n++clR (aO cs n 0) (aO cs n 0).length
def vp {es:af}{n j:Nat}(h:n<es.length):bC (aO es n j)<=mY (es.getD n []):=by
 unfold aO;rw[ZI];generalize es.getD n []=r;cases e:r[j]? with
 |none=>rw[Zp,e];exact ZG _
 | some l=>
   rw[Zp,e];have q:=Dy e;cases l with
   |s sz es=>exact q
   |_=>exact ZG _
def lU {es:af}{n:Nat}(h:n<es.length):dk (es.take (n+1))=dk (es.take n)+mY (es.getD n []):=by
 rw[kf (d:=[]) h,fg];simp[dk]
def Aj {es:af}{n:Nat}:dk (es.take n)<=dk es:=by
 conv=>rhs;rw[<-ZK n es,fg]
 omega
def qo {b:af}{i:Int}:∀ n,(Ly b i n).length=n
 |0=>rfl
 |n+1=>by rw[Ly,Zh,qo n];rfl
def Hm {b x:af}:∀ n:Nat,(((GA b n).length+(EU x n).length:Nat):Int)=Kk b x n
 |0=>rfl
 | n+1=>by
   have q:=Hm (b:=b) (x:=x) n;rw[Kk,GA,EU,Zh,Zh,qo, <-q];omega
def NZ {b x:af}:(ifL b x).length<=30:=by
 unfold ifL;by_cases c:mailOk b x=true
 ·rw[VJ c,Zh];have t:=OL c;unfold mailOk at c;simp only[Zb,VI]at c;have q:=Hm (b:=b) (x:=x) b.length;rw[t.2];omega
 ·rw[VK c];exact ZG _
def GD {b x:af}{i:Int}(h:IL b x)(i0:0<=i)(i1:i<b.length):∀ n,n<=(aO b i 0).length->Rw [tI] (Ly b i n)
 |0,_=>Rw.nil
 | n+1,hn=>Rw.append (GD h i0 i1 n Uc) (aap (sV (fs:=[tI,tI]) (Rw.sub (fs:=[.sl [tI,tI]]) h.bw Uc rfl) rfl Uc)) (by
    have:=h.bn i;rw[qo];unfold maxLen;simp only[Zr,Zs];omega)
def GB {b x:af}(h:IL b x)(hb:b.length<=4):∀ n,n<=b.length->Rw [tI] (GA b n)/\(GA b n).length<=n*1099511627776
 |0,_=>⟨Rw.nil,ZG _⟩
 | n+1,hn=>by
   obtain⟨q1,q2⟩:=GB h hb n Uc;have l:=h.bn n;refine⟨Rw.append q1 (GD h Uc Uc _ (Zf _)) (by rw[qo];unfold maxLen;omega),?_⟩;rw[GA,Zh,qo];omega
def GJ {b x:af}(h:IL b x)(hb:x.length<=4):∀ n,n<=x.length->Rw [tI] (EU x n)/\(EU x n).length<=n*1099511627776
 |0,_=>⟨Rw.nil,ZG _⟩
 | n+1,hn=>by
   obtain⟨q1,q2⟩:=GJ h hb n Uc;have l:=h.xn n;refine⟨Rw.append q1 (Rw.sub (fs:=[.sl [tI]]) h.xw Uc rfl) (by unfold maxLen;omega),?_⟩;rw[EU,Zh];omega
def Sl {b x:af}(h:IL b x):Rw [tI] (ifL b x):=by
 unfold ifL;by_cases c:mailOk b x=true
 ·rw[VJ c];have t:=OL c;obtain⟨q1,l1⟩:=GB h t.1 b.length (Zf _);obtain⟨q2,l2⟩:=GJ h Uc x.length (Zf _);exact Rw.append q1 q2 (by unfold maxLen;omega)
 ·rw[VK c];exact Rw.nil
structure NsH (sp lg os cs b x qs:af):Prop where
 sw:Rw [tI,tI,tI] sp
 lw:Rw [tI,tI,tI] lg
 ow:Rw [tI,tI,tI,tI] os
 cw:Rw [.sl [.sl [tI]]] cs
 qw:Rw [tI,tI,tI] qs
 m:IL b x
 c:NsC cs
 sl:sp.length<=1073741824
 ll:lg.length<=1073741824
 ol:os.length<=1073741824
 ql:qs.length<=1073741824
 cl:bC cs<=1073741824
structure O1P (os:af)(i:Int)(o:af):Prop where
 e:o=QB os 1 i.toNat
structure O2P (os cs:af)(i:Int)(o:af):Prop where
 e:o=QB os 1 os.length++ccR cs i.toNat
structure O3P (os cs:af)(i k:Int)(o:af):Prop where
 e:o=QB os 1 os.length++ccR cs i.toNat++clR (aO cs i 0) k.toNat
structure O4P (os cs qs:af)(j:Int)(o:af):Prop where
 e:o=QB os 1 os.length++ccR cs cs.length++QB qs 0 j.toNat
section
variable {sp lg os cs b x qs o: af} {i k j: Int}
end
def Qu (e:ax):Int:=Ke (e.getD 0 .g)
def flN (p:Int->Bool)(l:af):Nat->af
 |0=>[]
 |n+1=>flN p l n++(if p (ag l n 0)then[[.i (ag l n 0)]]else[])
structure adY (p:Int->Bool)(l:af)(i:Int)(o:af):Prop where
 e:o=flN p l i.toNat
 l:o.length<=i.toNat
section
variable {p: Int -> Bool} {l o: af} {i: Int}
end
def G8 {sp lg:af}:(zP sp lg).length<=512:=by
 have k:∀ n,(Oh sp lg n).length<=n:=by
  intro n
  induction n with
  |zero=>exact Zf _
  |succ n ih=>rw[Oh,Zh];split<;>simp<;>omega
 unfold zP;split;exact k 512;exact ZG _
def SN {sp lg:af}:Rw [tI] (zP sp lg):=by
 unfold zP;by_cases c:layOk sp lg=true
 ·rw[VJ c,vz];refine H1 (fun x hx=>?_) ?_
  ·have:=qC.1 hx;omega
  ·have q:=G8 (sp:=sp) (lg:=lg);unfold zP at q;rw[VJ c,vz,iQ]at q;omega
 ·rw[VK c];exact Rw.nil
def L1 {l:af}{i:Int}(h:Rw [tI] l)(h0:0<=i)(h1:i<l.length):∃ rec o,bP (L.s 1 l) [(i.toNat,0)]=some (rec,o)/\o+[L.v (Zq ZH 0)].length<=rec.length/\Yo [L.v (Zq ZH 0)].length (YA o rec)=ka am (L.s 1 l) [(i.toNat,0)] 0 [L.v (Zq ZH 0)]:=
 eA (z0:=[.i 0]) (z:=[.i 0]) h.wf Uc rfl (by decide)
def pB {es:af}{i:Int}{j:Nat}:bC (aO es i j)<=bC es:=by
 by_cases c:i.toNat<es.length
 ·have q:=vp (j:=j) c;rw[show aO es (i.toNat:Nat) j=aO es i j from by unfold aO;rw[ZI]]at q;have d:=lU c;have e:=Aj (es:=es) (n:=i.toNat+1);unfold bC at q ⊢;omega
 ·have e:aO es i j=[]:=by
   unfold aO;rw[Zp (l:=es),List.getElem?_eq_none Uc];simp[LP]
  rw[e];exact ZG _
def OV {ls:af}(h:Rw [.sl [tI]] ls)(hc:bC ls<=1073741824):MN ls:=by
 refine⟨h,by unfold bC at hc;omega,fun i=>?_⟩;have:=pB (es:=ls) (i:=i) (j:=0);unfold bC at this hc;omega
def OU {cs:af}(h:Rw [.sl [.sl [tI]]] cs)(hc:bC cs<=1073741824):NsC cs:=by
 refine⟨h,by unfold bC at hc;omega,fun i i0 i1=>OV (Rw.sub (fs:=[.sl [.sl [tI]]]) h Uc rfl) ?_⟩;exact ZA pB hc
def OW {b x:af}(hb:Rw [.sl [tI,tI]] b)(hx:Rw [.sl [tI]] x)(cb:bC b<=1073741824)(cx:bC x<=1073741824):IL b x:=by
 refine⟨hb,hx,by unfold bC at cb;omega,by unfold bC at cx;omega,fun i=>?_,fun i=>?_⟩
 ·have:=pB (es:=b) (i:=i) (j:=0);unfold bC at this cb;omega
 ·have:=pB (es:=x) (i:=i) (j:=0);unfold bC at this cx;omega
end Go.V
namespace Go.V
def Ig {i:Int}(h:0<=i)(h1:i<=9223372036854775807):bK .sub Za i 1=i-1:=fC Uc
def CX {es:af}{i:Int}:oU es (Int.toNat 0) (FD i 0)=es.take i.toNat:=by simp[oU,FD]
def cmp_eq {a b:Int}:cT .eql a b=decide (a=b):=by unfold cT;by_cases c:a=b<;>simp[c]
def Gl {a b:Int}:cT .neq a b=decide (a≠b):=by unfold cT;by_cases c:a=b<;>simp[c]
def rngIn (n a l:Int):Bool:=inR l 1 n&&inR a 0 (n-l)
def vT (n:Int)(rs:af)(i:Int):Bool:=rngIn n (ag rs i 0) (ag rs i 1)&& !(decide (0<i)&&decide (ag rs i 0<=bK .add Za (ag rs (i-1) 0) (ag rs (i-1) 1)))
def rgOk (n:Int)(rs:af):Bool:=dj (vT n rs) rs.length&&inR n 1 32
section
variable {n i: Int} {rs: af}
def Pv (i0:0<=i)(i1:i<rs.length)(h:rngIn n (ag rs i 0) (ag rs i 1)=false):rgOk n rs=false:=by
 unfold rgOk;rw[cM i0 i1 (by unfold vT;rw[h];rfl)];rfl
def Pw (i0:0<=i)(i1:i<rs.length)(h:0<i)(g:ag rs i 0<=bK .add Za (ag rs (i-1) 0) (ag rs (i-1) 1)):rgOk n rs=false:=by
 unfold rgOk;rw[cM i0 i1 (by unfold vT;rw[VG h,VG g];simp)];rfl
def KG (h:rngIn n (ag rs i 0) (ag rs i 1)=true)(g:i<=0):vT n rs i=true:=by
 unfold vT;rw[h,VH Uc];rfl
def KH (h:rngIn n (ag rs i 0) (ag rs i 1)=true)(g:bK .add Za (ag rs (i-1) 0) (ag rs (i-1) 1)<ag rs i 0):vT n rs i=true:=by
 unfold vT;rw[h,VH (p:=ag rs i 0<=_) Uc];simp
def Pu (h:upto (vT n rs) i)(g:(rs.length:Int)<=i):inR n 1 32=rgOk n rs:=by unfold rgOk;rw[cv h g];rfl
end
def G3 (rs:af)(p j:Int):Bool:=decide (ag rs j 0<=p)&&decide (p<bK .add Za (ag rs j 0) (ag rs j 1))
def rhI (rs:af)(p:Int):Int:=cQ (G3 rs p) rs.length
def rhB (rs:af)(p:Int):Bool:=decide (0<=rhI rs p)
def rh1 (a l p:Int):Bool:=decide (a<=p)&&decide (p<bK .add Za a l)
def mshB (p1 k1 b1 p2 k2 b2:Int):Bool:=spOk p1 k1 b1&&(spOk p2 k2 b2&&(decide (k1=k2)&&(decide (p1≠p2)&&decide (bK .and Za b1 b2=0))))
def Pm (qs:af):Nat->Int
 |0=>0
 |n+1=>Pm qs n+clsSz (ag qs n 1)
def qcI (qs:af):Int:=Pm qs qs.length
def Dw {k:Int}:0<=clsSz k/\clsSz k<=8:=by
 unfold clsSz;repeat' split
 all_goals omega
def L6 {qs:af}:∀ n:Nat,0<=Pm qs n/\Pm qs n<=8*n
 |0=>⟨Yl _,Yl _⟩
 |n+1=>by have q:=L6 (qs:=qs) n;have c:=Dw (k:=ag qs n 1);rw[Pm];omega
structure MQ (qs:af)(i t:Int):Prop where
 e:t=Pm qs i.toNat
def adj {qs:af}:MQ qs 0 0:=⟨rfl⟩
def adk {qs:af}{i t:Int}(h:MQ qs i t)(i0:0<=i):0<=t/\t<=8*i:=by have q:=L6 (qs:=qs) i.toNat;rw[<-h.e]at q;omega
def aaf {qs:af}{i t:Int}(h:MQ qs i t)(i0:0<=i)(i1:i<=1099511627776):MQ qs (i+1) (bK .add Za t (clsSz (ag qs i 1))):=by
 have b:=adk h i0;have c:=Dw (k:=ag qs i 1);refine⟨?_⟩;rw[show bK .add Za t (clsSz (ag qs i 1))=t+clsSz (ag qs i 1)from cu Uc,show(i+1).toNat=i.toNat+1 from by omega,Pm, <-h.e,Zm i0]
def Pn {qs:af}{i t:Int}(h:MQ qs i t)(i1:i<=qs.length)(i2:(qs.length:Int)<=i):t=qcI qs:=by unfold qcI;rw[h.e,show i.toNat=qs.length from by omega]
def stlOk (b:af)(a c s:Int):Bool:=inR c 0 3&&(decide (0<=a)&&(decide (0<=s)&&(!qtB b a&&(decide (b.length=0)||decide (ag b (b.length-1:Int) 2<=s)))))
def qtA (qs:af)(i:Int):Bool:=stlOk (qs.take i.toNat) (ag qs i 0) (ag qs i 1) (ag qs i 2)
def quarOk (rm:Int)(qs:af):Bool:=dj (qtA qs) qs.length&&(inR rm 0 500&&decide (qcI qs<=rm))
def JQ {es:af}{n:Nat}{i:Int}{j:Nat}(h:i.toNat<n):ag (es.take n) i j=ag es i j:=by
 unfold ag;rw[Zp (l:=es.take n),List.getElem?_take,VJ h,Zp (l:=es)]
section
variable {rm i: Int} {qs: af}
def aah (i0:0<=i)(i1:i<qs.length)(h:qtA qs i=false):quarOk rm qs=false:=by unfold quarOk;rw[cM i0 i1 h];rfl
def Pp (h:upto (qtA qs) i)(g:(qs.length:Int)<=i):quarOk rm qs=(inR rm 0 500&&decide (qcI qs<=rm)):=by unfold quarOk;rw[cv h g];rfl
end
def wA (ls:af)(i:Int):Nat->List Int
 |0=>[]
 |n+1=>wA ls i n++[ag (aO ls i 0) n 0]
def uZ (ls:af):Nat->List Int
 |0=>[]
 |n+1=>uZ ls n++wA ls n (aO ls n 0).length
def Jm (ls:af)(i k:Int):Bool:=inR (ag (aO ls i 0) k 0) 0 511&&decide (bK .rem Za (ag (aO ls i 0) k 0) (clsSz i)=0)
def Jl (ls:af)(i:Int):Bool:=decide ((aO ls i 0).length<=8)&&dj (Jm ls i) (aO ls i 0).length
def caOk (ls:af):Bool:=decide (ls.length=4)&&(dj (Jl ls) 4&&decide ((uZ ls 4).Nodup))
def Ds {ls:af}{i:Int}:∀ n,(wA ls i n).length=n
 |0=>rfl
 |n+1=>by rw[wA,Zh,Ds n];rfl
def Dt {ls:af}{i:Int}:∀ (m n:Nat),n<=m->∃ r,wA ls i m=wA ls i n++r
 |0,n,h=>⟨[],by rw[show n=0 from by omega];rfl⟩
 | m+1,n,h=>by
   by_cases c:n=m+1
   ·subst c;exact⟨[],by simp⟩
   ·obtain⟨r,e⟩:=Dt (ls:=ls) (i:=i) m n Uc;exact⟨r++[ag (aO ls i 0) m 0],by rw[wA,e,Zn]⟩
def Du {ls:af}:∀ (m n:Nat),n<=m->∃ r,uZ ls m=uZ ls n++r
 |0,n,h=>⟨[],by rw[show n=0 from by omega];rfl⟩
 | m+1,n,h=>by
   by_cases c:n=m+1
   ·subst c;exact⟨[],by simp⟩
   ·obtain⟨r,e⟩:=Du (ls:=ls) m n Uc;exact⟨r++wA ls m (aO ls m 0).length,by rw[uZ,e,Zn]⟩
def x9 {ls:af}{i k:Int}(h:0<=k):wA ls i (k+1).toNat=wA ls i k.toNat++[ag (aO ls i 0) k 0]:=by
 rw[show(k+1).toNat=k.toNat+1 from by omega,wA,Zm h]
def ya {ls:af}{i:Int}(h:0<=i):uZ ls (i+1).toNat=uZ ls i.toNat++wA ls i (aO ls i 0).length:=by
 rw[show(i+1).toNat=i.toNat+1 from by omega,uZ,Zm h]
structure MD (ls:af)(i:Int):Prop where
 ok:upto (Jl ls) i
 nd:(uZ ls i.toNat).Nodup
 l:i<=4
 b:∀ x∈uZ ls i.toNat,0<=x/\x<=511
 n:(uZ ls i.toNat).length<=8*i.toNat
structure Qb (ls:af)(i k:Int):Prop where
 ok:upto (Jl ls) i
 nd:(uZ ls i.toNat++wA ls i k.toNat).Nodup
 l:i<=3
 s:(aO ls i 0).length<=8
 bk:upto (Jm ls i) k
 b:∀ x∈uZ ls i.toNat++wA ls i k.toNat,0<=x/\x<=511
 n:(uZ ls i.toNat).length<=8*i.toNat
section
variable {ls: af} {i k: Int}
def abG:MD ls 0:=⟨bR,ZO,Uc,(fun x hx=>by cases hx),ZG _⟩
def abI (h:MD ls i)(i0:0<=i)(c:inR i 0 3=true)(s:(aO ls i 0).length<=8):Qb ls i 0:=
 ⟨h.ok,by simpa[wA]using h.nd,(bB.1 c).2,s,bR,by simpa[wA]using h.b,h.n⟩
def Q5 (h:Qb ls i k)(k0:0<=k)(h1:inR (ag (aO ls i 0) k 0) 0 511=true)(h2:bK .rem Za (ag (aO ls i 0) k 0) (clsSz i)=0)(h3:ag (aO ls i 0) k 0∉uZ ls i.toNat++wA ls i k.toNat):Qb ls i (k+1):=by
 refine⟨h.ok,?_,h.l,h.s,bL h.bk (by unfold Jm;rw[h1,VG h2];rfl),?_,h.n⟩
 ·rw[x9 k0, <-Zn];exact qG h.nd h3
 ·rw[x9 k0, <-Zn];intro x hx;rcases Zg.1 hx with q|q;exact h.b x q
  ·simp at q;subst q;exact bB.1 h1
def Q1 (h:Qb ls i k)(i0:0<=i)(k1:k<=((aO ls i 0).length:Int))(k2:((aO ls i 0).length:Int)<=k):MD ls (i+1):=by
 have e:k.toNat=(aO ls i 0).length:=by omega
 have nd:=h.nd;have b:=h.b;have n:=h.n;have s:=h.s;have l:=h.l;rw[e, <-ya i0]at nd b;refine⟨bL h.ok (by unfold Jl;rw[VG h.s,cv h.bk k2];rfl),nd,Uc,b,?_⟩;rw[ya i0,Zh,Ds];omega
def BR (h:(ls.length:Int)≠4):caOk ls=false:=by unfold caOk;rw[VH Uc];rfl
def Lf (i0:0<=i)(l:i<=3)(h:Jl ls i=false):caOk ls=false:=by unfold caOk;rw[cM (n:=4) i0 Uc h];simp
def M1 (i0:0<=i)(h:8<(aO ls i 0).length)(l:i<=3):caOk ls=false:=Lf i0 l (by unfold Jl;rw[VH Uc];rfl)
def F8 (i0:0<=i)(l:i<=3)(k0:0<=k)(k1:k<(aO ls i 0).length)(h:Jm ls i k=false):caOk ls=false:=Lf i0 l (by unfold Jl;rw[cM k0 k1 h,Yb])
def Q3 (h:inR (ag (aO ls i 0) k 0) 0 511=false):Jm ls i k=false:=by unfold Jm;rw[h];rfl
def Q4 (h:bK .rem Za (ag (aO ls i 0) k 0) (clsSz i)≠0):Jm ls i k=false:=by unfold Jm;rw[VH h,Yb]
def MZ (i0:0<=i)(l:i<=3)(k0:0<=k)(k1:k<(aO ls i 0).length)(h:ag (aO ls i 0) k 0∈uZ ls i.toNat++wA ls i k.toNat):caOk ls=false:=by
 obtain⟨r,e⟩:=Du (ls:=ls) 4 (i+1).toNat Uc;obtain⟨r2,e2⟩:=Dt (ls:=ls) (i:=i) (aO ls i 0).length (k+1).toNat Uc;rw[ya i0,e2,x9 k0]at e;have:¬ (uZ ls 4).Nodup:=dup (a:=uZ ls i.toNat++wA ls i k.toNat) (b:=r2++r) (x:=ag (aO ls i 0) k 0) (by rw[e];simp only[Zn];rfl) h;unfold caOk;rw[VH this];simp
def M2 (h:MD ls i)(h1:(ls.length:Int)=4)(i2:4<=i):caOk ls=true:=by
 have l:=h.l;have e:i=4:=by omega
 subst e;unfold caOk;rw[VG Uc,cv h.ok Uc,VG (p:=(uZ ls 4).Nodup) h.nd];rfl
def M0 (h:MD ls i)(i1:i<=ls.length)(i2:(ls.length:Int)<=i):decide ((ls.length:Int)=4)=caOk ls:=by
 by_cases c:(ls.length:Int)=4
 ·rw[M2 h c Uc];exact VG c
 ·rw[BR c];exact VH c
end
structure ScP (ls:af)(i:Int)(o:af):Prop where
 p:MD ls i
 e:o=jG (uZ ls i.toNat)
structure SdP (ls:af)(i k:Int)(o:af):Prop where
 p:Qb ls i k
 e:o=jG (uZ ls i.toNat++wA ls i k.toNat)
structure BB (ls:af)(i:Int)(es:af):Prop where
 p:MD ls i
 s:oW es (uZ ls i.toNat)
structure BC (ls:af)(i k:Int)(es:af):Prop where
 p:Qb ls i k
 s:oW es (uZ ls i.toNat++wA ls i k.toNat)
section
variable {ls o es: af} {i k: Int}
def Sj:BB ls 0 []:=⟨abG,CV⟩
def Sk (h:BB ls i es)(i0:0<=i)(c:inR i 0 3=true)(s:(aO ls i 0).length<=8):BC ls i 0 es:=⟨abI h.p i0 c s,by simpa[wA]using h.s⟩
def NY (h:BC ls i k es)(k0:0<=k)(h1:inR (ag (aO ls i 0) k 0) 0 511=true)(h2:bK .rem Za (ag (aO ls i 0) k 0) (clsSz i)=0)(h3:mgbI es (ag (aO ls i 0) k 0)=false):BC ls i (k+1) (lO es (ag (aO ls i 0) k 0) (.v (.bool true))):=by
 refine⟨Q5 h.p k0 h1 h2 (fun m=>by rw[(h.s.at_ _).2 m]at h3;cases h3),?_⟩;rw[x9 k0, <-Zn];exact ut h.s
def NX (h:BC ls i k es)(i0:0<=i)(k1:k<=((aO ls i 0).length:Int))(k2:((aO ls i 0).length:Int)<=k):BB ls (i+1) es:=
 ⟨Q1 h.p i0 k1 k2,by have s:=h.s;rw[show k.toNat=(aO ls i 0).length from by omega]at s;rw[ya i0];exact s⟩
def JV (h:BC ls i k es)(i0:0<=i)(k0:0<=k)(k1:k<(aO ls i 0).length)(h3:mgbI es (ag (aO ls i 0) k 0)=true):caOk ls=false:=MZ i0 h.p.l k0 k1 ((h.s.at_ _).1 h3)
def JS (h:BB ls i es)(i0:0<=i)(s:8<(aO ls i 0).length)(i1:i<ls.length):caOk ls=false:=by
 by_cases c:(ls.length:Int)=4;exact M1 i0 s Uc;exact BR c
def JU (h:BB ls i es)(i0:0<=i)(c:inR i 0 3=false)(i1:i<ls.length):caOk ls=false:=by
 have:=sW.1 c;exact BR Uc
end
def IV (cs:af)(i:Int):Bool:=inR (ag cs i 0) 0 15&& !(decide (0<i)&&decide (ag cs i 0<=ag cs (i-1) 0))
def plOk (k m:Int)(cs:af):Bool:=dj (IV cs) cs.length&&(inR k 0 31&&(inR m 0 31&&decide (k≠m)))
def jbOk (k m:Int)(cs:af)(ph nx:Int):Bool:=plOk k m cs&&(inR ph 0 5&&inR nx 0 cs.length)
section
variable {k m i: Int} {cs: af}
def Pf (i0:0<=i)(i1:i<cs.length)(h:inR (ag cs i 0) 0 15=false):plOk k m cs=false:=by
 unfold plOk;rw[cM i0 i1 (by unfold IV;rw[h];rfl)];rfl
def Pg (i0:0<=i)(i1:i<cs.length)(h:0<i)(g:ag cs i 0<=ag cs (i-1) 0):plOk k m cs=false:=by
 unfold plOk;rw[cM i0 i1 (by unfold IV;rw[VG h,VG g];simp)];rfl
def Kv (h:inR (ag cs i 0) 0 15=true)(g:i<=0):IV cs i=true:=by unfold IV;rw[h,VH Uc];rfl
def Kw (h:inR (ag cs i 0) 0 15=true)(g:ag cs (i-1) 0<ag cs i 0):IV cs i=true:=by
 unfold IV;rw[h,VH (p:=ag cs i 0<=_) Uc];simp
def HK (h:upto (IV cs) i)(g:(cs.length:Int)<=i):plOk k m cs=(inR k 0 31&&(inR m 0 31&&decide (k≠m))):=by unfold plOk;rw[cv h g];rfl
end
end Go.V
namespace Go.V
def Gr {sp lg:af}{a:Int}(h:dnK sp lg a=1):0<=dnI sp lg a/\dnI sp lg a<sp.length:=by
 unfold dnK at h;by_cases c:0<=gp sp a
 ·unfold dnI;rw[VJ c];rcases qn (p:=yW sp a) (n:=sp.length)with q|q
  ·have:gp sp a= -1:=q;omega
  ·exact q
 ·rw[VK c]at h;by_cases d:0<=oz lg a
  ·rw[VJ d]at h;omega
  ·rw[VK d]at h;omega
def Rt {sp lg:af}{a:Int}(h:dnK sp lg a=3):0<=dnI sp lg a/\dnI sp lg a<lg.length:=by
 unfold dnK at h;by_cases c:0<=gp sp a
 ·rw[VJ c]at h;split at h<;>omega
 ·rw[VK c]at h;by_cases d:0<=oz lg a
  ·unfold dnI;rw[VK c,VJ d];rcases qn (p:=yz lg a) (n:=lg.length)with q|q
   ·have:oz lg a= -1:=q;omega
   ·exact q
  ·rw[VK d]at h;omega
def wR (os:af)(x j:Int):Bool:=eqB (ag os j 0) x
def oiI (os:af)(x:Int):Int:=cQ (wR os x) os.length
def oiB (os:af)(x:Int):Bool:=decide (0<=oiI os x)
def okO (sp lg:af)(a s:Int):Bool:=decide (dnO sp lg a=0)&&((decide (dnK sp lg a=1)&&decide (ag sp (dnI sp lg a) 1=clsOf s))||(decide (dnK sp lg a=3)&&decide (ag lg (dnI sp lg a) 2=s)))
def yG (sp lg os cs:af)(nx i:Int):Bool:=
 !(decide (0<i)&&decide (ag os i 1<=ag os (i-1) 1))&&(inR (ag os i 0) 1 (bK .sub Za nx 1)&&(inR (ag os i 3) 0 (cs.length-1:Int)&&(!oiB (os.take i.toNat) (ag os i 0)&&okO sp lg (ag os i 1) (ag os i 2))))
def objOk (sp lg os cs:af)(nx:Int):Bool:=dj (yG sp lg os cs nx) os.length
section
variable {sp lg os cs: af} {nx i k: Int}
def xA (i0:0<=i)(i1:i<os.length)(h:yG sp lg os cs nx i=false):objOk sp lg os cs nx=false:=cM i0 i1 h
def O0 (h:upto (yG sp lg os cs nx) i)(g:(os.length:Int)<=i):objOk sp lg os cs nx=true:=cv h g
def TF (h:0<i)(g:ag os i 1<=ag os (i-1) 1):yG sp lg os cs nx i=false:=by unfold yG;rw[VG h,VG g];rfl
def TG (h:inR (ag os i 0) 1 (bK .sub Za nx 1)=false):yG sp lg os cs nx i=false:=by unfold yG;rw[h];simp
def TH (h:inR (ag os i 3) 0 (cs.length-1:Int)=false):yG sp lg os cs nx i=false:=by unfold yG;rw[h];simp
def TJ (h:oiB (os.take i.toNat) (ag os i 0)=true):yG sp lg os cs nx i=false:=by unfold yG;rw[h];simp
def LZ (h:okO sp lg (ag os i 1) (ag os i 2)=false):yG sp lg os cs nx i=false:=by unfold yG;rw[h];simp
def TK (h1:i<=0\/ag os (i-1) 1<ag os i 1)(h2:inR (ag os i 0) 1 (bK .sub Za nx 1)=true)(h3:inR (ag os i 3) 0 (cs.length-1:Int)=true)(h4:oiB (os.take i.toNat) (ag os i 0)=false)(h5:okO sp lg (ag os i 1) (ag os i 2)=true):yG sp lg os cs nx i=true:=by
 unfold yG;rw[h2,h3,h4,h5];rcases h1 with h|h
 ·rw[VH (p:=0<i) Uc];rfl
 ·rw[VH (p:=ag os i 1<=ag os (i-1) 1) Uc];simp
def TP {a s:Int}(h:dnO sp lg a≠0):okO sp lg a s=false:=by unfold okO;rw[VH h];rfl
def ac9 {a s:Int}(h1:dnK sp lg a≠1\/ag sp (dnI sp lg a) 1≠clsOf s)(h2:dnK sp lg a≠3\/ag lg (dnI sp lg a) 2≠s):okO sp lg a s=false:=by
 unfold okO;rcases h1 with h|h<;>rcases h2 with g|g<;>simp[h,g]
def TQ {a s:Int}(h0:dnO sp lg a=0)(h1:dnK sp lg a=1)(h2:ag sp (dnI sp lg a) 1=clsOf s):okO sp lg a s=true:=by unfold okO;rw[VG h0,VG h1,VG h2];rfl
def TR {a s:Int}(h0:dnO sp lg a=0)(h1:dnK sp lg a=3)(h2:ag lg (dnI sp lg a) 2=s):okO sp lg a s=true:=by unfold okO;rw[VG h0,VG h1,VG h2];simp
end
end Go.V
namespace Go.V
def WfI (es:af):Prop:=∀ e∈es,∃ k b:Int,e=[.i k,.i b]
def s7 {k b:Int}{es:af}{n:Int}:dN ([.i k,.i b]::es) n=if k=n then some (0,.int Za b)else(dN es n).map fun p=>(p.1+1,p.2):=rfl
def nL {k b:Int}{es:af}{n:Int}:iF ([.i k,.i b]::es) n=if k=n then b else iF es n:=by
 unfold iF;rw[s7];by_cases c:k=n
 ·rw[VJ c,VJ c]
 ·rw[VK c,VK c];cases dN es n with
  |none=>rfl
  |some p=>obtain⟨j,v⟩:=p;cases v<;>rfl
def Hn {k b x:Int}{es:af}{n:Int}:lO ([.i k,.i b]::es) n (.i x)=if k=n then[.i n,.i x]::es else[.i k,.i b]::lO es n (.i x):=by
 unfold lO;rw[s7];by_cases c:k=n
 ·rw[VJ c,VJ c];rfl
 ·rw[VK c,VK c];cases dN es n with
  |none=>rfl
  |some p=>rfl
def Tl {x n:Int}:∀ {es:af},WfI es->WfI (lO es n (.i x))/\∀ m,iF (lO es n (.i x)) m=if m=n then x else iF es m
 | [],_=>by
   refine⟨fun e he=>?_,fun m=>?_⟩
   ·have:e=[.i n,.i x]:=by simpa[lO,dN]using he
    exact⟨n,x,this⟩
   ·show iF [[.i n,.i x]] m=_;rw[nL];by_cases c:m=n
    ·rw[VJ c.symm,VJ c]
    ·rw[VK (fun e=>c e.symm),VK c]
 | e::es,h=>by
   obtain⟨k,b,rfl⟩:=h e (by simp);have h':WfI es:=fun e he=>h e (by simp[he])
   obtain⟨a1,a2⟩:=Tl (x:=x) (n:=n) h';rw[Hn];by_cases c:k=n
   ·rw[VJ c];refine⟨fun e he=>?_,fun m=>?_⟩
    ·rcases Zj.1 he with rfl|he;exact⟨n,x,rfl⟩;exact h' e he
    ·rw[nL,nL];by_cases d:m=n
     ·rw[VJ d.symm,VJ d]
     ·rw[VK (fun e=>d e.symm),VK d,VK (fun e=>d (by rw[<-e,c]))]
   ·rw[VK c];refine⟨fun e he=>?_,fun m=>?_⟩
    ·rcases Zj.1 he with rfl|he;exact⟨k,b,rfl⟩;exact a1 e he
    ·rw[nL,nL,a2 m];by_cases d:k=m
     ·rw[VJ d,VJ d,VK (fun e=>c (d.trans e))]
     ·rw[VK d,VK d]
def huI (es:af)(a:Int):af:=lO es a (.i (bK .add Za (iF es a) 1))
structure xS (es:af)(l:List Int):Prop where
 wf:WfI es
 c:∀ m,iF es m=(l.count m:Int)
def abK:xS [] []:=⟨(fun e he=>by cases he),fun m=>rfl⟩
def Dx {es:af}{l:List Int}{a:Int}(h:xS es l)(hl:l.length<=1099511627776):xS (huI es a) (l++[a]):=by
 have q:=Tl (x:=bK .add Za (iF es a) 1) (n:=a) h.wf;refine⟨q.1,fun m=>?_⟩;show iF (lO es a _) m=_;have b:l.count a<=l.length:=List.count_le_length;have e:=h.c a;rw[q.2 m,List.count_append,show bK .add Za (iF es a) 1=iF es a+1 from cu Uc];by_cases c:m=a
 ·subst c;rw[VJ rfl,e];simp
 ·rw[VK c,h.c m];have:[a].count m=0:=List.count_eq_zero.2 (by simpa using c);rw[this];rfl
def md (l:af)(f:Nat):Nat->List Int
 |0=>[]
 |n+1=>md l f n++[ag l n f]
def zN (ls:af):Nat->List Int
 |0=>[]
 |n+1=>zN ls n++md (aO ls n 0) 0 (aO ls n 0).length
def uW (cs:af):Nat->List Int
 |0=>[]
 |n+1=>uW cs n++zN (aO cs n 0) (aO cs n 0).length
def jI {l:af}{f:Nat}:∀ n,(md l f n).length=n
 |0=>rfl
 |n+1=>by rw[md,Zh,jI n];rfl
def yw {l:af}{f:Nat}{i:Int}(h:0<=i):md l f (i+1).toNat=md l f i.toNat++[ag l i f]:=by
 rw[show(i+1).toNat=i.toNat+1 from by omega,md,Zm h]
def Nb {l:af}{i:Int}(h:0<=i):zN l (i+1).toNat=zN l i.toNat++md (aO l i 0) 0 (aO l i 0).length:=by
 rw[show(i+1).toNat=i.toNat+1 from by omega,zN,Zm h]
def M5 {l:af}{i:Int}(h:0<=i):uW l (i+1).toNat=uW l i.toNat++zN (aO l i 0) (aO l i 0).length:=by
 rw[show(i+1).toNat=i.toNat+1 from by omega,uW,Zm h]
def qB {l:af}{f:Nat}{x:Int}:∀ {n},x∈md l f n↔∃ k:Nat,k<n/\x=ag l k f
 |0=>⟨(fun h=>by cases h),fun⟨k,h,_⟩=>absurd h (X3 _)⟩
 | n+1=>by
   rw[md,Zg,qB,Z3]
   constructor
   ·rintro(⟨k,h,e⟩|e);exact⟨k,Uc,e⟩;exact⟨n,Uc,e⟩
   ·rintro⟨k,h,e⟩;by_cases c:k=n
    ·subst c;exact .inr e
    ·exact .inl ⟨k,Uc,e⟩
def D6 {ls:af}{x:Int}:∀ {n},x∈zN ls n↔∃ k:Nat,k<n/\x∈md (aO ls k 0) 0 (aO ls k 0).length
 |0=>⟨(fun h=>by cases h),fun⟨k,h,_⟩=>absurd h (X3 _)⟩
 | n+1=>by
   rw[zN,Zg,D6]
   constructor
   ·rintro(⟨k,h,e⟩|e);exact⟨k,Uc,e⟩;exact⟨n,Uc,e⟩
   ·rintro⟨k,h,e⟩;by_cases c:k=n
    ·subst c;exact .inr e
    ·exact .inl ⟨k,Uc,e⟩
def D5 {cs:af}{x:Int}:∀ {n},x∈uW cs n↔∃ k:Nat,k<n/\x∈zN (aO cs k 0) (aO cs k 0).length
 |0=>⟨(fun h=>by cases h),fun⟨k,h,_⟩=>absurd h (X3 _)⟩
 | n+1=>by
   rw[uW,Zg,D5]
   constructor
   ·rintro(⟨k,h,e⟩|e);exact⟨k,Uc,e⟩;exact⟨n,Uc,e⟩
   ·rintro⟨k,h,e⟩;by_cases c:k=n
    ·subst c;exact .inr e
    ·exact .inl ⟨k,Uc,e⟩
def yc {ls:af}:∀ n,n<=ls.length->(zN ls n).length<=dk (ls.take n)
 |0,_=>ZG _
 | n+1,h=>by
   have q:=yc n (by omega:n<=ls.length);have c:=vp (es:=ls) (n:=n) (j:=0) Uc;unfold bC at c;rw[zN,Zh,jI,lU Uc];omega
def qd {cs:af}:∀ n,n<=cs.length->(uW cs n).length<=dk (cs.take n)
 |0,_=>ZG _
 | n+1,h=>by
   have q:=qd n (by omega:n<=cs.length);have c:=vp (es:=cs) (n:=n) (j:=0) Uc;have d:=yc (ls:=aO cs n 0) (aO cs n 0).length (Zf _);rw[Y0]at d;unfold bC at c;rw[uW,Zh,lU Uc];omega
def Jo {cs:af}{i k:Int}(i0:0<=i)(i1:i<cs.length)(k1:k<=(aO cs i 0).length):(uW cs i.toNat++zN (aO cs i 0) k.toNat).length+dk ((aO cs i 0).drop k.toNat)<=dk cs:=by
 have q:=qd (cs:=cs) i.toNat Uc;have c:=Aj (es:=cs) (n:=i.toNat+1);have d:=lU (es:=cs) (n:=i.toNat) Uc;have e:=vp (es:=cs) (n:=i.toNat) (j:=0) Uc;rw[Zm i0]at e;have f:=yc (ls:=aO cs i 0) k.toNat Uc;have g:dk (aO cs i 0)=dk ((aO cs i 0).take k.toNat)+dk ((aO cs i 0).drop k.toNat):=by rw[<-fg,ZK]
 rw[Zh];unfold bC at e;omega
def Jp {cs:af}{i k j:Int}(i0:0<=i)(i1:i<cs.length)(k0:0<=k)(k1:k<(aO cs i 0).length)(j0:0<=j)(j1:j<=(aO (aO cs i 0) k 0).length):(uW cs i.toNat++zN (aO cs i 0) k.toNat++md (aO (aO cs i 0) k 0) 0 j.toNat).length<=dk cs:=by
 have q:=Jo i0 i1 (by omega:k<=(aO cs i 0).length);have e:=vp (es:=aO cs i 0) (n:=k.toNat) (j:=0) Uc;rw[Zm k0]at e;have d:mY ((aO cs i 0).getD k.toNat [])<=dk ((aO cs i 0).drop k.toNat):=by
  rw[WG Uc];rw[Zp,Zt Uc];simp[dk]
 rw[Zh,jI];unfold bC at e;omega
def hlB (sp lg:af)(a k:Int):Bool:=decide (dnK sp lg a=1)&&(decide (dnO sp lg a=0)&&(decide (k<0)||decide (ag sp (dnI sp lg a) 1=k)))
def jA (sp lg l:af)(k j:Int):Bool:=hlB sp lg (ag l j 0) k
def kA (sp lg ls:af)(k:Int):Bool:=dj (jA sp lg (aO ls k 0) k) (aO ls k 0).length
def iA (sp lg cs:af)(i:Int):Bool:=dj (kA sp lg (aO cs i 0)) (aO cs i 0).length
def qA (sp lg qs:af)(i:Int):Bool:=hlB sp lg (ag qs i 0) (ag qs i 1)
def sA (qs:af)(c i:Int):Bool:=decide (ag qs i 2<=c)
def Fg (sp lg qs:af)(c i:Int):Bool:=qA sp lg qs i&&sA qs c i
def Qv (os cs qs fl:af):List Int:=uW cs cs.length++md qs 0 qs.length++md fl 0 fl.length++md os 1 os.length
def hoB (os cs qs fl:af):List Int:=md os 1 os.length++uW cs cs.length++md qs 0 qs.length++md fl 0 fl.length
def Qs (l:List Int)(lv:af)(i:Int):Bool:=decide (l.count (ag lv i 0)=1)
def hoI (sp lg os cs b x qs:af)(c:Int):Bool:=dj (iA sp lg cs) cs.length&&(dj (Fg sp lg qs c) qs.length&&(dj (jA sp lg (ifL b x) (-1)) (ifL b x).length&&dj (Qs (Qv os cs qs (ifL b x)) (zP sp lg)) (zP sp lg).length))
section
variable {sp lg os cs b x qs fl es: af} {i k j c: Int}
def aco (k0:0<=k)(k1:k<(aO cs i 0).length)(j0:0<=j)(j1:j<(aO (aO cs i 0) k 0).length)(h:hlB sp lg (ag (aO (aO cs i 0) k 0) j 0) k=false):iA sp lg cs i=false:=
 cM k0 k1 (cM (p:=jA sp lg (aO (aO cs i 0) k 0) k) j0 j1 h)
def NM (i0:0<=i)(i1:i<cs.length)(h:iA sp lg cs i=false):hoI sp lg os cs b x qs c=false:=by unfold hoI;rw[cM i0 i1 h];rfl
def GO (i0:0<=i)(i1:i<qs.length)(h:Fg sp lg qs c i=false):hoI sp lg os cs b x qs c=false:=by unfold hoI;rw[cM i0 i1 h];simp
def NN (i0:0<=i)(i1:i<(ifL b x).length)(h:hlB sp lg (ag (ifL b x) i 0) (-1)=false):hoI sp lg os cs b x qs c=false:=by unfold hoI;rw[cM (p:=jA sp lg (ifL b x) (-1)) i0 i1 h];simp
def NO (i0:0<=i)(i1:i<(zP sp lg).length)(h:Qs (Qv os cs qs (ifL b x)) (zP sp lg) i=false):hoI sp lg os cs b x qs c=false:=by unfold hoI;rw[cM i0 i1 h];simp
def aai (h:hlB sp lg (ag qs i 0) (ag qs i 1)=false):Fg sp lg qs c i=false:=by unfold Fg qA;rw[h];rfl
def aaj (h:c<ag qs i 2):Fg sp lg qs c i=false:=by unfold Fg sA;rw[VH Uc,Yb]
def adl (h:hlB sp lg (ag qs i 0) (ag qs i 1)=true)(g:ag qs i 2<=c):Fg sp lg qs c i=true:=by unfold Fg qA sA;rw[h,VG g];rfl
structure Qg (sp lg cs:af)(i:Int)(es:af):Prop where
 ok:upto (iA sp lg cs) i
 c:xS es (uW cs i.toNat)
structure Qi (sp lg cs:af)(i k:Int)(es:af):Prop where
 ok:upto (iA sp lg cs) i
 ok2:upto (kA sp lg (aO cs i 0)) k
 c:xS es (uW cs i.toNat++zN (aO cs i 0) k.toNat)
structure Qh (sp lg cs:af)(i k j:Int)(es:af):Prop where
 ok:upto (iA sp lg cs) i
 ok2:upto (kA sp lg (aO cs i 0)) k
 ok3:upto (jA sp lg (aO (aO cs i 0) k 0) k) j
 c:xS es (uW cs i.toNat++zN (aO cs i 0) k.toNat++md (aO (aO cs i 0) k 0) 0 j.toNat)
structure Qj (sp lg cs qs:af)(t j:Int)(es:af):Prop where
 ok:dj (iA sp lg cs) cs.length=true
 ok2:upto (Fg sp lg qs t) j
 c:xS es (uW cs cs.length++md qs 0 j.toNat)
structure Qf (sp lg cs qs fl:af)(t j:Int)(es:af):Prop where
 ok:dj (iA sp lg cs) cs.length=true
 ok2:dj (Fg sp lg qs t) qs.length=true
 ok3:upto (jA sp lg fl (-1)) j
 c:xS es (uW cs cs.length++md qs 0 qs.length++md fl 0 j.toNat)
structure MF (sp lg os cs qs fl:af)(t j:Int)(es:af):Prop where
 ok:dj (iA sp lg cs) cs.length=true
 ok2:dj (Fg sp lg qs t) qs.length=true
 ok3:dj (jA sp lg fl (-1)) fl.length=true
 c:xS es (uW cs cs.length++md qs 0 qs.length++md fl 0 fl.length++md os 1 j.toNat)
def abY:Qg sp lg cs 0 []:=⟨bR,abK⟩
def ab0 (h:Qg sp lg cs i es):Qi sp lg cs i 0 es:=⟨h.ok,bR,by simpa[zN]using h.c⟩
def abZ (h:Qi sp lg cs i k es):Qh sp lg cs i k 0 es:=⟨h.ok,h.ok2,bR,by simpa[md]using h.c⟩
def R2 (h:Qh sp lg cs i k j es)(i0:0<=i)(i1:i<cs.length)(k0:0<=k)(k1:k<(aO cs i 0).length)(j0:0<=j)(j1:j<(aO (aO cs i 0) k 0).length)(hc:bC cs<=1073741824)(hh:hlB sp lg (ag (aO (aO cs i 0) k 0) j 0) k=true):
 Qh sp lg cs i k (j+1) (huI es (ag (aO (aO cs i 0) k 0) j 0)):=by
 have l:=Jp (cs:=cs) i0 i1 k0 k1 j0 Uc;unfold bC at hc;exact⟨h.ok,h.ok2,bL h.ok3 hh,by rw[yw j0, <-Zn];exact Dx h.c Uc⟩
def R3 (h:Qh sp lg cs i k j es)(k0:0<=k)(j1:j<=((aO (aO cs i 0) k 0).length:Int))(j2:((aO (aO cs i 0) k 0).length:Int)<=j):Qi sp lg cs i (k+1) es:=by
 refine⟨h.ok,bL h.ok2 (cv h.ok3 j2),?_⟩;have c:=h.c;rw[show j.toNat=(aO (aO cs i 0) k 0).length from by omega,Zn, <-Nb k0]at c;exact c
def R1 (h:Qi sp lg cs i k es)(i0:0<=i)(k1:k<=((aO cs i 0).length:Int))(k2:((aO cs i 0).length:Int)<=k):Qg sp lg cs (i+1) es:=by
 refine⟨bL h.ok (cv h.ok2 k2),?_⟩;have c:=h.c;rw[show k.toNat=(aO cs i 0).length from by omega, <-M5 i0]at c;exact c
def ack (h:Qg sp lg cs i es)(i1:i<=cs.length)(i2:(cs.length:Int)<=i):Qj sp lg cs qs c 0 es:=
 ⟨cv h.ok i2,bR,by have c:=h.c;rw[show i.toNat=cs.length from by omega]at c;simpa[md]using c⟩
def Sc (h:Qj sp lg cs qs c j es)(j0:0<=j)(j1:j<qs.length)(hc:bC cs<=1073741824)(hq:qs.length<=1073741824)(hh:Fg sp lg qs c j=true):Qj sp lg cs qs c (j+1) (huI es (ag qs j 0)):=by
 have l:=qd (cs:=cs) cs.length (Zf _);rw[Y0]at l;unfold bC at hc;refine⟨h.ok,bL h.ok2 hh,?_⟩;rw[yw j0, <-Zn];refine Dx h.c ?_;rw[Zh,jI];omega
def abX (h:Qj sp lg cs qs c i es)(i1:i<=qs.length)(i2:(qs.length:Int)<=i):Qf sp lg cs qs fl c 0 es:=
 ⟨h.ok,cv h.ok2 i2,bR,by have c:=h.c;rw[show i.toNat=qs.length from by omega]at c;simpa[md]using c⟩
def R0 (h:Qf sp lg cs qs fl c j es)(j0:0<=j)(j1:j<fl.length)(hc:bC cs<=1073741824)(hq:qs.length<=1073741824)(hf:fl.length<=30)(hh:hlB sp lg (ag fl j 0) (-1)=true):Qf sp lg cs qs fl c (j+1) (huI es (ag fl j 0)):=by
 have l:=qd (cs:=cs) cs.length (Zf _);rw[Y0]at l;unfold bC at hc;refine⟨h.ok,h.ok2,bL h.ok3 hh,?_⟩;rw[yw j0, <-Zn];refine Dx h.c ?_;rw[Zh,Zh,jI,jI];omega
def ab5 (h:Qf sp lg cs qs fl c i es)(i1:i<=fl.length)(i2:(fl.length:Int)<=i):MF sp lg os cs qs fl c 0 es:=
 ⟨h.ok,h.ok2,cv h.ok3 i2,by have c:=h.c;rw[show i.toNat=fl.length from by omega]at c;simpa[md]using c⟩
def R7 (h:MF sp lg os cs qs fl c j es)(j0:0<=j)(j1:j<os.length)(hc:bC cs<=1073741824)(hq:qs.length<=1073741824)(ho:os.length<=1073741824)(hf:fl.length<=30):MF sp lg os cs qs fl c (j+1) (huI es (ag os j 1)):=by
 have l:=qd (cs:=cs) cs.length (Zf _);rw[Y0]at l;unfold bC at hc;refine⟨h.ok,h.ok2,h.ok3,?_⟩;rw[yw j0, <-Zn];refine Dx h.c ?_;rw[Zh,Zh,Zh,jI,jI,jI];omega
structure K8 (sp lg os cs qs fl:af)(t i:Int)(es:af):Prop where
 p:MF sp lg os cs qs fl t os.length es
 ok:upto (Qs (Qv os cs qs fl) (zP sp lg)) i
def ab1 (h:MF sp lg os cs qs fl c i es)(i1:i<=os.length)(i2:(os.length:Int)<=i):K8 sp lg os cs qs fl c 0 es:=⟨by rw[show(os.length:Int)=i from by omega];exact h,bR⟩
def R4 (h:K8 sp lg os cs qs fl c i es)(m:Int):iF es m=((Qv os cs qs fl).count m:Int):=by
 have q:=h.p.c.c m;rw[ZI]at q;exact q
def R5 (h:K8 sp lg os cs qs fl c i es)(e:iF es (ag (zP sp lg) i 0)=1):K8 sp lg os cs qs fl c (i+1) es:=
 ⟨h.p,bL h.ok (by unfold Qs;rw[R4 h]at e;exact VG Uc)⟩
def ab2 (h:K8 sp lg os cs qs (ifL b x) c i es)(i0:0<=i)(i1:i<(zP sp lg).length)(e:iF es (ag (zP sp lg) i 0)≠1):hoI sp lg os cs b x qs c=false:=
 NO i0 i1 (by unfold Qs;rw[R4 h]at e;exact VH Uc)
def NI (h:K8 sp lg os cs qs (ifL b x) c i es)(i2:((zP sp lg).length:Int)<=i):hoI sp lg os cs b x qs c=true:=by
 unfold hoI;rw[h.p.ok,h.p.ok2,h.p.ok3,cv h.ok i2];rfl
end
end Go.V
namespace Go.V
structure S1P (os:af)(i:Int)(o:af):Prop where
 e:o=jG (md os 1 i.toNat)
structure S2P (sp lg os cs:af)(i:Int)(o:af):Prop where
 ok:upto (iA sp lg cs) i
 e:o=jG (md os 1 os.length++uW cs i.toNat)
structure S3P (sp lg os cs:af)(i k:Int)(o:af):Prop where
 ok:upto (iA sp lg cs) i
 ok2:upto (kA sp lg (aO cs i 0)) k
 e:o=jG (md os 1 os.length++(uW cs i.toNat++zN (aO cs i 0) k.toNat))
structure S4P (sp lg os cs:af)(i k j:Int)(o:af):Prop where
 ok:upto (iA sp lg cs) i
 ok2:upto (kA sp lg (aO cs i 0)) k
 ok3:upto (jA sp lg (aO (aO cs i 0) k 0) k) j
 e:o=jG (md os 1 os.length++(uW cs i.toNat++zN (aO cs i 0) k.toNat++md (aO (aO cs i 0) k 0) 0 j.toNat))
structure S5P (sp lg os cs qs:af)(j:Int)(o:af):Prop where
 ok:dj (iA sp lg cs) cs.length=true
 ok2:upto (qA sp lg qs) j
 e:o=jG (md os 1 os.length++uW cs cs.length++md qs 0 j.toNat)
structure S6P (sp lg os cs qs fl:af)(j:Int)(o:af):Prop where
 ok:dj (iA sp lg cs) cs.length=true
 ok2:dj (qA sp lg qs) qs.length=true
 ok3:upto (jA sp lg fl (-1)) j
 e:o=jG (md os 1 os.length++uW cs cs.length++md qs 0 qs.length++md fl 0 j.toNat)
structure S7P (sp lg os cs qs fl:af)(j:Int)(o:af):Prop where
 ok:dj (iA sp lg cs) cs.length=true
 ok2:dj (qA sp lg qs) qs.length=true
 ok3:dj (jA sp lg fl (-1)) fl.length=true
 e:o=jG (hoB os cs qs fl)
 nd:((hoB os cs qs fl).take j.toNat).Nodup
section
variable {sp lg os cs b x qs fl o: af} {i k j: Int}
def lM {p:Int->Bool}{n:Nat}(h:dj p n=true):∀ k:Nat,k<n->p k=true:=fun k hk=>dI.1 h k Uc Uc
end
end Go.V
namespace Go.V
def DR {n:Int}:∀ {es:af},Qr es->∀ m,m∈mg (lO es n (.v (.bool true)))↔m∈mg es\/m=n
 | [],_,m=>by
   show m∈mg [[.i n,.v (.bool true)]]↔_;simp[mg,kOf]
 | e::es,h,m=>by
   obtain⟨k,b,rfl⟩:=h e (by simp);have h':Qr es:=fun e he=>h e (by simp[he])
   have ih:=DR (n:=n) h' m;rw[D8];by_cases c:k=n
   ·rw[VJ c];subst c;show m∈k::mg es↔m∈k::mg es\/m=k;simp only[Zj]
    constructor;exact fun h=>.inl h
    ·rintro(h|h);exact h;exact .inl h
   ·rw[VK c];show m∈k::mg (lO es n (.v (.bool true)))↔m∈k::mg es\/m=n;simp only[Zj,ih,or_assoc]
structure uz (es:af)(l:List Int):Prop where
 s:oW es l
 k:∀ m,m∈mg es↔m∈l
def TU:uz [] []:=⟨CV,fun m=>Iff.rfl⟩
def HA {es:af}{l:List Int}{n:Int}(h:uz es l):uz (lO es n (.v (.bool true))) (l++[n]):=
 ⟨ut h.s,fun m=>by rw[DR h.s.wf,h.k,Zg,Z3]⟩
def zS (sp:af)(i:Int):Bool:= !(decide (0<i)&&decide (ag sp i 0<=ag sp (i-1) 0))
def Lw (es:af)(p:Int):Bool:=decide ((fpg es p).length=1)
def Cp (es lg:af)(i:Int):Bool:=zS lg i&&dj (fun k=>Lw es (ag lg i 0+k)) (ag lg i 1).toNat
def ownB (sp lg:af)(p:Int):Bool:=decide (p∈wT sp lg)
def mapB (es:af)(p:Int):Bool:=decide (peM es p≠0)
def FE (es fr sp lg:af)(p:Int):Bool:=(mapB es p==ownB sp lg p)&& !(rhB fr p==ownB sp lg p)
def TN (es sp lg:af):Bool:=decide (∀ p∈wT sp lg,p<es.length)
def Kj (sp:af)(i j:Int):Bool:=mshB (ag sp i 0) (ag sp i 1) (ag sp i 2) (ag sp j 0) (ag sp j 1) (ag sp j 2)
def IQ (es sp:af)(i j:Int):Bool:= !decide (peF es (ag sp i 0)=peF es (ag sp j 0))||Kj sp i j
def IR (es sp:af)(i:Int):Bool:=dj (IQ es sp i) i.toNat
def pgI (es fr sp lg:af):Bool:=dj (zS sp) sp.length&&(dj (Cp es lg) lg.length&&(dj (FE es fr sp lg) es.length&&(TN es sp lg&&dj (IR es sp) sp.length)))
section
variable {es fr sp lg m: af} {i j k p: Int} {vs: List Int}
def Mi (h:0<i)(g:ag sp i 0<=ag sp (i-1) 0):zS sp i=false:=by unfold zS;rw[VG h,VG g];rfl
def Mj (h:i<=0):zS sp i=true:=by unfold zS;rw[VH Uc];rfl
def Mk (h:ag sp (i-1) 0<ag sp i 0):zS sp i=true:=by unfold zS;rw[VH (p:=ag sp i 0<=_) Uc];simp
def T7 (i0:0<=i)(i1:i<sp.length)(h:zS sp i=false):pgI es fr sp lg=false:=by unfold pgI;rw[cM i0 i1 h];rfl
def L3 (i0:0<=i)(i1:i<lg.length)(h:Cp es lg i=false):pgI es fr sp lg=false:=by unfold pgI;rw[cM i0 i1 h];simp
def L4 (i0:0<=i)(i1:i<es.length)(h:FE es fr sp lg i=false):pgI es fr sp lg=false:=by unfold pgI;rw[cM i0 i1 h];simp
def T8 (h:TN es sp lg=false):pgI es fr sp lg=false:=by unfold pgI;rw[h];simp
def T9 (i0:0<=i)(i1:i<sp.length)(h:IR es sp i=false):pgI es fr sp lg=false:=by unfold pgI;rw[cM i0 i1 h];simp
def adh {a b c d:Int}(h1:upto (zS sp) a)(g1:(sp.length:Int)<=a)(h2:upto (Cp es lg) b)(g2:(lg.length:Int)<=b)(h3:upto (FE es fr sp lg) c)(g3:(es.length:Int)<=c)(h4:TN es sp lg=true)(h5:upto (IR es sp) d)(g5:(sp.length:Int)<=d):pgI es fr sp lg=true:=by
 unfold pgI;rw[cv h1 g1,cv h2 g2,cv h3 g3,h4,cv h5 g5];rfl
def SO (h:zS lg i=false):Cp es lg i=false:=by unfold Cp;rw[h];rfl
def SP (k0:0<=k)(k1:k<ag lg i 1)(h:(fpg es (ag lg i 0+k)).length≠1):Cp es lg i=false:=by
 unfold Cp;rw[cM (i:=k) (n:=(ag lg i 1).toNat) k0 Uc (show Lw es (ag lg i 0+k)=false from VH h),Yb]
def acO (h:zS lg i=true)(g:upto (fun k=>Lw es (ag lg i 0+k)) k)(k1:ag lg i 1<=k)(n0:0<=ag lg i 1):Cp es lg i=true:=by
 unfold Cp;rw[h,cv g Uc];rfl
def RA (g:upto (fun k=>Lw es (ag lg i 0+k)) k)(h:(fpg es (ag lg i 0+k)).length=1):upto (fun k=>Lw es (ag lg i 0+k)) (k+1):=bL g (VG h)
structure Qo (es sp lg:af)(j:Int)(m:af):Prop where
 ok:upto (Cp es lg) j
 o:uz m (lP sp sp.length++mZ lg j.toNat)
structure Qn (es sp lg:af)(j k:Int)(m:af):Prop where
 ok:upto (Cp es lg) j
 h:zS lg j=true
 g:upto (fun k=>Lw es (ag lg j 0+k)) k
 o:uz m (lP sp sp.length++mZ lg j.toNat++tj (ag lg j 0) k.toNat)
def adi (h:uz m (lP sp i.toNat))(i1:i<=sp.length)(i2:(sp.length:Int)<=i):Qo es sp lg 0 m:=⟨bR,by rw[show i.toNat=sp.length from by omega]at h;simpa[mZ]using h⟩
def aaa (h:Qo es sp lg j m)(g:zS lg j=true):Qn es sp lg j (ag lg j 0-ag lg j 0) m:=by
 rw[Int.sub_self];exact⟨h.ok,g,bR,by simpa[tj]using h.o⟩
def aac (h:Qn es sp lg j (p-ag lg j 0) m)(p0:ag lg j 0<=p)(g:(fpg es p).length=1):Qn es sp lg j (p+1-ag lg j 0) (lO m p (.v (.bool true))):=by
 have e:ag lg j 0+(p-ag lg j 0)=p:=by omega
 rw[show p+1-ag lg j 0=(p-ag lg j 0)+1 from by omega];refine⟨h.ok,h.h,RA h.g (by rw[e];exact g),?_⟩;rw[CL Uc,e, <-Zn];exact HA h.o
def aab (p0:ag lg j 0<=p)(p1:p<ag lg j 0+ag lg j 1)(h:(fpg es p).length≠1):Cp es lg j=false:=
 SP (k:=p-ag lg j 0) Uc Uc (by rw[show ag lg j 0+(p-ag lg j 0)=p from by omega];exact h)
def aad (h:Qn es sp lg j (p-ag lg j 0) m)(j0:0<=j)(n0:0<=ag lg j 1)(p1:p<=ag lg j 0+ag lg j 1)(p2:ag lg j 0+ag lg j 1<=p):Qo es sp lg (j+1) m:=by
 refine⟨bL h.ok (acO h.h h.g Uc n0),?_⟩;have o:=h.o;rw[show(p-ag lg j 0).toNat=(ag lg j 1).toNat from by omega,Zn, <-Cr j0]at o;exact o
def Ph (h:Qo es sp lg j m)(j1:j<=lg.length)(j2:(lg.length:Int)<=j):uz m (wT sp lg):=by
 have o:=h.o;rw[show j.toNat=lg.length from by omega]at o;exact o
def TV (h:uz m (wT sp lg))(p:Int):mgbI m p=ownB sp lg p:=by
 refine k8 ?_;unfold ownB;rw[h.s.at_,VI]
def Rv (h:mapB es p≠ownB sp lg p):FE es fr sp lg p=false:=by unfold FE;rw[beq_eq_false_iff_ne.2 h];rfl
def Rx (h:rhB fr p=ownB sp lg p):FE es fr sp lg p=false:=by unfold FE;rw[h];simp
def abR (h:mapB es p=ownB sp lg p)(g:rhB fr p≠ownB sp lg p):FE es fr sp lg p=true:=by unfold FE;rw[h,beq_eq_false_iff_ne.2 g];simp
def ac7 (h:p∈wT sp lg)(g:(es.length:Int)<=p):TN es sp lg=false:=VH (fun c=>by have:=c p h;omega)
def ac8 (o:uz m (wT sp lg))(h:∀ k∈vs,k<es.length)(g:∀ k∈mg m,k∈vs):TN es sp lg=true:=VG (fun p hp=>h p (g p ((o.k p).2 hp)))
def aaY {q:Int}(h:∀ k∈vs,k<(es.length:Int))(g:q<es.length):∀ k∈q::vs,k<(es.length:Int):=fun k hk=>by
 rcases Zj.1 hk with rfl|hk;exact g;exact h k hk
def acU (j0:0<=j)(j1:j<i)(h:peF es (ag sp i 0)=peF es (ag sp j 0))(g:Kj sp i j=false):IR es sp i=false:=by
 unfold IR;exact cM j0 Uc (by unfold IQ;rw[g,VG h];rfl)
def Td (h:peF es (ag sp i 0)≠peF es (ag sp j 0)):IQ es sp i j=true:=by unfold IQ;rw[VH h];rfl
def Te (h:Kj sp i j=true):IQ es sp i j=true:=by unfold IQ;rw[h,Bool.or_true]
def acV (h:upto (IQ es sp i) j)(g:i<=j)(i0:0<=i):IR es sp i=true:=by unfold IR;exact cv h Uc
structure QlP (es sp lg:af)(j:Int)(o:af):Prop where
 ok:upto (Cp es lg) j
 e:o=jG (lP sp sp.length++mZ lg j.toNat)
 l:(mZ lg j.toNat).length<=64*j.toNat
structure QkP (es sp lg:af)(j k:Int)(o:af):Prop where
 ok:upto (Cp es lg) j
 h:zS lg j=true
 g:upto (fun k=>Lw es (ag lg j 0+k)) k
 e:o=jG (lP sp sp.length++mZ lg j.toNat++tj (ag lg j 0) k.toNat)
 l:(mZ lg j.toNat).length<=64*j.toNat
structure QsP (sp:af)(i:Int)(o:af):Prop where
 ok:upto (zS sp) i
 e:o=jG (lP sp i.toNat)
variable {o: af}
def T6 (hl:layOk sp lg=true){x:Int}(h:x∈wT sp lg):0<=x/\x<=31:=by
 have F:=OA hl;unfold wT at h;rw[Zg,qD,mi]at h;rcases h with⟨i,i1,e⟩|⟨j,j1,e1,e2⟩
 ·have t:=oT (F.s i i1);omega
 ·have t:=lC (F.l j j1);have b:=m8 t.1;omega
end
end Go.V
namespace Go.V
def SD (k m:Int)(cs:af)(ph nx:Int):Bool:=decide (ph=0)&&(decide (nx=0)&&(decide (k=0)&&(decide (m=0)&&decide (cs.length=0))))
def vy (sp:af)(me:Bool)(k m:Int)(cs:af)(ph nx:Int):Bool:=
 bif me then(jbOk k m cs ph nx&&(decide (0<=spI sp k)&&decide (0<=spI sp m)))else SD k m cs ph nx
def M3 (cs:af)(i:Int):Bool:=caOk (aO cs i 0)
def hpI (a0 a1 a2:af)(a3:Int)(a4 a5 a6 a7 a8 a9 aA aB:af)(aC:Int)(aD:af)(aE aF aG aH:Int)(aI:Bool)(aJ aK:Int)(aL:af)(aM aN:Int):Bool:=
 kerOk a0 a1 a2 a3 a4&&(rgOk a2.length a5&&(layOk a6 a7&&(pgI a2 a5 a6 a7&&(mailOk aA aB&&(decide (a9.length=aA.length)&&(quarOk aC aD&&(dj (M3 a9) a9.length&&
  (objOk a6 a7 a8 a9 aH&&(hoI a6 a7 a8 a9 aA aB aD aF&&(inR aE 0 1073741823&&(inR aF 0 1000000&&(inR aG 0 1000&&(inR aH 1 1000000&&vy a6 aI aJ aK aL aM aN)))))))))))))
structure QM (a0 a1 a2 a4 a5 a6 a7 a8 a9 aA aB aD aL:af):Prop where
 n:NsH a6 a7 a8 a9 aA aB aD
 c:Rw [.sl [tI]] a0
 u:Rw [tB] a1
 e:Rw [tI,tI] a2
 el:a2.length<=1073741824
 r:Rw [tI] a4
 f:Rw [tI,tI] a5
 fl:a5.length<=1073741824
 j:Rw [tI] aL
 jl:aL.length<=1073741824
section
variable {a0 a1 a2: af} {a3: Int} {a4 a5 a6 a7 a8 a9 aA aB: af} {aC: Int} {aD: af} {aE aF aG aH: Int} {aI: Bool} {aJ aK: Int} {aL: af} {aM aN: Int} {i: Int}
def hp_k (h:kerOk a0 a1 a2 a3 a4=false):hpI a0 a1 a2 a3 a4 a5 a6 a7 a8 a9 aA aB aC aD aE aF aG aH aI aJ aK aL aM aN=false:=by unfold hpI;rw[h];simp
def acf (h:rgOk a2.length a5=false):hpI a0 a1 a2 a3 a4 a5 a6 a7 a8 a9 aA aB aC aD aE aF aG aH aI aJ aK aL aM aN=false:=by unfold hpI;rw[h];simp
def ab8 (h:layOk a6 a7=false):hpI a0 a1 a2 a3 a4 a5 a6 a7 a8 a9 aA aB aC aD aE aF aG aH aI aJ aK aL aM aN=false:=by unfold hpI;rw[h];simp
def acd (h:pgI a2 a5 a6 a7=false):hpI a0 a1 a2 a3 a4 a5 a6 a7 a8 a9 aA aB aC aD aE aF aG aH aI aJ aK aL aM aN=false:=by unfold hpI;rw[h];simp
def ab9 (h:mailOk aA aB=false):hpI a0 a1 a2 a3 a4 a5 a6 a7 a8 a9 aA aB aC aD aE aF aG aH aI aJ aK aL aM aN=false:=by unfold hpI;rw[h];simp
def aca (h:decide (a9.length=aA.length)=false):hpI a0 a1 a2 a3 a4 a5 a6 a7 a8 a9 aA aB aC aD aE aF aG aH aI aJ aK aL aM aN=false:=by unfold hpI;rw[h];simp
def ace (h:quarOk aC aD=false):hpI a0 a1 a2 a3 a4 a5 a6 a7 a8 a9 aA aB aC aD aE aF aG aH aI aJ aK aL aM aN=false:=by unfold hpI;rw[h];simp
def ab6 (h:dj (M3 a9) a9.length=false):hpI a0 a1 a2 a3 a4 a5 a6 a7 a8 a9 aA aB aC aD aE aF aG aH aI aJ aK aL aM aN=false:=by unfold hpI;rw[h];simp
def acb (h:objOk a6 a7 a8 a9 aH=false):hpI a0 a1 a2 a3 a4 a5 a6 a7 a8 a9 aA aB aC aD aE aF aG aH aI aJ aK aL aM aN=false:=by unfold hpI;rw[h];simp
def ab7 (h:hoI a6 a7 a8 a9 aA aB aD aF=false):hpI a0 a1 a2 a3 a4 a5 a6 a7 a8 a9 aA aB aC aD aE aF aG aH aI aJ aK aL aM aN=false:=by unfold hpI;rw[h];simp
def acg (h:inR aE 0 1073741823=false):hpI a0 a1 a2 a3 a4 a5 a6 a7 a8 a9 aA aB aC aD aE aF aG aH aI aJ aK aL aM aN=false:=by unfold hpI;rw[h];simp
def ach (h:inR aF 0 1000000=false):hpI a0 a1 a2 a3 a4 a5 a6 a7 a8 a9 aA aB aC aD aE aF aG aH aI aJ aK aL aM aN=false:=by unfold hpI;rw[h];simp
def aci (h:inR aG 0 1000=false):hpI a0 a1 a2 a3 a4 a5 a6 a7 a8 a9 aA aB aC aD aE aF aG aH aI aJ aK aL aM aN=false:=by unfold hpI;rw[h];simp
def acj (h:inR aH 1 1000000=false):hpI a0 a1 a2 a3 a4 a5 a6 a7 a8 a9 aA aB aC aD aE aF aG aH aI aJ aK aL aM aN=false:=by unfold hpI;rw[h];simp
def R9 (h:(a9.length:Int)≠aA.length):hpI a0 a1 a2 a3 a4 a5 a6 a7 a8 a9 aA aB aC aD aE aF aG aH aI aJ aK aL aM aN=false:=aca (VH Uc)
def R8 (i0:0<=i)(i1:i<a9.length)(h:caOk (aO a9 i 0)=false):hpI a0 a1 a2 a3 a4 a5 a6 a7 a8 a9 aA aB aC aD aE aF aG aH aI aJ aK aL aM aN=false:=ab6 (cM i0 i1 h)
def NP (hk:kerOk a0 a1 a2 a3 a4=true)(hr:rgOk a2.length a5=true)(hl:layOk a6 a7=true)(hp:pgI a2 a5 a6 a7=true)(hm:mailOk aA aB=true)(hn:decide (a9.length=aA.length)=true)(hq:quarOk aC aD=true)(hc:dj (M3 a9) a9.length=true)(ho:objOk a6 a7 a8 a9 aH=true)(hh:hoI a6 a7 a8 a9 aA aB aD aF=true)(hs:inR aE 0 1073741823=true)(ht:inR aF 0 1000000=true)(hw:inR aG 0 1000=true)(hx:inR aH 1 1000000=true):hpI a0 a1 a2 a3 a4 a5 a6 a7 a8 a9 aA aB aC aD aE aF aG aH aI aJ aK aL aM aN=vy a6 aI aJ aK aL aM aN:=by unfold hpI;rw[hk,hr,hl,hp,hm,hn,hq,hc,ho,hh,hs,ht,hw,hx];rfl
structure HpT (a0 a1 a2:af)(a3:Int)(a4 a5 a6 a7 a8 a9 aA aB:af)(aC:Int)(aD:af)(aE aF aG aH:Int)(aI:Bool)(aJ aK:Int)(aL:af)(aM aN:Int):Prop where
 k:kerOk a0 a1 a2 a3 a4=true
 r:rgOk a2.length a5=true
 l:layOk a6 a7=true
 p:pgI a2 a5 a6 a7=true
 m:mailOk aA aB=true
 n:decide (a9.length=aA.length)=true
 q:quarOk aC aD=true
 c:dj (M3 a9) a9.length=true
 o:objOk a6 a7 a8 a9 aH=true
 h:hoI a6 a7 a8 a9 aA aB aD aF=true
 s:inR aE 0 1073741823=true
 t:inR aF 0 1000000=true
 w:inR aG 0 1000=true
 x:inR aH 1 1000000=true
 j:vy a6 aI aJ aK aL aM aN=true
def qt (h:hpI a0 a1 a2 a3 a4 a5 a6 a7 a8 a9 aA aB aC aD aE aF aG aH aI aJ aK aL aM aN=true):HpT a0 a1 a2 a3 a4 a5 a6 a7 a8 a9 aA aB aC aD aE aF aG aH aI aJ aK aL aM aN:=by
 unfold hpI at h;simp only[Zb]at h;obtain⟨hk,hr,hl,hp,hm,hn,hq,hc,ho,hh,hs,ht,hw,hx,hj⟩:=h;exact⟨hk,hr,hl,hp,hm,hn,hq,hc,ho,hh,hs,ht,hw,hx,hj⟩
def SE (h:jbOk aJ aK aL aM aN=false):false=vy a6 true aJ aK aL aM aN:=by unfold vy;rw[h];rfl
def SF (h:spI a6 aJ<0):false=vy a6 true aJ aK aL aM aN:=by unfold vy;rw[VH (p:=0<=spI a6 aJ) Uc];simp
def SG (h:jbOk aJ aK aL aM aN=true)(g:0<=spI a6 aJ):cT .geq (spI a6 aK) 0=vy a6 true aJ aK aL aM aN:=by unfold vy;rw[h,VG g];rfl
end
end Go.V
namespace Go.V
def obD (a s ad:Int):Bool:=inR ad a (bK .sub Za (bK .add Za a s) 1)
def TL (os:af)(ad j:Int):Bool:=obD (ag os j 1) (ag os j 2) ad
def ofI (os:af)(ad:Int):Int:=cQ (TL os ad) os.length
def ooI (b:Bool)(os:af)(ad:Int):Int:=if b=true then ofI os ad else-1
def ada {b:Bool}{os:af}{ad:Int}(h:b=false):ooI b os ad= -1:=by subst h;rfl
def adb {b:Bool}{os:af}{ad:Int}(h:b=true):ooI b os ad=ofI os ad:=by subst h;rfl
def TO {sp lg:af}{a s:Int}(h:okO sp lg a s=true):0<=a/\a<=2000/\1<=s/\s<=1000:=by
 unfold okO at h;simp only[Zb,Yc,VI]at h;obtain⟨_,⟨k,c⟩|⟨k,c⟩⟩:=h
 ·have e:=Gr k;have q:0<=gp sp a:=by
   unfold dnK at k;by_cases w:0<=gp sp a;exact w
   ·rw[VK w]at k;split at k<;>omega
  have t:=(fV q).2;change yW sp a (gp sp a)=true at t;obtain⟨t1,t2,t3⟩:=yX.1 (AX.1 t);have hs:=oT t1;have hk:=bB.1 hs.2.2.1;have w:dnI sp lg a=gp sp a:=by unfold dnI;rw[VJ q]
  rw[w]at c;have b:=Lh (s:=s) Uc;omega
 ·have q:¬ 0<=gp sp a:=fun w=>by
   unfold dnK at k;rw[VJ w]at k;split at k<;>omega
  have g:0<=oz lg a:=by
   unfold dnK at k;rw[VK q]at k;by_cases w:0<=oz lg a;exact w
   ·rw[VK w]at k;omega
  have t:=(fV g).2;change yz lg a (oz lg a)=true at t;have w:dnI sp lg a=oz lg a:=by unfold dnI;rw[VK q,VJ g]
  rw[w]at c;unfold yz lhB at t;rw[Zb]at t;obtain⟨t1,t2,t3,t4⟩:=lC t.1;have u:=bB.1 t.2;have v:=bB.1 t1;have pf:0<=ag lg (oz lg a) 1:=by rw[t2];unfold pfN;split<;>omega
  omega
def TM {sp lg os cs:af}{nx i:Int}(h:objOk sp lg os cs nx=true)(i0:0<=i)(i1:i<os.length):0<=ag os i 1/\ag os i 1<=2000/\1<=ag os i 2/\ag os i 2<=1000:=by
 have t:=dI.1 h i i0 i1;unfold yG at t;simp only[Zb]at t;exact TO t.2.2.2.2
structure ObB (os:af):Prop where
 w:Rw [tI,tI,tI,tI] os
 l:os.length<=1099511627776
 b:∀ i:Int,0<=i->i<os.length->0<=ag os i 1/\ag os i 1<=2000/\1<=ag os i 2/\ag os i 2<=1000
def OY {a0 a1 a2:af}{a3:Int}{a4 a5 a6 a7 a8 a9 aA aB:af}{aC:Int}{aD:af}{aE aF aG aH:Int}{aI:Bool}{aJ aK:Int}{aL:af}{aM aN:Int}(w:Rw [tI,tI,tI,tI] a8)(l:a8.length<=1099511627776)(h:hpI a0 a1 a2 a3 a4 a5 a6 a7 a8 a9 aA aB aC aD aE aF aG aH aI aJ aK aL aM aN=true):ObB a8:=
 ⟨w,l,fun i i0 i1=>TM (qt h).o i0 i1⟩
end Go.V
namespace Go.V
def ldV (cs us es:af)(a:Int):Int:=if machOk cs us es=true/\Hb es a≠0 then ag (aO cs (LN es a) 0) (Ka a) 0 else 0
def ldK (cs us es:af)(a:Int):Int:=if machOk cs us es=true/\Hb es a≠0 then 0 else 1
def Om {cs us es:af}{a:Int}(h:machOk cs us es=true)(h1:Hb es a≠0):ldV cs us es a=ag (aO cs (LN es a) 0) (Ka a) 0/\ldK cs us es a=0:=by unfold ldV ldK;rw[VJ ⟨h,h1⟩,VJ ⟨h,h1⟩];exact⟨rfl,rfl⟩
def LM {cs us es:af}{a:Int}(h:machOk cs us es=false\/Hb es a=0):ldV cs us es a=0/\ldK cs us es a=1:=by
 have:¬ (machOk cs us es=true/\Hb es a≠0):=by rintro⟨x,y⟩;rcases h with q|q;rw[x]at q;cases q;exact y q
 unfold ldV ldK;rw[VK this,VK this];exact⟨rfl,rfl⟩
def Oj {cs us es:af}{a:Int}(h:smM cs us es a=0):ldV cs us es a=0/\ldK cs us es a=1:=by
 cases q:machOk cs us es with
 |false=>exact LM (.inl q)
 |true=>exact LM (.inr (by rw[<- (sk q).1];exact h))
def Ol {cs us es:af}{a:Int}(h:smM cs us es a≠0):ldV cs us es a=ag (aO cs (smF cs us es a) 0) (a%16) 0/\ldK cs us es a=0:=by
 have ok:=Ev h;have sy:=sk (a:=a) ok.1;have q:=Om ok.1 (by rw[<-sy.1];exact h);exact⟨by rw[q.1,sy.2,(vA (es:=es) Uc).2.2],q.2⟩
end Go.V
namespace Go.V
def hlV (o v:Int):Int:=if o<0 then 0 else v
def hlK (o:Int):Int:=if o<0 then 1 else 0
def LG {o v:Int}(h:o<0):hlV o v=0/\hlK o=1:=by unfold hlV hlK;rw[VJ h,VJ h];exact⟨rfl,rfl⟩
def GN {o v:Int}(h:¬ o<0):hlV o v=v/\hlK o=0:=by unfold hlV hlK;rw[VK h,VK h];exact⟨rfl,rfl⟩
end Go.V
namespace Go.V
def Lp {sp lg:af}{a:Int}(h:dnK sp lg a=1):dnI sp lg a=gp sp a/\0<=gp sp a/\gp sp a<sp.length/\CS (ag sp (gp sp a) 0) (ag sp (gp sp a) 1) (ag sp (gp sp a) 2) a=true:=by
 have q:0<=gp sp a:=by
  unfold dnK at h;by_cases w:0<=gp sp a;exact w
  ·rw[VK w]at h;split at h<;>omega
 have t:=fV q;change gp sp a<sp.length/\yW sp a (gp sp a)=true at t;exact⟨by unfold dnI;rw[VJ q],q,t.1,AX.1 t.2⟩
end Go.V
namespace Go.V
end Go.V
namespace Go.V
structure PgT (es fr sp lg:af):Prop where
 l:∀ j:Nat,j<lg.length->∀ q:Int,ag lg j 0<=q->q<ag lg j 0+ag lg j 1->(fpg es q).length=1
 m:∀ q:Int,0<=q->q<es.length->(peM es q≠0↔q∈wT sp lg)
 o:∀ q∈wT sp lg,q<es.length
 c:∀ i j:Nat,i<sp.length->j<sp.length->peF es (ag sp i 0)=peF es (ag sp j 0)->ag sp i 1=ag sp j 1
def pgT {es fr sp lg:af}(h:pgI es fr sp lg=true):PgT es fr sp lg:=by
 unfold pgI at h;simp only[Zb]at h;obtain⟨h1,h2,h3,h4,h5⟩:=h;have half:∀ i j:Nat,i<sp.length->j<i->peF es (ag sp i 0)=peF es (ag sp j 0)->ag sp i 1=ag sp j 1:=fun i j hi hj e=>by
  have a:=lM h5 i hi;unfold IR at a;have b:=lM a j Uc;unfold IQ at b;rw[VG e]at b;simp only[Bool.not_true,Bool.false_or]at b;unfold Kj mshB at b;simp only[Zb,VI]at b;exact b.2.2.1
 refine⟨fun j hj q q0 q1=>?_,fun q q0 q1=>?_,VL h4,fun i j hi hj e=>?_⟩
 ·have a:=lM h2 j hj;unfold Cp at a;rw[Zb]at a;have b:=lM a.2 (q-ag lg j 0).toNat Uc;unfold Lw at b;rw[show ag lg j 0+((q-ag lg j 0).toNat:Int)=q by omega]at b;exact VL b
 ·have a:=lM h3 q.toNat Uc;rw[Zm q0]at a;unfold FE at a;rw[Zb]at a;have b:=eq_of_beq a.1;unfold mapB ownB at b;by_cases c:peM es q≠0
  ·rw[VG c]at b;exact⟨fun _=>VL b.symm,fun _=>c⟩
  ·rw[VH c]at b;exact⟨fun x=>absurd x c,fun x=>absurd x (of_decide_eq_false b.symm)⟩
 ·by_cases c:i=j
  ·rw[c]
  ·by_cases d:j<i;exact half i j hi d e;exact(half j i hj Uc e.symm).symm
end Go.V
namespace Go.V
def poN (sp lg fl:af):Nat->Int
 |0=>0
 |n+1=>poN sp lg fl n+clsSz (ag sp (dnI sp lg (ag fl n 0)) 1)
def ocF (s:Int):Int:=if 0<=clsOf s then clsSz (clsOf s)else s
def ocN (os:af):Nat->Int
 |0=>0
 |n+1=>ocN os n+ocF (ag os n 2)
end Go.V
namespace Go.V
def Rf {k:Int}(h:inR k 0 3=true):clsSz k=1\/clsSz k=2\/clsSz k=4\/clsSz k=8:=by
 have:=bB.1 h;unfold clsSz;repeat' split<;>omega
def JI {c d:Int}(hc:c=1\/c=2\/c=4\/c=8)(d0:0<=d)(d1:d<=15)(h:d%c=0):d+c<=16:=by
 rcases hc with rfl|rfl|rfl|rfl<;>omega
def OZ {es fr sp lg:af}{a s i:Int}(hl:layOk sp lg=true)(hp:pgI es fr sp lg=true)(h:okO sp lg a s=true)(i0:0<=i)(i1:i<s):0<=(a+i)/16/\(a+i)/16<es.length/\peM es ((a+i)/16)≠0:=by
 have F:=OA hl;have T:=pgT hp
 suffices h:0<=(a+i)/16/\(a+i)/16∈wT sp lg from⟨h.1,T.o _ h.2,(T.m _ h.1 (T.o _ h.2)).2 h.2⟩
 unfold okO at h;simp only[Zb,Yc,VI]at h;obtain⟨o,⟨k,c⟩|⟨k,c⟩⟩:=h
 ·obtain⟨e,q,l,t⟩:=Lp k;obtain⟨t1,t2,t3⟩:=yX.1 t;obtain⟨e1,e2⟩:=v5 t;have hs:=oT t1;rw[e]at c;have b:=Lh (s:=s) (by have:=bB.1 hs.2.2.1;omega);rw[<-c]at b;have o':Mm sp a (gp sp a)=0:=by rw[<- (Nq (lg:=lg) q).2];exact o
  unfold Mm at o';rw[e2]at o';have fit:=JI (Rf hs.2.2.1) Uc Uc o';have p:(a+i)/16=ag sp (gp sp a) 0:=by omega
  rw[p];refine⟨hs.1,Zg.2 (.inl (qD.2 ⟨(gp sp a).toNat,Uc,?_⟩))⟩;rw[Zm q]
 ·have q:¬ 0<=gp sp a:=fun w=>by
   unfold dnK at k;rw[VJ w]at k;split at k<;>omega
  have g:0<=oz lg a:=by
   unfold dnK at k;rw[VK q]at k;by_cases w:0<=oz lg a;exact w
   ·rw[VK w]at k;omega
  have t:=fV g;change oz lg a<lg.length/\yz lg a (oz lg a)=true at t;have w:dnI sp lg a=oz lg a:=by unfold dnI;rw[VK q,VJ g]
  rw[w]at c;rw[(Np q g).2]at o;obtain⟨tl,tt⟩:=t;unfold SX loI at o;unfold yz at tt;rw[VJ tt]at o;unfold lhB at tt;rw[Zb]at tt;obtain⟨t1,t2,t3,t4⟩:=lC tt.1;have v:ag lg (oz lg a) 1=(ag lg (oz lg a) 2+15)/16:=by rw[t2];unfold pfN;rw[VJ t1]
  refine⟨Uc,Zg.2 (.inr (mi.2 ⟨(oz lg a).toNat,Uc,?_,?_⟩))⟩
  ·rw[Zm g];omega
  ·rw[Zm g];omega
end Go.V
namespace Go.V
def ceI (cs es:af)(a:Int):Int:=ag (aO cs (peF es (a/16)) 0) (a%16) 0
def Gf (cs es:af)(a:Int):Nat->af
 |0=>[]
 |n+1=>Gf cs es a n++[[.i (ceI cs es (a+n))]]
def yd {cs es:af}{a:Int}:∀ n,(Gf cs es a n).length=n
 |0=>rfl
 |n+1=>by rw[Gf,Zh,yd n];rfl
structure IJ (cs es:af)(a i:Int)(o:af):Prop where
 e:o=Gf cs es a i.toNat
def abJ {cs es:af}{a:Int}:IJ cs es a 0 []:=⟨rfl⟩
def Re {cs es o:af}{a i:Int}(h:IJ cs es a i o)(i0:0<=i):IJ cs es a (i+1) (o++[[.i (ceI cs es (a+i))]]):=⟨by
 rw[h.e,show(i+1).toNat=i.toNat+1 by omega,Gf,Zm i0]⟩
def Nf {cs es o:af}{a i s:Int}(h:IJ cs es a i o)(h0:i<=s\/i=0)(h1:s<=i):o=Gf cs es a s.toNat:=by
 rw[h.e,show i.toNat=s.toNat by omega]
def ctsL (b:Bool)(os cs es:af)(id:Int):af:=if b=true/\0<=oiI os id then Gf cs es (ag os (oiI os id) 1) (ag os (oiI os id) 2).toNat else[]
def ctsB (b:Bool)(os:af)(id:Int):Bool:=b&&oiB os id
def Jw {b:Bool}{os cs es:af}{id:Int}(h:b=false):ctsL b os cs es id=[]/\ctsB b os id=false:=by
 subst h;exact⟨VK (by simp),rfl⟩
def Jx {b:Bool}{os cs es:af}{id:Int}(h:oiI os id<0):ctsL b os cs es id=[]/\ctsB b os id=false:=by
 refine⟨VK Uc,?_⟩;unfold ctsB oiB;rw[VH Uc];simp
def Jy {b:Bool}{os cs es:af}{id:Int}(h:b=true)(g:0<=oiI os id):ctsL b os cs es id=Gf cs es (ag os (oiI os id) 1) (ag os (oiI os id) 2).toNat/\ctsB b os id=true:=by
 refine⟨VJ ⟨h,g⟩,?_⟩;unfold ctsB oiB;rw[VG g,h];rfl
structure ObC (cs es os:af):Prop where
 b:ObB os
 f:∀ j:Int,0<=j->j<os.length->∀ i:Int,0<=i->i<ag os j 2->0<=peF es ((ag os j 1+i)/16)/\peF es ((ag os j 1+i)/16)<cs.length/\(aO cs (peF es ((ag os j 1+i)/16)) 0).length=16
def Hs {a0 a1 a2:af}{a3:Int}{a4 a5 a6 a7 a8 a9 aA aB:af}{aC:Int}{aD:af}{aE aF aG aH:Int}{aI:Bool}{aJ aK:Int}{aL:af}{aM aN:Int}(w:Rw [tI,tI,tI,tI] a8)(l:a8.length<=1099511627776)(h:hpI a0 a1 a2 a3 a4 a5 a6 a7 a8 a9 aA aB aC aD aE aF aG aH aI aJ aK aL aM aN=true):ObC a0 a2 a8:=by
 have t:=qt h;have mk:machOk a0 a1 a2=true:=by have k:=t.k;unfold kerOk at k;simp only[Zb]at k;first|exact k.1|exact k.1.1
 refine⟨OY w l h,fun j j0 j1 i i0 i1=>?_⟩;have o:=dI.1 t.o j j0 j1;unfold yG at o;simp only[Zb]at o;have m:=OZ t.l t.p o.2.2.2.2 i0 i1;have c:=D4 mk;have f:=L2 c.2.1 m.2.2;exact⟨f.1,f.2.1,GE c.1 f.1 f.2.1⟩
end Go.V
namespace Go.V
def eqJ (a b:af)(i:Int):Bool:=eqB (ag a i 0) (ag b i 0)
def eqR (a b:af):Bool:=decide (a.length=b.length)&&dj (eqJ a b) a.length
def rsN (E:Nat->Bool)(os:af)(id:Int):Nat->Bool
 |0=>false
 |n+1=>if ag os n 0=id then E n else rsN E os id n
end Go.V
namespace Go.V
def KL (k b:Int):Nat->af
 |0=>[]
 |n+1=>if hsB b ((n:Int)/clsSz k)=true then KL k b n++[[.i n]]else KL k b n
def CU (p k b:Int):af:=if spOk p k b=true then KL k b 16 else[]
structure ad2 (k b i:Int)(o:af):Prop where
 e:o=KL k b i.toNat
def scS (sp:af):Nat->Int
 |0=>0
 |n+1=>scS sp n+(CU (ag sp n 0) (ag sp n 1) (ag sp n 2)).length
def lgS (lg:af):Nat->Int
 |0=>0
 |n+1=>lgS lg n+ag lg n 2
def M6 (ls:af):Nat->Int
 |0=>0
 |n+1=>M6 ls n+(aO ls n 0).length*clsSz n
end Go.V
namespace Go.V
structure MkP (f:Int->Bool)(o:af):Prop where
 w:Rw [tB] o
 l:o.length=16
 v:∀ c:Int,0<=c->c<16->pA o c 0=f c
def mkI (f:Int->Bool)(x:af)(i c:Int):Bool:=f c||hasB (x.take i.toNat) c
def mkJ (f g:Int->Bool)(i c:Int):Bool:=f c||(decide (c<i)&&g c)
def mbS (es sp:af)(p:Int):Nat->Int->Bool
 |0,_=>false
 |n+1,c=>mbS es sp p n c||(hasB (fpg es p) (ag sp n 0)&&hasB (CU (ag sp n 0) (ag sp n 1) (ag sp n 2)) c)
def mbG (es sp lg:af)(p:Int):Nat->Int->Bool
 |0,c=>mbS es sp p sp.length c
 |n+1,c=>mbG es sp lg p n c||lhB (ag lg n 0) (ag lg n 1) (ag lg n 2) (p*16+c)
end Go.V
namespace Go.V
def abH {ls:af}(h:caOk ls=true):ls.length=4/\∀ n:Nat,n<4->(aO ls n 0).length<=8:=by
 unfold caOk at h;simp only[Zb,VI]at h;refine⟨h.1,fun n hn=>?_⟩;have t:=dI.1 h.2.1 n Uc Uc;unfold Jl at t;simp only[Zb,VI]at t;exact t.1
def ceC (ls:af):Int:=if caOk ls=true then M6 ls ls.length else 0
structure adX (ls:af)(i t:Int):Prop where
 e:t=M6 ls i.toNat
def acN (cs:af):Nat->Int
 |0=>0
 |n+1=>acN cs n+ceC (aO cs n 0)
structure AcP (cs:af)(i t:Int):Prop where
 e:t=acN cs i.toNat
structure OcP (os:af)(i t:Int):Prop where
 e:t=ocN os i.toNat
structure PoP (sp lg fl:af)(i t:Int):Prop where
 e:t=poN sp lg fl i.toNat
structure ad3 (sp:af)(i t:Int):Prop where
 e:t=scS sp i.toNat
structure adZ (sp lg:af)(i t:Int):Prop where
 e:t=scS sp sp.length+lgS lg i.toNat
def ifZ (b:Bool)(x:Int):Int:=if b=true then x else 0
def zlI (es:af):Int:=es.length
end Go.V
namespace Go.V
def clL (cs es:af)(a n:Int):af:=Gf cs es a n.toNat
structure CeB (cs es:af)(a n:Int):Prop where
 b:0<=a/\a<=2000/\1<=n/\n<=1000
 f:∀ i:Int,0<=i->i<n->0<=peF es ((a+i)/16)/\peF es ((a+i)/16)<cs.length/\(aO cs (peF es ((a+i)/16)) 0).length=16
def Gb {cs es os:af}(O:ObC cs es os){j:Int}(j0:0<=j)(j1:j<os.length):CeB cs es (ag os j 1) (ag os j 2):=
 ⟨by have:=O.b.b j j0 j1;omega,O.f j j0 j1⟩
def Q7 {cs es:af}{a n i:Int}(C:CeB cs es a n)(i0:0<=i)(i1:i<n):bK .add Za a i=a+i/\bK .quo Za (bK .add Za a i) 16=(a+i)/16/\bK .rem Za (bK .add Za a i) 16=(a+i)%16/\
 0<=(a+i)%16/\(a+i)%16<16/\0<=a+i/\a+i<=3000:=by
 have b:=C.b;have e:bK .add Za a i=a+i:=cu Uc;rw[e];exact⟨rfl,xE Uc Uc Uc,tp Uc,Uc,Uc,Uc,Uc⟩
def Ng {cs es o:af}{a i:Int}(h:IJ cs es a i o)(i0:0<=i):IJ cs es a (i+1) (o++[[.i (ag (aO cs (peF es ((a+i)/16)) 0) ((a+i)%16) 0)]]):=Re h i0
def Jr {cs es o:af}{a i:Int}(h:IJ cs es a i o)(i0:0<=i):(o.length:Int)=i:=by rw[h.e,yd];omega
def Jq {cs es o:af}{a i n:Int}(h:IJ cs es a i o)(i0:i<=n)(i1:n<=i):o=clL cs es a n:=Nf h (.inl i0) i1
def Nc {cs es:af}{a n:Int}(hw:Rw [.sl [tI]] cs)(C:CeB cs es a n):Rw [tI] (clL cs es a n)/\(clL cs es a n).length<=1000:=by
 have b:=C.b;have l:(clL cs es a n).length<=1000:=by unfold clL;rw[yd];omega
 refine⟨⟨by unfold maxLen;omega,?_⟩,l⟩;have q:∀ m:Nat,(m:Int)<=n->∀ e∈Gf cs es a m,bU [tI] e:=by
  intro m
  induction m with
  |zero=>intro _ e h;cases h
  | succ m ih=>
    intro hm e h;rw[Gf,Zg]at h;rcases h with h|h;exact ih Uc e h
    ·simp only[Z3]at h;subst h;have f:=C.f m Uc Uc;have g:=sV (j:=0) (i:=(a+m)%16) (Rw.sub (fs:=[.sl [tI]]) (j:=0) hw (i:=peF es ((a+m)/16)) Uc rfl) rfl Uc;exact⟨⟨rfl,g⟩,trivial⟩
 exact q _ Uc
def BW {a a':af}{b b':Bool}(h:a=a')(h':b=b'):[DV.one (.s 1 a),DV.k b]=[DV.one (.s 1 a'),DV.k b']:=by rw[h,h']
def L0 {os:af}{id:Int}(h:0<=oiI os id):oiI os id<os.length:=(fV (p:=wR os id) h).1
def Nl {os cs es:af}{id:Int}(g:0<=oiI os id):clL cs es (ag os (oiI os id) 1) (ag os (oiI os id) 2)=ctsL true os cs es id/\true=ctsB true os id:=
 have q:=Jy (b:=true) (os:=os) (cs:=cs) (es:=es) rfl g
 ⟨q.1.symm,q.2.symm⟩
def Nm {b:Bool}{os cs es:af}{id:Int}(hw:Rw [.sl [tI]] cs)(O:b=true->ObC cs es os):Rw [tI] (ctsL b os cs es id)/\(ctsL b os cs es id).length<=1000:=by
 unfold ctsL;split
 ·rename_i h;exact Nc hw (Gb (O h.1) h.2 (L0 h.2))
 ·exact⟨Rw.nil,ZG _⟩
section
variable {b: Bool} {nx rn: Int} {os cs es ros: af}
def ado (os cs es ros:af)(i:Int)(k:Nat):Bool:=eqR (clL cs es (ag os k 1) (ag os k 2)) (aO ros i 1)
structure ad1 (os cs es ros:af)(i k:Int)(ok:Bool):Prop where
 e:ok=rsN (ado os cs es ros i) os (ag ros i 0) k.toNat
end
end Go.V
namespace Go.V
section
variable {cs es fr sp lg: af} {p k: Int} (hl: layOk sp lg = true) (hp: pgI es fr sp lg = true) (hm: peM es p ≠ 0) (k0: 0 <= k) (k1: k < 16)
include hl hp hm k0 k1
end
structure MsP (es sp:af)(p i:Int)(o:af):Prop where
 m:MkP (mbS es sp p i.toNat) o
structure McP (es sp:af)(p i j:Int)(o:af):Prop where
 m:MkP (mkI (mbS es sp p i.toNat) (CU (ag sp i 0) (ag sp i 1) (ag sp i 2)) j) o
structure MgP (es sp lg:af)(p i:Int)(o:af):Prop where
 m:MkP (mbG es sp lg p i.toNat) o
structure MdP (es sp lg:af)(p i j:Int)(o:af):Prop where
 m:MkP (mkJ (mbG es sp lg p i.toNat) (fun c=>lhB (ag lg i 0) (ag lg i 1) (ag lg i 2) (p*16+c)) j) o
end Go.V
namespace Go.V
section
variable {r0 r1 r2 r3 r4 r5 r6 r7 r8 r9 r10 r11 r12: af}
def Lk {n:Nat}(h:xf [r0,r1,r2,r3,r4,r5,r6,r7,r8,r9,r10,r11,r12]<=n):bC r0<=n/\bC r1<=n/\bC r2<=n/\bC r3<=n/\bC r4<=n/\bC r5<=n/\bC r6<=n/\bC r7<=n/\bC r8<=n/\bC r9<=n/\bC r10<=n/\bC r11<=n/\bC r12<=n:=⟨eN h (by simp),eN h (by simp),eN h (by simp),eN h (by simp),eN h (by simp),eN h (by simp),eN h (by simp),eN h (by simp),eN h (by simp),eN h (by simp),eN h (by simp),eN h (by simp),eN h (by simp)⟩
end
end Go.V
namespace Go.V
def dlT (b:af)(f:Int):Int:=ag (aO b f 0) 0 0
structure DlT (b x:af)(f:Int):Prop where
 m:mailOk b x=true
 f0:0<=f
 f1:f<b.length
 n:0<(aO b f 0).length
 t0:0<=dlT b f
 t1:dlT b f<b.length
 l:x.length=b.length
end Go.V
namespace Go.V
def hsC (k:Bool)(cs us es os:af)(a v:Int):af:=if 0<=ooI k os a then stC cs us es a v else cs
def hsK (k:Bool)(cs us es os:af)(a v:Int):Int:=if 0<=ooI k os a then(if stK cs us es a v=2 then 2 else if stK cs us es a v=3 then 3 else 0)else 1
def Se {k:Bool}{cs us es os:af}{a v:Int}(h:ooI k os a<0):hsC k cs us es os a v=cs/\hsK k cs us es os a v=1:=by
 unfold hsC hsK;rw[VK Uc,VK Uc];exact⟨rfl,rfl⟩
def rT {k:Bool}{cs us es os:af}{a v:Int}(h:0<=ooI k os a):hsC k cs us es os a v=stC cs us es a v/\hsK k cs us es os a v=if stK cs us es a v=2 then 2 else if stK cs us es a v=3 then 3 else 0:=by
 unfold hsC hsK;rw[VJ h,VJ h];exact⟨rfl,rfl⟩
def acm {k:Bool}{cs us es os:af}{a v:Int}(h:0<=ooI k os a)(q:stK cs us es a v=2):hsC k cs us es os a v=cs/\hsK k cs us es os a v=2:=by
 rw[(rT h).1,(rT h).2,VJ q];refine⟨?_,rfl⟩;unfold stC;rw[VK Uc]
def acn {k:Bool}{cs us es os:af}{a v:Int}(h:0<=ooI k os a)(q:stK cs us es a v=3):hsC k cs us es os a v=cs/\hsK k cs us es os a v=3:=by
 rw[(rT h).1,(rT h).2,VK Uc,VJ q];refine⟨?_,rfl⟩;unfold stC;rw[VK Uc]
def acl {k:Bool}{cs us es os:af}{a v:Int}(h:0<=ooI k os a)(q:stK cs us es a v≠2)(r:stK cs us es a v≠3):hsC k cs us es os a v=stC cs us es a v/\hsK k cs us es os a v=0:=by
 rw[(rT h).1,(rT h).2,VK q,VK r];exact⟨rfl,rfl⟩
structure HsT (cs us es:af)(a:Int):Prop where
 a0:0<=a
 m:smM cs us es a=peM es (a/16)
 f:smF cs us es a=peF es (a/16)
 n:smM cs us es a≠0
section
variable {a0 a1 a2: af} {a3: Int} {a4 a5 a6 a7 a8 a9 aA aB: af} {aC: Int} {aD: af} {aE aF aG aH: Int} {aI: Bool} {aJ aK: Int} {aL: af} {aM aN: Int}
end
end Go.V
namespace Go.V
abbrev Pr :=Int×Int
def jnS (o:List Pr)(x:Pr):List Pr:=match o.getLast? with
 |some y=>if y.1+y.2=x.1 then o.dropLast++[(y.1,y.2+x.2)]else o++[x]
 |none=>o++[x]
structure Ip where
 o:List Pr
 r:Pr
 d:Bool
def Qx (s:Ip)(x:Pr):Ip:=
 if x.1+x.2=s.r.1 then⟨s.o,(x.1,x.2+s.r.2),s.d⟩
 else if s.r.1+s.r.2=x.1 then⟨s.o,(s.r.1,s.r.2+x.2),s.d⟩
 else if s.r.1<x.1/\s.d=false then⟨s.o++[s.r,x],s.r,true⟩
 else⟨s.o++[x],s.r,s.d⟩
def ipE (s:Ip):List Pr:=if s.d then s.o else s.o++[s.r]
def ipL (l:List Pr)(r:Pr):List Pr:=ipE (l.foldl Qx ⟨[],r,false⟩)
structure Sp where
 o:List Pr
 d:Bool
def rsS (r:Pr)(s:Sp)(x:Pr):Sp:=if s.d=false/\r.1<x.1 then⟨s.o++[r]++[x],true⟩else⟨s.o++[x],s.d⟩
def Jn:List Pr->Prop
 |[]=>True
 |[x]=>0<x.2
 |x::y::l=>0<x.2/\x.1+x.2<y.1/\Jn (y::l)
def Ge {x:Pr}{l:List Pr}(h:Jn (x::l)):Jn l:=by
 cases l with
 |nil=>trivial
 |cons y l=>exact h.2.2
def M9 {x:Pr}{l:List Pr}(h:Jn (x::l)):0<x.2:=by
 cases l with
 |nil=>exact h
 |cons y l=>exact h.1
def BS {x:Pr}:∀ {l:List Pr},Jn (x::l)->∀ y∈l,x.1+x.2<y.1
 |[],_,y,hy=>by cases hy
 | z::l,h,y,hy=>by
   rcases Zj.1 hy with rfl|hy;exact h.2.1
   ·have:=BS h.2.2 y hy;have:=M9 h.2.2;have:=h.2.1;omega
end Go.V
namespace Go.V
structure kJ (cs us es:af):Prop where
 n0:1<=cs.length
 n1:cs.length<=32
 u:us.length=cs.length
 l:∀ i:Int,0<=i->i<cs.length->(aO cs i 0).length=16
 c:∀ i k:Int,0<=i->i<cs.length->0<=k->k<16->0<=ag (aO cs i 0) k 0/\ag (aO cs i 0) k 0<=999/\(pA us i 0=false->ag (aO cs i 0) k 0=0)
 e0:1<=es.length
 e1:es.length<=32
 e:∀ i:Int,0<=i->i<es.length->0<=ag es i 0/\ag es i 0<=2/\(ag es i 0=0->ag es i 1=0)/\(0<ag es i 0->0<=ag es i 1/\ag es i 1<cs.length)
 m:∀ i:Int,0<=i->i<cs.length->pA us i 0=eR es i
def OE {cs us es:af}(h:machOk cs us es=true):kJ cs us es:=by
 obtain⟨h1,h2,h3⟩:=D4 h;have a:=rS h1;have b:=CZ h2;refine⟨a.2.1,a.2.2,a.1,fun i i0 i1=>GE h1 i0 i1,fun i k i0 i1 k0 k1=>?_,b.1,b.2,fun i i0 i1=>Mp h2 i0 i1,h3⟩;have q:=h1;unfold framesOk at q;simp only[Zb,VI]at q;have r:=dI.1 q.2 i i0 i1;unfold iO at r;simp only[Zb,VI]at r;have s:=dI.1 r.2 k k0 Uc;unfold nz at s;simp only[Zb,Yc,VI]at s;have t:=bB.1 s.1;refine⟨t.1,t.2,fun f=>?_⟩;rcases s.2 with w|w
 ·rw[f]at w;cases w
 ·exact w
def OG {cs us es:af}(h:kJ cs us es):machOk cs us es=true:=by
 have f:framesOk cs us=true:=B8 (i:=cs.length) (bB.2 ⟨by have:=h.n0;omega,by have:=h.n1;omega⟩) h.u (fun i i0 i1=>GF (k:=16) (h.l i i0 i1) (fun k k0 k1=>by
  have c:=h.c i k i0 i1 k0 k1;refine Gc (bB.2 ⟨c.1,c.2.1⟩) ?_;cases q:pA us i 0 with
  |true=>exact .inl rfl
  |false=>exact .inr (c.2.2 q)) (Yl _)) (Yl _)
 have t:tableOk es us.length=true:=by
  rw[C0 (i:=es.length) (fun i i0 i1=>Ii (by have:=h.e i i0 i1;rw[h.u];exact this)) (Yl _)];exact bB.2 ⟨by have:=h.e0;omega,by have:=h.e1;omega⟩
 exact Ct (i:=us.length) f t (fun i i0 i1=>Hi (h.m i i0 (by rw[h.u]at i1;exact i1))) (Yl _)
def Hj {es:af}{f:Int}:∀ {n:Nat},0<(vO es f n).length↔∃ i:Nat,i<n/\ag es i 0≠0/\ag es i 1=f
 |0=>⟨fun h=>absurd h (Nat.lt_irrefl _),fun⟨i,h,_⟩=>absurd h Uc⟩
 | n+1=>by
   by_cases c:ag es n 0≠0/\ag es n 1=f
   ·rw[vO,VJ c,Zh];exact⟨fun _=>⟨n,Uc,c⟩,fun _=>by simp only[Zr,Zs];omega⟩
   ·rw[vO,VK c,Hj (n:=n)]
    constructor
    ·rintro⟨i,h,q⟩;exact⟨i,Uc,q⟩
    ·rintro⟨i,h,q⟩;by_cases z:i=n
     ·subst z;exact absurd q c
     ·exact⟨i,Uc,q⟩
def lD {es:af}{f:Int}:eR es f=true↔∃ i:Nat,i<es.length/\ag es i 0≠0/\ag es i 1=f:=yB.trans Hj
def lz {es:af}{n i:Nat}{r:ax}(h:n<es.length):(es.set n r).getD i []=if i=n then r else es.getD i []:=by
 simp only[Zp,List.getElem?_set];by_cases c:n=i
 ·subst c;rw[VJ rfl,VJ h,VJ rfl];rfl
 ·rw[VK c,VK (Ne.symm c)]
def RV {es:af}{n i:Int}{r:ax}{j:Nat}(n0:0<=n)(n1:n<es.length)(i0:0<=i):ag (es.set n.toNat r) i j=if i=n then Ke (r.getD j .g)else ag es i j:=by
 unfold ag;rw[lz Uc];by_cases c:i=n
 ·rw[VJ Uc,VJ c]
 ·rw[VK Uc,VK c]
def gbS {es:af}{n i:Int}{r:ax}{j:Nat}(n0:0<=n)(n1:n<es.length)(i0:0<=i):pA (es.set n.toNat r) i j=if i=n then lfB (r.getD j .g)else pA es i j:=by
 unfold pA;rw[lz Uc];by_cases c:i=n
 ·rw[VJ Uc,VJ c]
 ·rw[VK Uc,VK c]
def gsS {es:af}{n i:Int}{r:ax}{j:Nat}(n0:0<=n)(n1:n<es.length)(i0:0<=i):aO (es.set n.toNat r) i j=if i=n then LP (r.getD j .g)else aO es i j:=by
 unfold aO;rw[lz Uc];by_cases c:i=n
 ·rw[VJ Uc,VJ c]
 ·rw[VK Uc,VK c]
def zV (es:af)(p:Int):af:=es.set p.toNat [.i 0,.i 0]
def dfU (us es:af)(f:Int):af:=if eR es f=true then us else us.set f.toNat [.v (.bool false)]
def dfC (cs es:af)(f:Int):af:=if eR es f=true then cs else cs.set f.toNat [.s 1 (CO 16 [.i 0])]
def JR {k:Int}(k0:0<=k)(k1:k<16):ag (CO 16 [.i 0]) k 0=0:=by
 show ag (Zk 16 [L.i 0]) k 0=0;unfold ag;rw[Zp (l:=Zk _ _),List.getElem?_replicate,VJ Uc];rfl
def Rr {cs us es es':af}{f:Int}(h:kJ cs us es)(f0:0<=f)(f1:f<cs.length)(l:es'.length=es.length) 
 (e:∀ i:Int,0<=i->i<es.length->0<=ag es' i 0/\ag es' i 0<=2/\(ag es' i 0=0->ag es' i 1=0)/\(0<ag es' i 0->0<=ag es' i 1/\ag es' i 1<cs.length))
 (m:∀ i:Int,0<=i->i<cs.length->i≠f->eR es' i=eR es i) (g:eR es' f=true->eR es f=true):kJ (dfC cs es' f) (dfU us es' f) es':=by
 unfold dfC dfU;by_cases q:eR es' f=true
 ·rw[VJ q,VJ q];refine⟨h.n0,h.n1,h.u,h.l,h.c,by rw[l];exact h.e0,by rw[l];exact h.e1,fun i i0 i1=>e i i0 Uc,fun i i0 i1=>?_⟩;by_cases c:i=f
  ·rw[c,q,h.m f f0 f1,g q]
  ·rw[m i i0 i1 c];exact h.m i i0 i1
 ·have hu:=h.u;rw[VK q,VK q];refine⟨by rw[ZD];exact h.n0,by rw[ZD];exact h.n1,by rw[ZD,ZD];exact h.u,fun i i0 i1=>?_,fun i k i0 i1 k0 k1=>?_,by rw[l];exact h.e0,by rw[l];exact h.e1,fun i i0 i1=>by rw[ZD];exact e i i0 Uc,fun i i0 i1=>?_⟩
  ·rw[ZD]at i1;rw[gsS f0 f1 i0];split;rfl;exact h.l i i0 i1
  ·rw[ZD]at i1;rw[gsS f0 f1 i0,gbS f0 Uc i0];split
   ·show 0<=ag (CO 16 [.i 0]) k 0/\ag (CO 16 [.i 0]) k 0<=999/\(_->ag (CO 16 [.i 0]) k 0=0);rw[JR k0 k1];exact⟨Uc,Uc,fun _=>rfl⟩
   ·exact h.c i k i0 i1 k0 k1
  ·rw[ZD]at i1;rw[gbS f0 Uc i0];split
   ·rename_i c;subst c;show false=_;cases z:eR es' i with
    |false=>rfl
    |true=>exact absurd z q
   ·rename_i c;rw[m i i0 i1 c];exact h.m i i0 i1
def aaS {cs us es:af}{p:Int}(h:kJ cs us es)(hp:peM es p≠0):kJ (dfC cs (zV es p) (peF es p)) (dfU us (zV es p) (peF es p)) (zV es p):=by
 have pr:0<=p/\p<es.length:=by
  by_cases c:0<=p/\p<es.length;exact c;exact absurd (AQ c).1 hp
 have em:peM es p=ag es p 0:=by unfold peM;rw[VJ pr]
 have ef:peF es p=ag es p 1:=by unfold peF;rw[VJ pr]
 rw[em]at hp;have ep:=h.e p pr.1 pr.2;have fr:=ep.2.2.2 Uc;rw[ef];have z:∀ i:Int,0<=i->ag (zV es p) i 0=(if i=p then 0 else ag es i 0)/\ag (zV es p) i 1=if i=p then 0 else ag es i 1:=fun i i0=>⟨RV pr.1 pr.2 i0,RV pr.1 pr.2 i0⟩
 have lu:(zV es p).length=es.length:=ZD;have mp:∀ f:Int,eR (zV es p) f=true↔∃ i:Nat,i<es.length/\(i:Int)≠p/\ag es i 0≠0/\ag es i 1=f:=fun f=>by
  rw[lD,lu]
  constructor
  ·rintro⟨i,i1,a,b⟩;rw[(z i Uc).1]at a;rw[(z i Uc).2]at b;by_cases c:(i:Int)=p
   ·rw[VJ c]at a;exact absurd rfl a
   ·rw[VK c]at a b;exact⟨i,i1,c,a,b⟩
  ·rintro⟨i,i1,c,a,b⟩;exact⟨i,i1,by rw[(z i Uc).1,VK c];exact a,by rw[(z i Uc).2,VK c];exact b⟩
 refine Rr h fr.1 fr.2 lu (fun i i0 i1=>?_) (fun i i0 i1 ne=>?_) (fun q=>?_)
 ·rw[(z i i0).1,(z i i0).2];split;exact⟨Uc,Uc,fun _=>rfl,fun q=>by omega⟩;exact h.e i i0 i1
 ·rw[XA,mp,lD]
  constructor
  ·rintro⟨i,i1,_,a,b⟩;exact⟨i,i1,a,b⟩
  ·rintro⟨k,k1,a,b⟩;refine⟨k,k1,fun c=>?_,a,b⟩;rw[c]at b;exact ne b.symm
 ·obtain⟨i,i1,_,a,b⟩:=(mp _).1 q;exact lD.2 ⟨i,i1,a,b⟩
end Go.V
namespace Go.V
def HF {es:af}{p:Int}(h:peM es p≠0):(0<=p/\p<es.length)/\peM es p=ag es p 0/\peF es p=ag es p 1:=by
 have pr:0<=p/\p<es.length:=by
  by_cases c:0<=p/\p<es.length;exact c;exact absurd (AQ c).1 h
 exact⟨pr,by unfold peM;rw[VJ pr],by unfold peF;rw[VJ pr]⟩
def wB (es:af)(p m f:Int):af:=es.set p.toNat [.i m,.i f]
def qN {es:af}{p m f:Int}:(wB es p m f).length=es.length:=ZD
def nY {es:af}{p m f:Int}(p0:0<=p)(p1:p<es.length)(i:Int)(i0:0<=i):ag (wB es p m f) i 0=(if i=p then m else ag es i 0)/\ag (wB es p m f) i 1=if i=p then f else ag es i 1:=⟨RV p0 p1 i0,RV p0 p1 i0⟩
def AY {es:af}{p m f g:Int}(p0:0<=p)(p1:p<es.length)(hm:m≠0):eR (wB es p m f) g=true↔f=g\/∃ i:Nat,i<es.length/\(i:Int)≠p/\ag es i 0≠0/\ag es i 1=g:=by
 rw[lD,qN]
 constructor
 ·rintro⟨i,i1,a,b⟩;rw[(nY p0 p1 i Uc).1]at a;rw[(nY p0 p1 i Uc).2]at b;by_cases c:(i:Int)=p
  ·rw[VJ c]at b;exact .inl b
  ·rw[VK c]at a b;exact .inr ⟨i,i1,c,a,b⟩
 ·rintro(q|⟨i,i1,c,a,b⟩)
  ·obtain⟨n,rfl⟩:=Yh p0;exact⟨n,Uc,by rw[(nY p0 p1 n Uc).1,VJ rfl];exact hm,by rw[(nY p0 p1 n Uc).2,VJ rfl];exact q⟩
  ·exact⟨i,i1,by rw[(nY p0 p1 i Uc).1,VK c];exact a,by rw[(nY p0 p1 i Uc).2,VK c];exact b⟩
def aat {es:af}{p m f:Int}{n:Nat}(p0:0<=p)(p1:p<es.length)(hm:1<=m/\m<=2)(hf:0<=f/\f<n) 
 (e:∀ i:Int,0<=i->i<es.length->0<=ag es i 0/\ag es i 0<=2/\(ag es i 0=0->ag es i 1=0)/\(0<ag es i 0->0<=ag es i 1/\ag es i 1<n)):
 ∀ i:Int,0<=i->i<es.length->0<=ag (wB es p m f) i 0/\ag (wB es p m f) i 0<=2/\(ag (wB es p m f) i 0=0->ag (wB es p m f) i 1=0)/\(0<ag (wB es p m f) i 0->0<=ag (wB es p m f) i 1/\ag (wB es p m f) i 1<n):=fun i i0 i1=>by
 rw[(nY p0 p1 i i0).1,(nY p0 p1 i i0).2];split;exact⟨Uc,Uc,fun q=>by omega,fun _=>hf⟩;exact e i i0 i1
def Tg {cs us es:af}{p f:Int}(h:kJ cs us es)(p0:0<=p)(p1:p<es.length)(hp:ag es p 0=0)(f0:0<=f)(f1:f<cs.length):kJ cs (us.set f.toNat [.v (.bool true)]) (wB es p 2 f):=by
 have hu:=h.u;refine⟨h.n0,h.n1,by rw[ZD];exact h.u,h.l,fun i k i0 i1 k0 k1=>?_,by rw[qN];exact h.e0,by rw[qN];exact h.e1,fun i i0 i1=>aat p0 p1 Uc ⟨f0,f1⟩ h.e i i0 (by rw[qN]at i1;exact i1),fun i i0 i1=>?_⟩
 ·have c:=h.c i k i0 i1 k0 k1;refine⟨c.1,c.2.1,fun q=>?_⟩;rw[gbS f0 Uc i0]at q;split at q
  ·cases q
  ·exact c.2.2 q
 ·rw[gbS f0 Uc i0];split
  ·rename_i c;subst c;show true=_;exact((AY p0 p1 Uc).2 (.inl rfl)).symm
  ·rename_i c;rw[h.m i i0 i1,XA,AY p0 p1 Uc,lD]
   constructor
   ·rintro⟨k,k1,a,b⟩;refine .inr ⟨k,k1,fun q=>?_,a,b⟩;rw[q]at a;exact a hp
   ·rintro(q|⟨k,k1,_,a,b⟩);exact absurd q.symm c;exact⟨k,k1,a,b⟩
def aay {cs us es:af}{p f k v:Int}(h:kJ cs us es)(hp:peM es p≠0)(ef':peF es p=f)(k0:0<=k)(k1:k<16)(v0:0<=v)(v1:v<=999):kJ (nZ cs f k v) us es:=by
 obtain⟨pr,em,ef⟩:=HF hp;rw[em]at hp;have ep:=h.e p pr.1 pr.2;have fr:=ep.2.2.2 Uc;rw[<-ef,ef']at fr;have used:pA us f 0=true:=by
  rw[h.m f fr.1 fr.2];obtain⟨n,rfl⟩:=Yh pr.1;exact lD.2 ⟨n,Uc,hp,by rw[<-ef,ef']⟩
 have lf:=h.l f fr.1 fr.2;unfold nZ;refine⟨by rw[ZD];exact h.n0,by rw[ZD];exact h.n1,by rw[ZD];exact h.u,fun i i0 i1=>?_,fun i j i0 i1 j0 j1=>?_,h.e0,h.e1,fun i i0 i1=>by rw[ZD];exact h.e i i0 i1,fun i i0 i1=>by rw[ZD]at i1;exact h.m i i0 i1⟩
 ·rw[ZD]at i1;rw[gsS fr.1 fr.2 i0];split
  ·show((aO cs f 0).set k.toNat _).length=16;rw[ZD,lf]
  ·exact h.l i i0 i1
 ·rw[ZD]at i1;rw[gsS fr.1 fr.2 i0];split
  ·rename_i c;subst c;show 0<=ag ((aO cs i 0).set k.toNat [.i v]) j 0/\ag ((aO cs i 0).set k.toNat [.i v]) j 0<=999/\(_->ag ((aO cs i 0).set k.toNat [.i v]) j 0=0);rw[RV k0 Uc j0];have c:=h.c i j i0 i1 j0 j1;split;exact⟨v0,v1,fun q=>by rw[used]at q;cases q⟩;exact c
  ·exact h.c i j i0 i1 j0 j1
end Go.V
namespace Go.V
def adE (e:ax):Pr:=(Ke (e.getD 0 .g),Ke (e.getD 1 .g))
def qX (es:af):List Pr:=es.map adE
def frP (p:Pr):ax:=[.i p.1,.i p.2]
def rowP (l:List Pr):af:=l.map frP
def oI {es:af}:(qX es).length=es.length:=YY _
def HW {l:List Pr}:(rowP l).length=l.length:=YY _
def jE {es:af}{i:Int}(i0:0<=i)(i1:i<es.length):(qX es)[i.toNat]?=some (ag es i 0,ag es i 1):=by
 unfold qX ag;rw[List.getElem?_map,Zp (l:=es),Zt Uc];rfl
def KX {es:af}{x:Pr}(h:x∈qX es):∃ i:Nat,i<es.length/\x=(ag es i 0,ag es i 1):=by
 obtain⟨i,hi,e⟩:=X5 h;rw[oI]at hi;refine⟨i,hi,?_⟩;have q:=jE (es:=es) (i:=(i:Int)) Uc Uc;rw[ZI,Zt (by rw[oI];exact hi)]at q;rw[<-e];exact YB q
def En {l:List Pr}(h:∀ x∈l,(-9223372036854775808<=x.1/\x.1<=9223372036854775807)/\(-9223372036854775808<=x.2/\x.2<=9223372036854775807))(n:l.length<=maxLen):Rw [tI,tI] (rowP l):=⟨by rw[HW];exact n,fun e he=>by
 obtain⟨x,hx,rfl⟩:=List.mem_map.1 he;exact⟨⟨rfl,(h x hx).1⟩,⟨rfl,(h x hx).2⟩,trivial⟩⟩
def vW {a b:List Pr}:rowP (a++b)=rowP a++rowP b:=List.map_append
def Gd:∀ {l:List Pr},(∀ x∈l,0<x.2)->(∀ i:Nat,i+1<l.length->∀ x y,l[i]?=some x->l[i+1]?=some y->x.1+x.2<y.1)->Jn l
 |[],_,_=>trivial
 |[x],h,_=>h x (by simp)
 |x::y::l,h,g=>⟨h x (by simp),g 0 (by simp) x y rfl rfl,Gd (fun z hz=>h z (by simp[hz])) (fun i hi a b ha hb=>g (i+1) (by simp at hi ⊢;omega) a b (by simpa using ha) (by simpa using hb))⟩
structure I4 (n:Int)(rs:af):Prop where
 n0:1<=n
 n1:n<=32
 c:Jn (qX rs)
 b:∀ x∈qX rs,0<=x.1/\1<=x.2/\x.1+x.2<=n
def yS {n:Int}{rs:af}(h:rgOk n rs=true):I4 n rs:=by
 unfold rgOk at h;rw[Zb]at h;obtain⟨h1,h2⟩:=h;have r:=bB.1 h2;have at':∀ i:Int,0<=i->i<rs.length->(0<=ag rs i 0/\1<=ag rs i 1/\ag rs i 0+ag rs i 1<=n)/\(0<i->¬ ag rs i 0<=bK .add Za (ag rs (i-1) 0) (ag rs (i-1) 1)):=fun i i0 i1=>by
  have a:=dI.1 h1 i i0 i1;unfold vT at a;simp only[Zb,Bool.not_eq_true',Bool.and_eq_false_iff,decide_eq_false_iff_not]at a;have b:=a.1;unfold rngIn at b;simp only[Zb]at b;have b1:=bB.1 b.1;have b2:=bB.1 b.2;refine⟨Uc,fun p=>?_⟩;rcases a.2 with q|q;exact absurd p q;exact q
 have bd:∀ x∈qX rs,0<=x.1/\1<=x.2/\x.1+x.2<=n:=fun x hx=>by
  obtain⟨i,hi,rfl⟩:=KX hx;exact(at' i Uc Uc).1
 refine⟨r.1,r.2,Gd (fun x hx=>by have:=(bd x hx).2.1;omega) (fun i hi x y hx hy=>?_),bd⟩;rw[oI]at hi;have qx:=jE (es:=rs) (i:=(i:Int)) Uc Uc;have qy:=jE (es:=rs) (i:=((i+1:Nat):Int)) Uc Uc;rw[ZI]at qx qy;rw[hx]at qx;rw[hy]at qy;cases qx;cases qy;have a:=(at' ((i+1:Nat):Int) Uc Uc).2 Uc;have b:=(at' (i:Int) Uc Uc).1;rw[show((i+1:Nat):Int)-1=(i:Int)by omega,cu Uc]at a;show ag rs i 0+ag rs i 1<_;omega
def CC (x r:Pr):Bool:=decide (x.1<r.1+r.2)&&decide (r.1<x.1+x.2)
def rpB (n:Int)(rs:af)(a l:Int):Bool:=rgOk n rs&&(rngIn n a l&&(qX rs).all fun x=> !CC x (a,l))
def rpL (n:Int)(rs:af)(a l:Int):af:=if rpB n rs a l=true then rowP (ipL (qX rs) (a,l))else rs
structure BJ (rs:af)(a0 l0 i:Int)(o:af)(a l:Int)(d:Bool):Prop where
 s:∃ o',o=rowP o'/\((qX rs).take i.toNat).foldl Qx ⟨[],(a0,l0),false⟩=⟨o',(a,l),d⟩
 n:∀ x∈(qX rs).take i.toNat,CC x (a0,l0)=false
 v:∀ x∈(qX rs).drop i.toNat,CC x (a,l)=CC x (a0,l0)
 b:0<=a/\1<=l/\a+l<=32
end Go.V
namespace Go.V
def Ai:∀ {l:List Pr} {i:Nat} {y:Pr},Jn l->l[i]?=some y->∀ x∈l.drop (i+1),y.1+y.2<x.1
 |[],i,y,_,h=>by simp at h
 | z::l,0,y,c,h=>by
   simp at h;subst h;intro x hx;exact BS c x (by simpa using hx)
 | z::l,i+1,y,c,h=>by
   intro x hx;exact Ai (Ge c) (by simpa using h) x (by simpa using hx)
def take_at {l:List Pr}{i:Int}{y:Pr}(i0:0<=i)(h:l[i.toNat]?=some y):l.take (i+1).toNat=l.take i.toNat++[y]:=by
 rw[show(i+1).toNat=i.toNat+1 by omega,List.take_add_one,h];rfl
def drop_at {l:List Pr}{i:Int}{y:Pr}(i0:0<=i)(h:l[i.toNat]?=some y):l.drop i.toNat=y::l.drop (i+1).toNat:=by
 rw[show(i+1).toNat=i.toNat+1 by omega];obtain⟨h1,h2⟩:=List.getElem?_eq_some_iff.1 h;rw[WG h1,h2]
def CF {x r:Pr}:CC x r=true↔x.1<r.1+r.2/\r.1<x.1+x.2:=by unfold CC;rw[Zb,VI,VI]
section
variable {n: Int} {rs: af} {a0 l0 i: Int} {o: af} {a l: Int} {d: Bool}
def Mb (b:0<=a0/\1<=l0/\a0+l0<=32):BJ rs a0 l0 0 [] a0 l0 false:=⟨⟨[],rfl,rfl⟩,fun x hx=>by simp at hx,fun _ _=>rfl,b⟩
def Pz (T:I4 n rs)(h:BJ rs a0 l0 i o a l d)(i0:0<=i)(i1:i<rs.length)(x1:ag rs i 0<a+l)(x2:a<ag rs i 0+ag rs i 1):rpB n rs a0 l0=false:=by
 have e:=jE (es:=rs) i0 i1;have m:(ag rs i 0,ag rs i 1)∈(qX rs).drop i.toNat:=by rw[drop_at i0 e];simp
 have v:=h.v _ m;rw[CF.2 ⟨x1,x2⟩]at v;unfold rpB;have:((qX rs).all fun x=> !CC x (a0,l0))=false:=by
  rw[List.all_eq_false];exact⟨_,Yu m,by rw[<-v];simp⟩
 rw[this];simp
def Er (T:I4 n rs)(h:BJ rs a0 l0 i o a l d)(i0:0<=i)(i1:i<rs.length)(nov:¬ (ag rs i 0<a+l/\a<ag rs i 0+ag rs i 1)):
 (∀ x∈(qX rs).take (i+1).toNat,CC x (a0,l0)=false)/\(∀ x∈(qX rs).drop (i+1).toNat,ag rs i 0+ag rs i 1<x.1/\1<=x.2/\CC x (a,l)=CC x (a0,l0))/\(0<=ag rs i 0/\1<=ag rs i 1/\ag rs i 0+ag rs i 1<=32):=by
 have e:=jE (es:=rs) i0 i1;have m:(ag rs i 0,ag rs i 1)∈(qX rs).drop i.toNat:=by rw[drop_at i0 e];simp
 have v:=h.v _ m;have b:=T.b _ (Yu m);have:=T.n1;refine⟨fun x hx=>?_,fun x hx=>?_,⟨b.1,b.2.1,by have:=b.2.2;omega⟩⟩
 ·rw[take_at i0 e]at hx;rcases Zg.1 hx with q|q;exact h.n x q
  ·rw[Z3]at q;rw[q, <-v];cases z:CC (ag rs i 0,ag rs i 1) (a,l)with
   |false=>rfl
   |true=>exact absurd (CF.1 z) nov
 ·have c:=Ai T.c e x (by rw[show(i+1).toNat=i.toNat+1 by omega]at hx;exact hx);have p:=T.b x (Yu hx);exact⟨c,p.2.1,h.v x (by rw[drop_at i0 e];exact List.mem_cons_of_mem _ hx)⟩
def Mc (T:I4 n rs)(h:BJ rs a0 l0 i o a l d)(i0:0<=i)(i1:i<rs.length)(nov:¬ (ag rs i 0<a+l/\a<ag rs i 0+ag rs i 1))(q:ag rs i 0+ag rs i 1=a):BJ rs a0 l0 (i+1) o (ag rs i 0) (ag rs i 1+l) d:=by
 have e:=jE (es:=rs) i0 i1;obtain⟨h1,h2,h3⟩:=Er T h i0 i1 nov;obtain⟨o',eo,es⟩:=h.s;have hb:=h.b;refine⟨⟨o',eo,?_⟩,h1,fun x hx=>?_,Uc⟩
 ·rw[take_at i0 e,XB,es,Y1,Xl];unfold Qx;rw[VJ (by exact q)]
 ·obtain⟨c1,c2,c3⟩:=h2 x hx;rw[<-c3,XA,CF,CF]
  constructor<;>rintro⟨u,w⟩<;>constructor<;>(simp only at*;omega)
def Md (T:I4 n rs)(h:BJ rs a0 l0 i o a l d)(i0:0<=i)(i1:i<rs.length)(nov:¬ (ag rs i 0<a+l/\a<ag rs i 0+ag rs i 1))(p:ag rs i 0+ag rs i 1≠a)(q:a+l=ag rs i 0):BJ rs a0 l0 (i+1) o a (l+ag rs i 1) d:=by
 have e:=jE (es:=rs) i0 i1;obtain⟨h1,h2,h3⟩:=Er T h i0 i1 nov;obtain⟨o',eo,es⟩:=h.s;have hb:=h.b;refine⟨⟨o',eo,?_⟩,h1,fun x hx=>?_,Uc⟩
 ·rw[take_at i0 e,XB,es,Y1,Xl];unfold Qx;rw[VK (by exact p),VJ (by exact q)]
 ·obtain⟨c1,c2,c3⟩:=h2 x hx;rw[<-c3,XA,CF,CF]
  constructor<;>rintro⟨u,w⟩<;>constructor<;>(simp only at*;omega)
def Me (T:I4 n rs)(h:BJ rs a0 l0 i o a l d)(i0:0<=i)(i1:i<rs.length)(nov:¬ (ag rs i 0<a+l/\a<ag rs i 0+ag rs i 1))(p:ag rs i 0+ag rs i 1≠a)(q:a+l≠ag rs i 0)(c:a<ag rs i 0)(hd:d=false):
 BJ rs a0 l0 (i+1) (o++[[.i a,.i l],[.i (ag rs i 0),.i (ag rs i 1)]]) a l true:=by
 have e:=jE (es:=rs) i0 i1;obtain⟨h1,h2,h3⟩:=Er T h i0 i1 nov;obtain⟨o',eo,es⟩:=h.s;refine⟨⟨o'++[(a,l),(ag rs i 0,ag rs i 1)],by rw[vW,eo];rfl,?_⟩,h1,fun x hx=>(h2 x hx).2.2,h.b⟩;rw[take_at i0 e,XB,es,Y1,Xl];unfold Qx;rw[VK (by exact p),VK (by exact q),VJ (by exact⟨c,hd⟩)]
def H0 (T:I4 n rs)(h:BJ rs a0 l0 i o a l d)(i0:0<=i)(i1:i<rs.length)(nov:¬ (ag rs i 0<a+l/\a<ag rs i 0+ag rs i 1))(p:ag rs i 0+ag rs i 1≠a)(q:a+l≠ag rs i 0)(c:¬ (a<ag rs i 0/\d=false)):
 BJ rs a0 l0 (i+1) (o++[[.i (ag rs i 0),.i (ag rs i 1)]]) a l d:=by
 have e:=jE (es:=rs) i0 i1;obtain⟨h1,h2,h3⟩:=Er T h i0 i1 nov;obtain⟨o',eo,es⟩:=h.s;refine⟨⟨o'++[(ag rs i 0,ag rs i 1)],by rw[vW,eo];rfl,?_⟩,h1,fun x hx=>(h2 x hx).2.2,h.b⟩;rw[take_at i0 e,XB,es,Y1,Xl];unfold Qx;rw[VK (by exact p),VK (by exact q),VK (by exact c)]
def adn (h:rgOk n rs=true)(g:rngIn n a0 l0=true)(nov:∀ x∈qX rs,CC x (a0,l0)=false):rpB n rs a0 l0=true/\rpL n rs a0 l0=rowP (ipL (qX rs) (a0,l0)):=by
 have e:rpB n rs a0 l0=true:=by
  unfold rpB;rw[h,g];simp only[Bool.true_and,ZV];intro x hx;rw[nov x hx];rfl
 exact⟨e,by unfold rpL;rw[VJ e]⟩
def HZ (h:rpB n rs a0 l0=false):rpL n rs a0 l0=rs:=by unfold rpL;rw[h];rfl
def uo (hr:rgOk n rs=true)(g:rngIn n a0 l0=true)(h:BJ rs a0 l0 i o a l d)(i1:(rs.length:Int)<=i):rpB n rs a0 l0=true/\rpL n rs a0 l0=if d=true then o else o++[[.i a,.i l]]:=by
 have tk:(qX rs).take i.toNat=qX rs:=List.take_of_length_le (by rw[oI];omega);have hn:=h.n;obtain⟨o',eo,es⟩:=h.s;rw[tk]at hn es;obtain⟨e1,e2⟩:=adn hr g hn;refine⟨e1,?_⟩;rw[e2];unfold ipL;rw[es,eo];unfold ipE;cases d with
 |true=>rfl
 |false=>rw[VK (by simp),VK (by simp),vW];rfl
structure ad0 (rs:af)(a0 l0 i:Int)(o:af)(d:Bool):Prop where
 s:∃ o',o=rowP o'/\((qX rs).take i.toNat).foldl (rsS (a0,l0)) ⟨[],false⟩=⟨o',d⟩
 n:∀ x∈(qX rs).take i.toNat,CC x (a0,l0)=false
 m:o.length<=2*i.toNat
end
end Go.V
namespace Go.V
def aaX {o:af}{n:Int}{x:Value}(h:Rw [tI,tI] o)(n0:0<=n)(n1:n<o.length):oJ (.s 2 o) [(n.toNat,1)] [.v x]=o.set n.toNat [.i (ag o n 0),.v x]:=by
 show o.set n.toNat ((o.getD n.toNat []).take 1++[.v x]++(o.getD n.toNat []).drop (1+1))=_;rw[h.eta n0 n1];rfl
def aaW {o:af}{n:Int}{x:Value}(h:Rw [tI,tI] o)(n0:0<=n)(n1:n<o.length):oJ (.s 2 o) [(n.toNat,0)] [.v x]=o.set n.toNat [.v x,.i (ag o n 1)]:=by
 show o.set n.toNat ((o.getD n.toNat []).take 0++[.v x]++(o.getD n.toNat []).drop (0+1))=_;rw[h.eta n0 n1];rfl
def PP {o:af}{n:Int}{j:Nat}(h:Rw [tI,tI] o)(n0:0<=n)(n1:n<o.length)(hj:j<2):∃ rec o',bP (.s 2 o) [(n.toNat,j)]=some (rec,o')/\o'+1<=rec.length:=fv Uc (by
 rw[h.eta n0 n1];show j+1<=2;omega)
def J9 {o:af}{n:Int}{j:Nat}(h:Rw [tI,tI] o)(n0:0<=n)(n1:n<o.length)(hj:j<2):∃ rec o',bP (L.s 2 o) [(n.toNat,j)]=some (rec,o')/\o'+[L.v (Zq ZH 0)].length<=rec.length/\Yo [L.v (Zq ZH 0)].length (YA o' rec)=ka am (L.s 2 o) [(n.toNat,j)] 0 [L.v (Zq ZH 0)]:=by
 rcases(show j=0\/j=1 by omega)with rfl|rfl
 ·exact eA (z0:=[.i 0,.i 0]) (z:=[.i 0]) h.wf Uc rfl (by decide)
 ·exact eA (z0:=[.i 0,.i 0]) (z:=[.i 0]) h.wf Uc rfl (by decide)
def lG {l:af}{sz j:Nat}{i:Int}(h0:0<=i):yM (.s sz l) [(i.toNat,j)]=ag l i j:=by
 rw[yN];unfold ag;rw[ZI]
structure JnP (rs:af)(i:Int)(o:af):Prop where
 s:o=rowP (((qX rs).take i.toNat).foldl jnS [])
 l:o.length<=i.toNat
section
variable {rs o: af} {i: Int}
end
end Go.V
namespace Go.V
def FC (rs:af)(n:Int):Nat->Int
 |0=> -1
 |k+1=>if n<=ag rs k 1/\(FC rs n k<0\/ag rs k 1<ag rs (FC rs n k) 1)then k else FC rs n k
def dQ (rs:af)(n:Int):Int:=FC rs n rs.length
def F7 {rs:af}{n:Int}:∀ k:Nat,-1<=FC rs n k/\FC rs n k<k/\(0<=FC rs n k->n<=ag rs (FC rs n k) 1)
 |0=>⟨Yl _,by show(-1:Int)<0;omega,fun h=>absurd h (by show¬ (0:Int)<= -1;omega)⟩
 | k+1=>by
   have h:=F7 (rs:=rs) (n:=n) k;unfold FC;split
   ·rename_i c;exact⟨Uc,Uc,fun _=>c.1⟩
   ·exact⟨h.1,Uc,h.2.2⟩
structure I0 (rs:af)(n i b:Int):Prop where
 e:b=FC rs n i.toNat
section
variable {rs: af} {n i b: Int}
def QW:I0 rs n 0 (-1):=⟨rfl⟩
def QZ (h:I0 rs n i b)(i0:0<=i): -1<=b/\b<i\/(i=0/\b= -1):=by
 have q:=F7 (rs:=rs) (n:=n) i.toNat;rw[<-h.e]at q;omega
def QX (h:I0 rs n i b)(i0:0<=i)(c:n<=ag rs i 1)(d:b<0\/ag rs i 1<ag rs b 1):I0 rs n (i+1) i:=⟨by
 rw[show(i+1).toNat=i.toNat+1 by omega,FC,Zm i0, <-h.e,VJ ⟨c,d⟩]⟩
def QY (h:I0 rs n i b)(i0:0<=i)(c:¬ (n<=ag rs i 1/\(b<0\/ag rs i 1<ag rs b 1))):I0 rs n (i+1) b:=⟨by
 rw[show(i+1).toNat=i.toNat+1 by omega,FC,Zm i0, <-h.e,VK c]⟩
def I8 (h:I0 rs n i b)(i1:i<=rs.length)(i2:(rs.length:Int)<=i):b=dQ rs n:=by
 rw[h.e];unfold dQ;rw[show i.toNat=rs.length by omega]
end
def tkB (p:Int)(rs:af)(n:Int):Bool:=rgOk p rs&&(decide (1<=n)&&decide (0<=dQ rs n))
def wP (rs:af)(b:Int):af:=rs.take b.toNat++rs.drop (b+1).toNat
def tkL (p:Int)(rs:af)(n:Int):af:=if tkB p rs n=true then(if ag rs (dQ rs n) 1=n then wP rs (dQ rs n)else rs.set (dQ rs n).toNat [.i (ag rs (dQ rs n) 0+n),.i (ag rs (dQ rs n) 1-n)])else rs
def tkA (p:Int)(rs:af)(n:Int):Int:=if tkB p rs n=true then ag rs (dQ rs n) 0 else-1
def KW {p n:Int}{rs:af}(h:tkB p rs n=false):tkL p rs n=rs/\tkA p rs n= -1:=by unfold tkL tkA;rw[h];exact⟨rfl,rfl⟩
def PV {p n:Int}{rs:af}(h:rgOk p rs=false):tkB p rs n=false:=by unfold tkB;rw[h];rfl
def PW {p n:Int}{rs:af}(h:n<1):tkB p rs n=false:=by unfold tkB;rw[VH Uc];simp
def PX {p n:Int}{rs:af}(h:dQ rs n<0):tkB p rs n=false:=by unfold tkB;rw[VH (p:=0<=dQ rs n) Uc];simp
def ady {p n:Int}{rs:af}(h:rgOk p rs=true)(g:1<=n)(b:0<=dQ rs n):tkB p rs n=true:=by unfold tkB;rw[h,VG g,VG b];rfl
def PR {p n:Int}{rs:af}(h:tkB p rs n=true)(e:ag rs (dQ rs n) 1=n):tkL p rs n=wP rs (dQ rs n)/\tkA p rs n=ag rs (dQ rs n) 0:=by
 unfold tkL tkA;rw[VJ h,VJ h,VJ e];exact⟨rfl,rfl⟩
def PS {p n:Int}{rs:af}(h:tkB p rs n=true)(e:ag rs (dQ rs n) 1≠n):tkL p rs n=rs.set (dQ rs n).toNat [.i (ag rs (dQ rs n) 0+n),.i (ag rs (dQ rs n) 1-n)]/\tkA p rs n=ag rs (dQ rs n) 0:=by
 unfold tkL tkA;rw[VJ h,VJ h,VK e];exact⟨rfl,rfl⟩
structure TkT (p:Int)(rs:af)(n:Int):Prop where
 i0:0<=dQ rs n
 i1:dQ rs n<rs.length
 n0:1<=n
 a0:0<=ag rs (dQ rs n) 0
 l0:n<=ag rs (dQ rs n) 1
 e:ag rs (dQ rs n) 0+ag rs (dQ rs n) 1<=p
 p0:p<=32
def za {p n:Int}{rs:af}(h:tkB p rs n=true):TkT p rs n:=by
 unfold tkB at h;simp only[Zb,VI]at h;obtain⟨h1,h2,h3⟩:=h;have T:=yS h1;have b:=F7 (rs:=rs) (n:=n) rs.length;change-1<=dQ rs n/\dQ rs n<rs.length/\(0<=dQ rs n->n<=ag rs (dQ rs n) 1)at b;have t:=T.b _ (List.mem_of_getElem? (jE (es:=rs) h3 b.2.1));exact⟨h3,b.2.1,h2,t.1,b.2.2 h3,t.2.2,T.n1⟩
def JA {rs:af}{b:Int}{r:ax}(b0:0<=b):wP (rs.set b.toNat r) b=wP rs b:=by
 unfold wP;rw[List.take_set_of_le (Zf _),show(b+1).toNat=b.toNat+1 by omega,List.drop_set_of_lt Uc]
def Nn {fs:List Ty}{rs:af}{b:Int}(h:Rw fs rs)(b0:0<=b):Rw fs (wP rs b)/\(wP rs b).length<=rs.length:=by
 have l:(wP rs b).length<=rs.length:=by
  unfold wP;rw[Zh,List.length_take,List.length_drop];omega
 refine⟨⟨ZA l h.1,fun e he=>?_⟩,l⟩;rcases Zg.1 he with q|q;exact h.2 e (List.mem_of_mem_take q);exact h.2 e (Yu q)
def aaK {p n:Int}{rs:af}(h:Rw [tI,tI] rs):Rw [tI,tI] (tkL p rs n)/\(tkL p rs n).length<=rs.length:=by
 cases c:tkB p rs n with
 |false=>rw[(KW c).1];exact⟨h,Zf _⟩
 | true=>
   have T:=za c;have T1:=T.a0;have T2:=T.l0;have T3:=T.e;have T4:=T.p0;have T5:=T.n0;by_cases e:ag rs (dQ rs n) 1=n
   ·rw[(PR c e).1];exact Nn h T.i0
   ·rw[(PS c e).1,ZD];exact⟨Rw.set h (show bU [tI,tI] [.i (ag rs (dQ rs n) 0+n),.i (ag rs (dQ rs n) 1-n)]from⟨⟨rfl,show-9223372036854775808<=_/\_<=9223372036854775807 from by omega⟩,⟨rfl,show-9223372036854775808<=_/\_<=9223372036854775807 from by omega⟩,trivial⟩) _,Zf _⟩
end Go.V
namespace Go.V
def As (b:Int):Nat->af
 |0=>[]
 |k+1=>if hsB b k=true then As b k else As b k++[[.i k]]
def frL (n b:Int):af:=if bmOk n b=true then As b n.toNat else[]
def uf {b:Int}:∀ k:Nat,(As b k).length<=k
 |0=>Zf _
 | k+1=>by
   have:=uf (b:=b) k;unfold As;split;omega
   ·rw[Zh];show _+1<=_;omega
structure IK (b i:Int)(o:af):Prop where
 e:o=As b i.toNat
def RI {b:Int}:IK b 0 []:=⟨rfl⟩
def RJ {b i:Int}{o:af}(h:IK b i o)(i0:0<=i)(g:hsB b i=true):IK b (i+1) o:=⟨by
 rw[h.e,show(i+1).toNat=i.toNat+1 by omega,As,Zm i0,VJ g]⟩
def RL {b i:Int}{o:af}(h:IK b i o)(i0:0<=i)(g:hsB b i=false):IK b (i+1) (o++[[.i i]]):=⟨by
 rw[h.e,show(i+1).toNat=i.toNat+1 by omega,As,Zm i0,g];rfl⟩
def JM {b i:Int}{o:af}(h:IK b i o)(i0:0<=i):(o.length:Int)<=i:=by
 have:=uf (b:=b) i.toNat;rw[<-h.e]at this;omega
def abU {n b:Int}(h:bmOk n b=false):frL n b=[]:=by unfold frL;rw[h];rfl
def JL {b n i:Int}{o:af}(h:IK b i o)(g:bmOk n b=true)(i0:i<=n)(i1:n<=i):o=frL n b:=by
 rw[h.e];unfold frL;rw[VJ g,show i.toNat=n.toNat by omega]
def yn {b:Int}:∀ k:Nat,k<=1024->Rw [tI] (As b k)
 |0,_=>Rw.nil
 | k+1,h=>by
   have l:=uf (b:=b) k;unfold As;split;exact yn k Uc;exact Rw.append (yn k Uc) (aap Uc) (by unfold maxLen;simp only[Zr,Zs];omega)
end Go.V
namespace Go.V
def clB (ls:af)(k:Int):Bool:=inR k 0 3&&caOk ls
def ctB (ls:af)(k:Int):Bool:=clB ls k&&decide (0<(aO ls k 0).length)
def ctL (ls:af)(k:Int):af:=if ctB ls k=true then ls.set k.toNat [.s 1 ((aO ls k 0).take ((aO ls k 0).length-1))]else ls
def ctA (ls:af)(k:Int):Int:=if ctB ls k=true then ag (aO ls k 0) ((aO ls k 0).length-1) 0 else-1
def cuL (ls:af)(k a:Int):af:=ls.set k.toNat [.s 1 (aO ls k 0++[[.i a]])]
def abL (ls:af)(k a:Int):Bool:=clB ls k&&caOk (cuL ls k a)
def czN (ls:af)(k n:Int):Nat:=min n.toNat (aO ls k 0).length
def clO (ls:af)(k n:Int):Bool:=clB ls k&&decide (1<=n)
def clK (ls:af)(k n:Int):af:=if clO ls k n=true then ls.set k.toNat [.s 1 ((aO ls k 0).drop (czN ls k n))]else ls
def Rk {ls:af}{k:Int}(h:ctB ls k=false):ctL ls k=ls/\ctA ls k= -1:=by unfold ctL ctA;rw[h];exact⟨rfl,rfl⟩
def Rl {ls:af}{k:Int}(h:ctB ls k=true):ctL ls k=ls.set k.toNat [.s 1 ((aO ls k 0).take ((aO ls k 0).length-1))]/\ctA ls k=ag (aO ls k 0) ((aO ls k 0).length-1) 0:=by unfold ctL ctA;rw[VJ h,VJ h];exact⟨rfl,rfl⟩
def Li {ls:af}{k:Int}(h:clB ls k=true):0<=k/\k<4/\ls.length=4/\(aO ls k 0).length<=8:=by
 unfold clB at h;rw[Zb]at h;have r:=bB.1 h.1;have c:=abH h.2;have d:=c.2 k.toNat Uc;rw[Zm r.1]at d;exact⟨r.1,Uc,c.1,d⟩
def PG {ls r:af}{k:Nat}(h:Rw [.sl [tI]] ls)(g:Rw [tI] r):Rw [.sl [tI]] (ls.set k [.s 1 r]):=Rw.set h (show bU [.sl [tI]] [.s 1 r]from⟨⟨rfl,g⟩,trivial⟩) _
end Go.V
namespace Go.V
def qdN:af->Int->Nat
 |[],_=>0
 |e::l,r=>if qcI (e::l)<=r then 0 else qdN l r+1
structure QdP (l:af)(r i:Int):Prop where
 e:i.toNat<=qdN l r
section
variable {l: af} {r i: Int}
end
def stR (a c s:Int):ax:=[.i a,.i c,.i s]
def qaB (rm:Int)(qs:af)(a c s:Int):Bool:=quarOk rm qs&&stlOk qs a c s
def qaL (rm:Int)(qs:af)(a c s:Int):af:=if qaB rm qs a c s=true then(qs++[stR a c s]).drop (qdN (qs++[stR a c s]) rm)else qs
def qaR (rm:Int)(qs:af)(a c s:Int):af:=if qaB rm qs a c s=true then(qs++[stR a c s]).take (qdN (qs++[stR a c s]) rm)else[]
def qeN:af->Int->Nat
 |[],_=>0
 |e::l,t=>if Ke (e.getD 2 .g)<t then qeN l t+1 else 0
structure QeP (l:af)(t i:Int):Prop where
 e:i.toNat<=qeN l t
section
variable {l: af} {t i: Int}
end
def qeB (rm:Int)(qs:af)(now age:Int):Bool:=quarOk rm qs&&(inR now 0 1000000&&inR age 0 1000000)
def qeL (rm:Int)(qs:af)(now age:Int):af:=if qeB rm qs now age=true then qs.drop (qeN qs (now-age))else qs
def KA (rm:Int)(qs:af)(now age:Int):af:=if qeB rm qs now age=true then qs.take (qeN qs (now-age))else[]
end Go.V
namespace Go.V
def Dz {k:Nat}:∀ {l:af},(∀ e∈l,mY e<=k)->dk l<=k*l.length
 |[],_=>ZG _
 | e::l,h=>by
   have a:=h e (by simp);have b:=Dz (l:=l) (fun x hx=>h x (by simp[hx]));simp only[dk,Zr,Nat.mul_succ];omega
def yC {cs us es:af}(h:kJ cs us es)(rc:Rw [.sl [tI]] cs)(ru:Rw [tB] us)(re:Rw [tI,tI] es):bC cs<=1024/\bC us<=64/\bC es<=64:=by
 have n1:=h.n1;have hu:=h.u;have e1:=h.e1;refine⟨?_,?_,?_⟩
 ·have q:dk cs<=16*cs.length:=Dz fun e he=>by
   obtain⟨i,hi,rfl⟩:=X5 he;have a:=rc.eta (i:=i) Uc Uc;rw[Zp,ZI,Zt hi,Option.getD_some]at a;rw[a];show mY [.s 1 (aO cs i 0)]<=16;have l:=h.l i Uc Uc;have w:=(Rw.sub (fs:=[.sl [tI]]) (j:=0) (i:=(i:Int)) rc Uc rfl).cnt rfl;have e:mY [.s 1 (aO cs i 0)]=bC (aO cs i 0):=by simp only[mY,Gn,bC];omega
   rw[e,w];omega
  unfold bC;omega
 ·rw[ru.cnt rfl];omega
 ·rw[re.cnt rfl];omega
def sX (us es:af)(c:Int)(rs:af)(p:Int):Bool:=(!hasB rs c&&decide (0<=dC us))&&(inR p 0 (es.length-1)&&decide (peM es p=0))
def DU (us es:af)(c:Int)(rs:af)(p:Int):af:=if sX us es c rs p=true then us.set (dC us).toNat [.v (.bool true)]else us
def Cn (us es:af)(c:Int)(rs:af)(p:Int):af:=if sX us es c rs p=true then wB es p 2 (dC us)else es
def E3 (cs es:af)(p:Int):af:=if peM es p≠0 then dfC cs (zV es p) (peF es p)else cs
def E4 (us es:af)(p:Int):af:=if peM es p≠0 then dfU us (zV es p) (peF es p)else us
def Co (es:af)(p:Int):af:=if peM es p≠0 then zV es p else es
def kpB (es:af)(c:Int)(rs:af)(p m:Int):Bool:= !hasB rs c&&(decide (peM es p≠0)&&(decide (m=1)||decide (m=2)))
def kpE (es:af)(c:Int)(rs:af)(p m:Int):af:=if kpB es c rs p m=true then wB es p m (peF es p)else es
def koB (es:af)(c:Int)(rs:af)(p q:Int):Bool:= !hasB rs c&&(decide (peM es p≠0)&&(decide (peM es q≠0)&&decide (p≠q)))
def koC (cs es:af)(c:Int)(rs:af)(p q:Int):af:=if koB es c rs p q=true then dfC cs (wB es p 2 (peF es q)) (peF es p)else cs
def koU (us es:af)(c:Int)(rs:af)(p q:Int):af:=if koB es c rs p q=true then dfU us (wB es p 2 (peF es q)) (peF es p)else us
def koE (es:af)(c:Int)(rs:af)(p q:Int):af:=if koB es c rs p q=true then wB es p 2 (peF es q)else es
def SI {cs us es rs:af}{c p:Int}(h:kJ cs us es):kJ cs (DU us es c rs p) (Cn us es c rs p):=by
 unfold DU Cn;by_cases g:sX us es c rs p=true
 ·rw[VJ g,VJ g];unfold sX at g;simp only[Zb,VI]at g;have r:=bB.1 g.2.1;have f:=ug (us:=us);have u:=h.u;have pr:0<=p/\p<es.length:=by omega
  have z:ag es p 0=0:=by have:=g.2.2;unfold peM at this;rw[VJ pr]at this;exact this
  exact Tg h r.1 Uc z g.1.2 Uc
 ·rw[VK g,VK g];exact h
def acK {cs us es:af}{p:Int}(h:kJ cs us es):kJ (E3 cs es p) (E4 us es p) (Co es p):=by
 unfold E3 E4 Co;by_cases g:peM es p≠0
 ·rw[VJ g,VJ g,VJ g];exact aaS h g
 ·rw[VK g,VK g,VK g];exact h
def rwU {us:af}{n:Nat}{b:Bool}(h:Rw [tB] us):Rw [tB] (us.set n [.v (.bool b)]):=Rw.set h (show bU [tB] [.v (.bool b)]from⟨trivial,trivial⟩) _
def PD {es:af}{p m f:Int}(h:Rw [tI,tI] es)(hm: -9223372036854775808<=m/\m<=9223372036854775807)(hf: -9223372036854775808<=f/\f<=9223372036854775807):Rw [tI,tI] (wB es p m f):=Rw.set h (show bU [tI,tI] [.i m,.i f]from⟨⟨rfl,hm⟩,⟨rfl,hf⟩,trivial⟩) _
def adp {cs es:af}{f:Int}(h:Rw [.sl [tI]] cs):Rw [.sl [tI]] (dfC cs es f):=by
 unfold dfC;split;exact h;exact PG h (Rw.replicate (show bU [tI] [.i 0]from⟨⟨rfl,show-9223372036854775808<=(0:Int)/\(0:Int)<=9223372036854775807 from by omega⟩,trivial⟩) (by unfold maxLen;omega))
def adq {us es:af}{f:Int}(h:Rw [tB] us):Rw [tB] (dfU us es f):=by
 unfold dfU;split;exact h;exact rwU h
def LK {us es rs:af}{c p:Int}(hu:Rw [tB] us)(he:Rw [tI,tI] es)(l:us.length<=32):Rw [tB] (DU us es c rs p)/\Rw [tI,tI] (Cn us es c rs p):=by
 have f:=ug (us:=us);unfold DU Cn
 constructor<;>split
 ·exact rwU hu
 ·exact hu
 ·exact PD he Uc Uc
 ·exact he
def SL {cs us es:af}{p:Int}(hc:Rw [.sl [tI]] cs)(hu:Rw [tB] us)(he:Rw [tI,tI] es):Rw [.sl [tI]] (E3 cs es p)/\Rw [tB] (E4 us es p)/\Rw [tI,tI] (Co es p):=by
 unfold E3 E4 Co;refine⟨?_,?_,?_⟩<;>split
 ·exact adp hc
 ·exact hc
 ·exact adq hu
 ·exact hu
 ·exact PD (m:=0) (f:=0) he Uc Uc
 ·exact he
def lA {cs us es rs:af}{c:Int}(h:kerOk cs us es c rs=true):kJ cs us es/\0<=c/\c<=100000/\lI rs=true:=by
 unfold kerOk at h;simp only[Zb]at h;have r:=bB.1 h.1.2;exact⟨OE h.1.1,r.1,r.2,h.2⟩
def yx {cs us es rs:af}{c:Int}(h:kJ cs us es)(c0:0<=c)(c1:c<=100000)(r:lI rs=true):kerOk cs us es c rs=true:=DO (OG h) (bB.2 ⟨c0,c1⟩) r
end Go.V
namespace Go.V
structure tz (a0 a1 a2 a4 a5 a6 a7 a8 a9 aA aB aD aL:af):Prop where
 r0:Rw [.sl [tI]] a0
 r1:Rw [tB] a1
 r2:Rw [tI,tI] a2
 r4:Rw [tI] a4
 r5:Rw [tI,tI] a5
 r6:Rw [tI,tI,tI] a6
 r7:Rw [tI,tI,tI] a7
 r8:Rw [tI,tI,tI,tI] a8
 r9:Rw [.sl [.sl [tI]]] a9
 r10:Rw [.sl [tI,tI]] aA
 r11:Rw [.sl [tI]] aB
 r13:Rw [tI,tI,tI] aD
 r21:Rw [tI] aL
 c0:bC a0<=1073741824
 c1:bC a1<=1073741824
 c2:bC a2<=1073741824
 c4:bC a4<=1073741824
 c5:bC a5<=1073741824
 c6:bC a6<=1073741824
 c7:bC a7<=1073741824
 c8:bC a8<=1073741824
 c9:bC a9<=1073741824
 c10:bC aA<=1073741824
 c11:bC aB<=1073741824
 c13:bC aD<=1073741824
 c21:bC aL<=1073741824
def tz.hp {a0 a1 a2 a4 a5 a6 a7 a8 a9 aA aB aD aL:af}(h:tz a0 a1 a2 a4 a5 a6 a7 a8 a9 aA aB aD aL):QM a0 a1 a2 a4 a5 a6 a7 a8 a9 aA aB aD aL:=by
 have l2:=bj (es:=a2);have l5:=bj (es:=a5);have l6:=bj (es:=a6);have l7:=bj (es:=a7);have l8:=bj (es:=a8);have l13:=bj (es:=aD);have l21:=bj (es:=aL);have c2:=h.c2;have c5:=h.c5;have c6:=h.c6;have c7:=h.c7;have c8:=h.c8;have c13:=h.c13;have c21:=h.c21;exact⟨⟨h.r6,h.r7,h.r8,h.r9,h.r13,OW h.r10 h.r11 h.c10 h.c11,OU h.r9 h.c9,Uc,Uc,Uc,Uc,h.c9⟩,h.r0,h.r1,h.r2,Uc,h.r4,h.r5,Uc,h.r21,Uc⟩
def CW {fs:List Ty}{es:af}{i:Int}(h:Rw [.sl fs] es)(h0:0<=i)(h1:i<es.length):Rw fs (aO es i 0):=Rw.sub (fs:=[.sl fs]) (j:=0) (i:=i) h Uc rfl
end Go.V
namespace Go.V
def htB (b x:af)(f:Int):Bool:=inR f 0 (b.length-1)&&mailOk b x
def Iq {b x:af}{i:Int}(h:Rw [.sl [tI]] b)(h0:0<=i)(h1:i<b.length):oJ (.s 1 b) [(i.toNat,0)] [.s 1 x]=b.set i.toNat [.s 1 x]:=mC (by rw[h.eta h0 h1];rfl)
def Ie {fs:List Ty}{b:af}{i:Int}(h:Rw [.sl fs] b)(h0:0<=i)(h1:i<b.length):∃ rec o',bP (.s 1 b) [(i.toNat,0)]=some (rec,o')/\o'+1<=rec.length:=fv Uc (by rw[h.eta h0 h1];exact Zf _)
end Go.V
namespace Go.V
def ccB (cs us es:af)(c:Int)(rs:af):Bool:=decide (c≠100000)&&kerOk cs us es c rs
def Lg {cs us es rs:af}{c:Int}(h:ccB cs us es c rs=true):c≠100000/\kerOk cs us es c rs=true:=by
 unfold ccB at h;rw[Zb,VI]at h;exact h
def Q6 {cs us es rs:af}{c:Int}(h:c=100000):ccB cs us es c rs=false:=by unfold ccB;rw[VH (fun n=>n h)];rfl
def Ga {cs us es rs:af}{c:Int}(h:c≠100000):ccB cs us es c rs=kerOk cs us es c rs:=by unfold ccB;rw[VG h];rfl
def ktC (k:Bool)(cs es:af)(p:Int):af:=if k=true then E3 cs es p else cs
def ktU (k:Bool)(us es:af)(p:Int):af:=if k=true then E4 us es p else us
def ktE (k:Bool)(es:af)(p:Int):af:=if k=true then Co es p else es
def ktB (k:Bool)(es:af)(p:Int):Bool:=k&&mapB es p
def SK {k:Bool}{cs us es:af}{p:Int}(h:k=false):ktC k cs es p=cs/\ktU k us es p=us/\ktE k es p=es/\ktB k es p=false:=by subst h;exact⟨rfl,rfl,rfl,rfl⟩
def Of {k:Bool}{cs us es:af}{p:Int}(h:k=true):ktC k cs es p=E3 cs es p/\ktU k us es p=E4 us es p/\ktE k es p=Co es p/\ktB k es p=mapB es p:=by subst h;exact⟨rfl,rfl,rfl,rfl⟩
def acJ {cs us es:af}{p:Int}(h:mapB es p=false):E3 cs es p=cs/\E4 us es p=us/\Co es p=es:=by
 unfold mapB at h;have:=of_decide_eq_false h;unfold E3 E4 Co;rw[VK this,VK this,VK this];exact⟨rfl,rfl,rfl⟩
def acL {cs us es:af}{p:Int}(h:mapB es p=true):E3 cs es p=dfC cs (zV es p) (peF es p)/\E4 us es p=dfU us (zV es p) (peF es p)/\Co es p=zV es p:=by
 unfold mapB at h;have:=VL h;unfold E3 E4 Co;rw[VJ this,VJ this,VJ this];exact⟨rfl,rfl,rfl⟩
def acI {k:Bool}{cs us es:af}{p:Int}(h:mapB es p=false):ktC k cs es p=cs/\ktU k us es p=us/\ktE k es p=es/\ktB k es p=false:=by
 cases k with
 |false=>exact SK rfl
 |true=>have q:=acJ (cs:=cs) (us:=us) h;exact⟨q.1,q.2.1,q.2.2,h⟩
def D1 {es:af}{p:Int}(h:mapB es p=true):(0<=p/\p<es.length)/\peM es p=ag es p 0/\peF es p=ag es p 1/\peM es p≠0:=by
 unfold mapB at h;have:=VL h;have q:=HF this;exact⟨q.1,q.2.1,q.2.2,this⟩
def D2 {cs us es:af}{p:Int}(m:kJ cs us es)(h:mapB es p=true):0<=ag es p 1/\ag es p 1<cs.length:=by
 have q:=D1 h;have e:=m.e p q.1.1 q.1.2;exact e.2.2.2 (by have:=q.2.1;have:=q.2.2.2;omega)
def abN {cs us es:af}{f:Int}(h:((pagesOn es f).length:Int)=0):dfC cs es f=cs.set f.toNat [.s 1 (CO 16 [.i 0])]/\dfU us es f=us.set f.toNat [.v (.bool false)]:=by
 have e:eR es f=false:=Kh Uc;unfold dfC dfU;rw[e];exact⟨rfl,rfl⟩
def abO {cs us es:af}{f:Int}(h:¬ ((pagesOn es f).length:Int)=0):dfC cs es f=cs/\dfU us es f=us:=by
 have e:eR es f=true:=yB.2 Uc;unfold dfC dfU;rw[e];exact⟨rfl,rfl⟩
def aaT {es:af}{p:Int}(h:Rw [tI,tI] es)(p0:0<=p)(p1:p<es.length):oJ (.s 2 es) [(p.toNat,0)] [.i 0,.i 0]=zV es p:=by
 unfold zV;exact mC (by rw[h.eta p0 p1];rfl)
def J2 {es:af}{p:Int}:(Co es p).length=es.length:=by
 unfold Co zV;split;exact ZD;rfl
structure K3 where
 c:af
 u:af
 e:af
def DD (a0 a1 a2:af)(t:Int):Nat->K3
 |0=>⟨a0,a1,a2⟩
 |n+1=>⟨E3 (DD a0 a1 a2 t n).c (DD a0 a1 a2 t n).e (t+n),E4 (DD a0 a1 a2 t n).u (DD a0 a1 a2 t n).e (t+n),Co (DD a0 a1 a2 t n).e (t+n)⟩
def Gs {a0 a1 a2:af}{t:Int}{n:Nat}:DD a0 a1 a2 t (n+1)=⟨E3 (DD a0 a1 a2 t n).c (DD a0 a1 a2 t n).e (t+n),E4 (DD a0 a1 a2 t n).u (DD a0 a1 a2 t n).e (t+n),Co (DD a0 a1 a2 t n).e (t+n)⟩:=rfl
def duC (a0 a1 a2:af)(t l:Int):af:=(DD a0 a1 a2 t l.toNat).c
def duU (a0 a1 a2:af)(t l:Int):af:=(DD a0 a1 a2 t l.toNat).u
def duE (a0 a1 a2:af)(t l:Int):af:=(DD a0 a1 a2 t l.toNat).e
structure FA (a0 a1 a2:af)(t p:Int)(c u e:af):Prop where
 m:kJ c u e
 rc:Rw [.sl [tI]] c
 ru:Rw [tB] u
 re:Rw [tI,tI] e
 l:e.length=a2.length
 ec:c=duC a0 a1 a2 t (p-t)
 eu:u=duU a0 a1 a2 t (p-t)
 ee:e=duE a0 a1 a2 t (p-t)
section
variable {a0 a1 a2 c u e: af} {t p: Int}
def Gt (m:kJ a0 a1 a2)(rc:Rw [.sl [tI]] a0)(ru:Rw [tB] a1)(re:Rw [tI,tI] a2):FA a0 a1 a2 t t a0 a1 a2:=by
 have z:(t-t).toNat=0:=by omega
 refine⟨m,rc,ru,re,rfl,?_,?_,?_⟩
 ·unfold duC;rw[z];rfl
 ·unfold duU;rw[z];rfl
 ·unfold duE;rw[z];rfl
def B0 (h:FA a0 a1 a2 t p c u e)(p0:t<=p):FA a0 a1 a2 t (p+1) (E3 c e p) (E4 u e p) (Co e p):=by
 have w:=SL (p:=p) h.rc h.ru h.re;have s:(p+1-t).toNat=(p-t).toNat+1:=by omega
 have q:t+((p-t).toNat:Int)=p:=by omega
 refine⟨acK h.m,w.1,w.2.1,w.2.2,by rw[J2];exact h.l,?_,?_,?_⟩
 ·rw[h.ec,h.ee];unfold duC duE;rw[s,Gs,q]
 ·rw[h.eu,h.ee];unfold duU duE;rw[s,Gs,q]
 ·rw[h.ee];unfold duE;rw[s,Gs,q]
def DG {l:Int}(h:FA a0 a1 a2 t p c u e)(p1:t+l<=p)(p2:p<=t+l):c=duC a0 a1 a2 t l/\u=duU a0 a1 a2 t l/\e=duE a0 a1 a2 t l:=by
 have q:p-t=l:=by omega
 exact⟨q▸h.ec,q▸h.eu,q▸h.ee⟩
def yi (h:FA a0 a1 a2 t p c u e):bC c<=1024/\bC u<=64/\bC e<=64:=yC h.m h.rc h.ru h.re
def DF (m:kJ a0 a1 a2)(rc:Rw [.sl [tI]] a0)(ru:Rw [tB] a1)(re:Rw [tI,tI] a2):∀ n:Nat,FA a0 a1 a2 t (t+n) (duC a0 a1 a2 t n) (duU a0 a1 a2 t n) (duE a0 a1 a2 t n)
 |0=>by have:=Gt (t:=t) m rc ru re;rw[show t+((0:Nat):Int)=t by omega];exact this
 | n+1=>by
   have h:=B0 (DF m rc ru re n) Uc;have e:((n+1:Nat):Int)=(n:Int)+1:=by omega
   rw[show t+((n+1:Nat):Int)=t+n+1 by omega];exact h
end
def ifR (b:Bool)(x y:af):af:=if b=true then x else y
def CN {o o':af}{r r':Bool}(h2:o=o')(h3:r=r'):[DV.one (.s 2 o),DV.k r]=[DV.one (.s 2 o'),DV.k r']:=by rw[h2,h3]
end Go.V
namespace Go.V
structure SmR (rs:af):Prop where
 w:Rw [tI,tI] rs
 b:∀ i:Int,0<=i->i<rs.length->0<=ag rs i 0/\ag rs i 0<=64/\0<=ag rs i 1/\ag rs i 1<=64
def aaV {o:af}{n:Int}{b:Bool}(h:Rw [tB] o)(h0:0<=n)(h1:n<o.length):oJ (.s 1 o) [(n.toNat,0)] [.v (.bool b)]=o.set n.toNat [.v (.bool b)]:=mC (by rw[h.eta h0 h1];rfl)
def adw {o:af}{n:Int}(h:Rw [tB] o)(h0:0<=n)(h1:n<o.length):∃ rec o',bP (.s 1 o) [(n.toNat,0)]=some (rec,o')/\o'+1<=rec.length:=fv Uc (by rw[h.eta h0 h1];exact Zf _)
def aaE {es:af}{p:Int}(h:Rw [tI,tI] es)(p0:0<=p)(p1:p<es.length):∃ rec o,bP (.s 2 es) [(p.toNat,0)]=some (rec,o)/\o+2<=rec.length:=fv Uc (by rw[h.eta p0 p1];exact Zf _)
section
variable {n a0 l0 i: Int} {rs o: af} {d: Bool}
def Ma (g:rngIn n a0 l0=true)(T:I4 n rs):0<=a0/\1<=l0/\a0+l0<=32:=by
 unfold rngIn at g;simp only[Zb]at g;have p:=bB.1 g.1;have q:=bB.1 g.2;have:=T.n1;omega
structure JnQ (rs:af)(i:Int)(o:af)(n:Nat):Prop where
 p:JnP rs i o
 n:n=o.length
 w:Rw [tI,tI] o
 b:∀ k:Int,0<=k->k<o.length->0<=ag o k 0/\ag o k 0<=64/\0<=ag o k 1/\ag o k 1<=64*i
end
end Go.V
namespace Go.V
def NH {a0 a1 a2 a4 a5 a6 a7 a8 a9 aA aB aD aL:af}(h0:Rw [.sl [tI]] a0)(h1:Rw [tB] a1)(h2:Rw [tI,tI] a2)(h4:Rw [tI] a4)(h5:Rw [tI,tI] a5)(h6:Rw [tI,tI,tI] a6)(h7:Rw [tI,tI,tI] a7)(h8:Rw [tI,tI,tI,tI] a8)(h9:Rw [.sl [.sl [tI]]] a9)(h10:Rw [.sl [tI,tI]] aA)(h11:Rw [.sl [tI]] aB)(h13:Rw [tI,tI,tI] aD)(h21:Rw [tI] aL)(hs:xf [a0,a1,a2,a4,a5,a6,a7,a8,a9,aA,aB,aD,aL]<=1048576):tz a0 a1 a2 a4 a5 a6 a7 a8 a9 aA aB aD aL:=by
 obtain⟨c0,c1,c2,c4,c5,c6,c7,c8,c9,c10,c11,c13,c21⟩:=Lk hs;exact⟨h0,h1,h2,h4,h5,h6,h7,h8,h9,h10,h11,h13,h21,Uc,Uc,Uc,Uc,Uc,Uc,Uc,Uc,Uc,Uc,Uc,Uc,Uc⟩
end Go.V
namespace Go.V
section
variable {n a0 l0: Int} {rs: af}
def PE {x y:Pr}(hx:0<=x.1/\x.1<=64/\0<=x.2/\x.2<=64)(hy:0<=y.1/\y.1<=64/\0<=y.2/\y.2<=64):Rw [tI,tI] (rowP [x,y]):=En (fun z hz=>by
 rcases Zj.1 hz with q|q
 ·rw[q];omega
 ·rw[Z3]at q;rw[q];omega) (by unfold maxLen;simp)
def Mg {x:Pr}(hx:0<=x.1/\x.1<=64/\0<=x.2/\x.2<=64):Rw [tI,tI] (rowP [x]):=En (fun z hz=>by
 rw[Z3]at hz;rw[hz];omega) (by unfold maxLen;simp)
def Ep (T:I4 n rs)(g:rngIn n a0 l0=true)(hl:rs.length<=1073741824)(nov:∀ x∈qX rs,CC x (a0,l0)=false):∀ i:Nat,i<=rs.length->∃ o x y d,BJ rs a0 l0 i o x y d/\Rw [tI,tI] o/\o.length<=2*i
 |0,_=>⟨[],a0,l0,false,Mb (Ma g T),Rw.nil,Zf _⟩
 | i+1,hi=>by
   obtain⟨o,x,y,d,h,rw_,ol⟩:=Ep T g hl nov i Uc;have e:=jE (es:=rs) (i:=(i:Int)) Uc Uc;have m:(ag rs i 0,ag rs i 1)∈(qX rs).drop (i:Int).toNat:=by rw[drop_at Uc e];simp
   have v:=h.v _ m;rw[nov _ (Yu m)]at v;have no:¬ (ag rs i 0<x+y/\x<ag rs i 0+ag rs i 1):=fun c=>by rw[CF.2 c]at v;cases v
   have b:=T.b _ (Yu m);have hb:=h.b;have:=T.n1;have bp:0<=ag rs i 0/\ag rs i 0<=64/\0<=ag rs i 1/\ag rs i 1<=64:=⟨b.1,by have:=b.2.1;have:=b.2.2;omega,by have:=b.2.1;omega,by have:=b.1;have:=b.2.2;omega⟩;have c:((i+1:Nat):Int)=(i:Int)+1:=by omega
   rw[c];by_cases q1:ag rs i 0+ag rs i 1=x;exact⟨o,_,_,d,Mc T h Uc Uc no q1,rw_,Uc⟩
   by_cases q2:x+y=ag rs i 0;exact⟨o,_,_,d,Md T h Uc Uc no q1 q2,rw_,Uc⟩
   by_cases q3:x<ag rs i 0/\d=false;exact⟨_,_,_,true,Me T h Uc Uc no q1 q2 q3.1 q3.2,Rw.append rw_ (PE (x:=(x,y)) (y:=(ag rs i 0,ag rs i 1)) (by simp only;omega) bp) (by unfold maxLen;show _+2<=_;omega),by rw[Zh];show _+2<=_;omega⟩;exact⟨_,_,_,d,H0 T h Uc Uc no q1 q2 q3,Rw.append rw_ (Mg (x:=(ag rs i 0,ag rs i 1)) bp) (by unfold maxLen;show _+1<=_;omega),by rw[Zh];show _+1<=_;omega⟩
def HY (w:Rw [tI,tI] rs)(hl:rs.length<=1073741824):Rw [tI,tI] (rpL n rs a0 l0)/\(rpL n rs a0 l0).length<=2*rs.length+1:=by
 cases h:rpB n rs a0 l0 with
 |false=>rw[HZ h];exact⟨w,Uc⟩
 | true=>
   unfold rpB at h;simp only[Zb,ZV]at h;obtain⟨h1,h2,h3⟩:=h;have T:=yS h1;have nov:∀ x∈qX rs,CC x (a0,l0)=false:=fun x hx=>by have:=h3 x hx;simpa using this
   obtain⟨o,x,y,d,p,r,l⟩:=Ep T h2 hl nov rs.length (Zf _);have e:=uo h1 h2 p Uc;rw[e.2];cases d with
   |true=>rw[VJ rfl];exact⟨r,Uc⟩
   | false=>
     rw[VK (by simp)];have b:=p.b;exact⟨Rw.append r (Mg (x:=(x,y)) (by simp only;omega)) (by unfold maxLen;show _+1<=_;omega),by rw[Zh];show _+1<=_;omega⟩
def KI (w:Rw [tI,tI] rs)(hl:rs.length<=1073741824):bC (rpL n rs a0 l0)<=2*rs.length+1:=by
 have h:=HY (n:=n) (a0:=a0) (l0:=l0) w hl;rw[h.1.cnt rfl];exact h.2
end
def M4 {c u e a0 a1 a2 a4:af}{a3:Int}(m:kJ c u e)(h:kerOk a0 a1 a2 a3 a4=true)(n:a3≠100000):ccB c u e a3 a4=true:=by
 have k:=(lA h).2;unfold ccB;rw[VG n,yx m k.1 k.2.1 k.2.2];rfl
def bsB (m:Bool)(k v p:Int):Bool:=m&&(decide (k=p)||decide (v=p))
def abF {m:Bool}{k v p:Int}(h:m=false):bsB m k v p=false:=by subst h;rfl
def abD {m:Bool}{k v p:Int}(h:m=true)(e:k=p):bsB m k v p=true:=by subst h;unfold bsB;rw[VG e];rfl
def abE {m:Bool}{k v p:Int}(h:m=true)(e:k≠p):bsB m k v p=decide (v=p):=by subst h;unfold bsB;rw[VH e];rfl
def dsC (a0 a1 a2 a6:af)(i:Int):af:=duC a0 a1 a2 (ag a6 i 0) 1
def dsU (a0 a1 a2 a6:af)(i:Int):af:=duU a0 a1 a2 (ag a6 i 0) 1
def dsE (a0 a1 a2 a6:af)(i:Int):af:=duE a0 a1 a2 (ag a6 i 0) 1
def dsF (a0 a1 a2 a5 a6:af)(i:Int):af:=rpL (zlI (dsE a0 a1 a2 a6 i)) a5 (ag a6 i 0) 1
def dsS (a6:af)(i:Int):af:=delL a6 i (i+1)
end Go.V