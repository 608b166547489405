/- Plain facts. -/
import Derived.Test.YtpldpilhgjpkjaaGreatXW2
import Derived.Test.YtpldpilhgjpkjaaGreatXW1
set_option linter.all false
open Go
open BitVec renaming ofInt_natCast->Xg,toNat_ofNat->Y2
open Bool renaming and_eq_true->Zc,or_eq_true->Z4,and_false->Yh,not_eq_true->Wg,true_and->Yp,eq_iff_iff->XN
open Int renaming mul_nonneg->XL,mul_le_mul_of_nonneg_right->Xf,toNat_of_nonneg->Zr,add_mul->WR,ediv_nonneg->Wa,eq_ofNat_of_zero_le->Z9,mul_comm->We,le_refl->Yg,toNat_natCast->ZG
open IntKind renaming i64->Zs,i64->Za
open IntWalk renaming i64_in->YZ
open List renaming length_map->YQ,mem_append->Zg,length_append->Zf,append_assoc->Zp,length_cons->Zj,length_nil->Zk,mem_cons->Zl,mem_singleton->Z8,nodup_append->Zx,nodup_nil->ZQ,mergeSort_perm->WS,getD_eq_getElem?_getD->Zm,take_append_drop->ZR,take->Z7,drop->Ym,count_eq_zero->WT,take_length->Y1,drop_eq_getElem_cons->WU,getElem?_eq_getElem->Zu,nodup_iff_count->WV,count_pos_iff->WW,replicate->Zt,length_set->Zw,getElem_of_mem->Wj,mem_of_mem_drop->Yw,foldl_append->XO,foldl_cons->Y3,foldl_nil->Xx,all_eq_true->Z6,length_take->Zh,length_drop->Zn,mem_of_mem_take->Xh,drop_zero->YG,drop_succ_cons->XP
open List.Nodup renaming length_le_of_subset->VD
open List.Pairwise renaming nil->VB,imp₂->VC
open Nat renaming zero_le->ZB,lt_trichotomy->Wd,le_refl->Ze,le_trans->ZN,not_lt_zero->Xw
open Option.some renaming inj->YB
open Value renaming int->Zi
namespace Go.V
def AD (sp:af)(i:Int):Nat->List Int
 |0=>[]
 |n+1=>AD sp i n++(if hsB (ag sp i 2) n then[aaI (ag sp i 0) (ag sp i 1) (ag sp i 2) n]else[])
def zo (sp:af):Nat->List Int
 |0=>[]
 |n+1=>zo sp n++AD sp n (slN (ag sp n 1)).toNat
def Cs (lg:af):Nat->List Int
 |0=>[]
 |n+1=>Cs lg n++[ag lg n 0*16]
def Qb (sp lg:af):List Int:=zo sp sp.length++Cs lg lg.length
def iaL (sp lg:af):af:=if layOk sp lg then srtL (j8 (Qb sp lg))else[]
theorem wh {a b:Int}(h: -9223372036854775808<=a*b/\a*b<=9223372036854775807):bO .mul Za a b=a*b:=YZ _ h
theorem BS {l:af}:(srtL l).length=l.length:=by unfold srtL;rw[jp,List.length_mergeSort];unfold oE;rw[YQ]
def OV (l:List Int):Prop:=∀ x∈l,-1<=x/\x<=1000
theorem EA {a b:List Int}(h:OV a)(g:OV b):OV (a++b):=fun x hx=>by
 rcases Zg.1 hx with q|q;exact h x q;exact g x q
theorem MN {x:Int}(h: -1<=x/\x<=1000):OV [x]:=fun y hy=>by simp at hy;rw[hy];exact h
theorem adN {p k b s:Int}: -1<=aaI p k b s/\aaI p k b s<=1000:=by
 unfold aaI;by_cases h:Kp p k b s=true
 ·rw[VT h];unfold Kp at h;simp only[Zc]at h;have t:=li h.1;have c:=mz t.2.2.1;have s1:=be.1 h.2;have m0:0<=s*clsSz k:=XL (by omega) (by omega);have m1:s*clsSz k<=slN k*clsSz k:=Xf (by omega) (by omega);omega
 ·rw[VU h];omega
theorem zn {sp:af}{i k:Int}(h:0<=k):AD sp i (k+1).toNat=AD sp i k.toNat++(if hsB (ag sp i 2) k then[aaI (ag sp i 0) (ag sp i 1) (ag sp i 2) k]else[]):=by
 rw[show(k+1).toNat=k.toNat+1 from by omega,AD,Zr h]
theorem Ih {sp:af}{i:Int}(h:0<=i):zo sp (i+1).toNat=zo sp i.toNat++AD sp i (slN (ag sp i 1)).toNat:=by
 rw[show(i+1).toNat=i.toNat+1 from by omega,zo,Zr h]
theorem Dc {lg:af}{i:Int}(h:0<=i):Cs lg (i+1).toNat=Cs lg i.toNat++[ag lg i 0*16]:=by
 rw[show(i+1).toNat=i.toNat+1 from by omega,Cs,Zr h]
structure Sn (sp:af)(i:Int)(o:af):Prop where
 e:o=j8 (zo sp i.toNat)
 b:OV (zo sp i.toNat)
 l:(zo sp i.toNat).length<=16*i.toNat
structure Kk (sp:af)(i k:Int)(o:af):Prop where
 e:o=j8 (zo sp i.toNat++AD sp i k.toNat)
 b:OV (zo sp i.toNat++AD sp i k.toNat)
 l:(zo sp i.toNat).length<=16*i.toNat
 k:(AD sp i k.toNat).length<=k.toNat
structure ME (sp lg:af)(j:Int)(o:af):Prop where
 e:o=j8 (zo sp sp.length++Cs lg j.toNat)
 b:OV (zo sp sp.length++Cs lg j.toNat)
 l:(zo sp sp.length++Cs lg j.toNat).length<=16*sp.length+j.toNat
theorem aeW {sp:af}:Sn sp 0 []:=⟨rfl,(fun x hx=>by cases hx),ZB _⟩
theorem aeY {sp o:af}{i:Int}(h:Sn sp i o):Kk sp i 0 o:=
 ⟨by rw[h.e];simp[AD],by simpa[AD]using h.b,h.l,ZB _⟩
theorem Qe {sp o:af}{i k:Int}(h:Kk sp i k o):o.length<=16*i.toNat+k.toNat:=by
 have l:=h.l;have m:=h.k;rw[h.e,jp,Zf];omega
theorem Qf {sp o:af}{i k:Int}(h:Kk sp i k o)(k0:0<=k)(hh:hsB (ag sp i 2) k=true):Kk sp i (k+1) (o++[[.i (aaI (ag sp i 0) (ag sp i 1) (ag sp i 2) k)]]):=by
 have m:=h.k;have e:=h.e;refine⟨?_,?_,h.l,?_⟩
 ·rw[zn k0,VT hh, <-Zp,zT, <-e];rfl
 ·rw[zn k0,VT hh, <-Zp];exact EA h.b (MN adN)
 ·rw[zn k0,VT hh,Zf,Zj,Zk];omega
theorem aba {sp o:af}{i k:Int}(h:Kk sp i k o)(k0:0<=k)(hh:hsB (ag sp i 2) k=false):Kk sp i (k+1) o:=by
 have m:=h.k;have e:=h.e;have u:AD sp i (k+1).toNat=AD sp i k.toNat:=by rw[zn k0,hh];simp
 refine⟨?_,?_,h.l,?_⟩
 ·rw[u];exact e
 ·rw[u];exact h.b
 ·rw[u];omega
theorem afZ {sp lg:af}{i:Int}(hl:layOk sp lg=true)(h0:0<=i)(h1:i<sp.length):0<=slN (ag sp i 1)/\slN (ag sp i 1)<=16:=by
 have t:=li ((IA hl).1 i h0 h1);have c:=mz t.2.2.1;omega
theorem Qd {sp o:af}{i k:Int}(h:Kk sp i k o)(i0:0<=i)(k1:k<=slN (ag sp i 1))(k2:slN (ag sp i 1)<=k)(hs:0<=slN (ag sp i 1)/\slN (ag sp i 1)<=16):Sn sp (i+1) o:=by
 have ek:k=slN (ag sp i 1):=by omega
 have e:=h.e;have b:=h.b;have l:=h.l;have m:=h.k;rw[ek, <-Ih i0]at e b;rw[ek]at m;refine⟨e,b,?_⟩;rw[Ih i0,Zf];omega
theorem aeZ {sp lg o:af}{i:Int}(h:Sn sp i o)(h1:i<=sp.length)(h2:(sp.length:Int)<=i):ME sp lg 0 o:=by
 have ei:i.toNat=sp.length:=by omega
 have e:=h.e;have b:=h.b;have l:=h.l;rw[ei]at e b l;exact⟨by rw[e];simp[Cs],by simpa[Cs]using b,by simpa[Cs]using l⟩
theorem Ik {sp lg o:af}{j:Int}(h:ME sp lg j o):o.length<=16*sp.length+j.toNat:=by
 have l:=h.l;rw[h.e,jp];exact l
theorem afk {sp lg:af}{j:Int}(hl:layOk sp lg=true)(h0:0<=j)(h1:j<lg.length):0<=ag lg j 0/\ag lg j 0<=32:=by
 have t:=ma ((IA hl).2.1 j h0 h1);have b:=oP t.1;omega
theorem abc {sp lg o:af}{j:Int}(h:ME sp lg j o)(j0:0<=j)(hb:0<=ag lg j 0/\ag lg j 0<=32):ME sp lg (j+1) (o++[[.i (ag lg j 0*16)]]):=by
 have e:=h.e;have l:=h.l;refine⟨?_,?_,?_⟩
 ·rw[Dc j0, <-Zp,zT, <-e];rfl
 ·rw[Dc j0, <-Zp];exact EA h.b (MN (by omega))
 ·rw[Dc j0, <-Zp,Zf,Zj,Zk];omega
theorem abb {sp lg o:af}{j:Int}(h:ME sp lg j o)(h1:sp.length<=1073741824)(h2:j<=1073741824):Rw [tI] o/\o.length<=70368744177664:=by
 have l:=Ik h;refine⟨?_,by omega⟩;have e:=h.e;have l2:=h.l;rw[e];exact Ju (fun x hx=>by have:=h.b x hx;omega) (by omega)
theorem Qg {sp lg o:af}{j:Int}(h:ME sp lg j o)(j1:j<=lg.length)(j2:(lg.length:Int)<=j)(hl:layOk sp lg=true):srtL o=iaL sp lg:=by
 have ej:j.toNat=lg.length:=by omega
 have e:=h.e;rw[ej]at e;unfold iaL Qb;rw[VT hl, <-e]
theorem aeX {sp lg:af}(hl:layOk sp lg=false):([]:af)=iaL sp lg:=by unfold iaL;rw[hl];rfl
end Go.V
namespace Go.V
theorem ve:∀ {a b:List Int},a.Pairwise (· < ·)->b.Pairwise (· < ·)->(∀ x,x∈a↔x∈b)->a=b
 |[],[],_,_,_=>rfl
 |[],y::b,_,_,h=>by have:=(h y).2 (by simp);simp at this
 |x::a,[],_,_,h=>by have:=(h x).1 (by simp);simp at this
 | x::a,y::b,ha,hb,h=>by
   rw[List.pairwise_cons]at ha hb;have e:x=y:=by
    rcases Zl.1 ((h x).1 (by simp))with q|q;exact q
    ·rcases Zl.1 ((h y).2 (by simp))with r|r;exact r.symm
     ·have:=hb.1 x q;have:=ha.1 y r;omega
   subst e;rw[ve ha.2 hb.2 (fun z=>?_)]
   constructor
   ·intro m;rcases Zl.1 ((h z).1 (by simp[m]))with q|q
    ·have:=ha.1 z m;omega
    ·exact q
   ·intro m;rcases Zl.1 ((h z).2 (by simp[m]))with q|q
    ·have:=hb.1 z m;omega
    ·exact q
theorem uN {sp:af}{x:Int}:∀ {n:Nat},x∈mP sp n↔∃ i:Nat,i<n/\ag sp i 0=x
 |0=>by simp[mP]
 | n+1=>by
   rw[mP,Zg,uN,Z8]
   constructor
   ·rintro(⟨i,h,e⟩|rfl);exact⟨i,by omega,e⟩;exact⟨n,by omega,rfl⟩
   ·rintro⟨i,h,e⟩;by_cases c:i=n
    ·subst c;exact .inr e.symm
    ·exact .inl ⟨i,by omega,e⟩
theorem zA {p x:Int}:∀ {n:Nat},x∈tN p n↔p<=x/\x<p+n
 |0=>⟨(fun h=>by cases h),(fun h=>absurd h (by omega))⟩
 | n+1=>by
   rw[tN,Zg,zA,Z8];omega
theorem uM {lg:af}{x:Int}:∀ {n:Nat},x∈nS lg n↔∃ j:Nat,j<n/\ag lg j 0<=x/\x<ag lg j 0+(ag lg j 1).toNat
 |0=>by simp[nS]
 | n+1=>by
   rw[nS,Zg,uM,zA]
   constructor
   ·rintro(⟨i,h,e⟩|h);exact⟨i,by omega,e⟩;exact⟨n,by omega,h⟩
   ·rintro⟨i,h,e⟩;by_cases c:i=n
    ·subst c;exact .inr e
    ·exact .inl ⟨i,by omega,e⟩
theorem JH {sp:af}:∀ {n:Nat},(mP sp n).Nodup->∀ i i':Nat,i<i'->i'<n->ag sp i 0≠ag sp i' 0
 |0,_,i,i',_,h=>by omega
 | n+1,hn,i,i',h1,h2=>by
   rw[mP,Zx]at hn;by_cases c:i'=n
   ·subst c;exact hn.2.2 _ (uN.2 ⟨i,h1,rfl⟩) _ (by simp)
   ·exact JH hn.1 i i' h1 (by omega)
theorem IF {lg:af}:∀ {n:Nat},(nS lg n).Nodup->∀ (j j':Nat) (x:Int),j<j'->j'<n->ag lg j 0<=x->x<ag lg j 0+(ag lg j 1).toNat->ag lg j' 0<=x->x<ag lg j' 0+(ag lg j' 1).toNat->False
 |0,_,j,j',x,_,h,_,_,_,_=>by omega
 | n+1,hn,j,j',x,h1,h2,a,b,c,d=>by
   rw[nS,Zx]at hn;by_cases e:j'=n
   ·subst e;exact hn.2.2 x (uM.2 ⟨j,h1,a,b⟩) x (zA.2 ⟨c,d⟩) rfl
   ·exact IF hn.1 j j' x h1 (by omega) a b c d
structure MG (sp lg:af):Prop where
 s:∀ i:Nat,i<sp.length->spOk (ag sp i 0) (ag sp i 1) (ag sp i 2)=true
 l:∀ j:Nat,j<lg.length->lgOk (ag lg j 0) (ag lg j 1) (ag lg j 2)=true
 ss:∀ i i':Nat,i<sp.length->i'<sp.length->ag sp i 0=ag sp i' 0->i=i'
 sl:∀ i j:Nat,i<sp.length->j<lg.length->ag lg j 0<=ag sp i 0->ag sp i 0<ag lg j 0+ag lg j 1->False
 ll:∀ (j j':Nat) (x:Int),j<lg.length->j'<lg.length->ag lg j 0<=x->x<ag lg j 0+ag lg j 1->ag lg j' 0<=x->x<ag lg j' 0+ag lg j' 1->j=j'
theorem LC {sp lg:af}(h:layOk sp lg=true):MG sp lg:=by
 obtain⟨h1,h2,h3⟩:=IA h;unfold BF at h3;rw[Zx]at h3;have n0:∀ j:Nat,j<lg.length->((ag lg j 1).toNat:Int)=ag lg j 1:=fun j hj=>by
  have t:=ma (h2 j (by omega) (by omega));have b:=oP t.1;omega
 refine⟨fun i hi=>h1 i (by omega) (by omega),fun j hj=>h2 j (by omega) (by omega),fun i i' a b e=>?_,fun i j a b c d=>?_,fun j j' x a b c d e f=>?_⟩
 ·rcases Wd i i' with q|q|q;exact absurd e (JH h3.1 i i' q b);exact q;exact absurd e.symm (JH h3.1 i' i q a)
 ·exact h3.2.2 _ (uN.2 ⟨i,a,rfl⟩) _ (uM.2 ⟨j,b,c,by rw[n0 j b];exact d⟩) rfl
 ·rcases Wd j j' with q|q|q;exact(IF h3.2.1 j j' x q b c (by rw[n0 j a];exact d) e (by rw[n0 j' b];exact f)).elim;exact q;exact(IF h3.2.1 j' j x q a e (by rw[n0 j' b];exact f) c (by rw[n0 j a];exact d)).elim
theorem nW {p k b s:Int}(h:spOk p k b=true)(h0:0<=s)(h1:s<slN k):aaI p k b s=p*16+s*clsSz k/\0<=s*clsSz k/\s*clsSz k+clsSz k<=16/\1<=clsSz k:=by
 have t:=li h;have c:=mz t.2.2.1;have a:Kp p k b s=true:=by unfold Kp;rw[h,be.2 ⟨h0,by omega⟩];rfl
 have m0:0<=s*clsSz k:=XL h0 (by omega);have m1:(s+1)*clsSz k<=slN k*clsSz k:=Xf (by omega) (by omega);rw[WR]at m1;unfold aaI;rw[VT a];exact⟨rfl,m0,by omega,by omega⟩
theorem uK {sp:af}{i x:Int}:∀ {n:Nat},x∈AD sp i n↔∃ k:Nat,k<n/\hsB (ag sp i 2) k=true/\x=aaI (ag sp i 0) (ag sp i 1) (ag sp i 2) k
 |0=>by simp[AD]
 | n+1=>by
   rw[AD,Zg,uK]
   constructor
   ·rintro(⟨k,h,e⟩|h);exact⟨k,by omega,e⟩
    ·by_cases c:hsB (ag sp i 2) n=true
     ·rw[VT c,Z8]at h;exact⟨n,by omega,c,h⟩
     ·rw[VU c]at h;simp at h
   ·rintro⟨k,h,c,e⟩;by_cases q:k=n
    ·subst q;rw[VT c];exact .inr (by simp[e])
    ·exact .inl ⟨k,by omega,c,e⟩
theorem uL {sp:af}{x:Int}:∀ {n:Nat},x∈zo sp n↔∃ i k:Nat,i<n/\k<(slN (ag sp i 1)).toNat/\hsB (ag sp i 2) k=true/\x=aaI (ag sp i 0) (ag sp i 1) (ag sp i 2) k
 |0=>by simp[zo]
 | n+1=>by
   rw[zo,Zg,uL,uK]
   constructor
   ·rintro(⟨i,k,h,e⟩|⟨k,h⟩);exact⟨i,k,by omega,e⟩;exact⟨n,k,by omega,h⟩
   ·rintro⟨i,k,h,e⟩;by_cases q:i=n
    ·subst q;exact .inr ⟨k,e⟩
    ·exact .inl ⟨i,k,by omega,e⟩
theorem uJ {lg:af}{x:Int}:∀ {n:Nat},x∈Cs lg n↔∃ j:Nat,j<n/\x=ag lg j 0*16
 |0=>by simp[Cs]
 | n+1=>by
   rw[Cs,Zg,uJ,Z8]
   constructor
   ·rintro(⟨i,h,e⟩|h);exact⟨i,by omega,e⟩;exact⟨n,by omega,h⟩
   ·rintro⟨i,h,e⟩;by_cases q:i=n
    ·subst q;exact .inr e
    ·exact .inl ⟨i,by omega,e⟩
theorem Dd {sp:af}{i:Nat}(h:spOk (ag sp i 0) (ag sp i 1) (ag sp i 2)=true):∀ {n:Nat},n<=(slN (ag sp i 1)).toNat->(AD sp i n).Nodup
 |0,_=>ZQ
 | n+1,hn=>by
   rw[AD];by_cases c:hsB (ag sp i 2) n=true
   ·rw[VT c];refine q7 (Dd h (by omega)) (fun m=>?_);obtain⟨k,k1,_,k3⟩:=uK.1 m;have a:=nW (s:=(n:Int)) h (by omega) (by omega);have b:=nW (s:=(k:Int)) h (by omega) (by omega);have q:((k:Int)+1)*clsSz (ag sp i 1)<=(n:Int)*clsSz (ag sp i 1):=Xf (by omega) (by omega);rw[WR]at q;omega
   ·rw[VU c,List.append_nil];exact Dd h (by omega)
theorem Ig {sp lg:af}(F:MG sp lg):∀ {n:Nat},n<=sp.length->(zo sp n).Nodup
 |0,_=>ZQ
 | n+1,hn=>by
   rw[zo,Zx];refine⟨Ig F (by omega),Dd (F.s n (by omega)) (Ze _),fun x hx y hy e=>?_⟩;subst e;obtain⟨i,k,i1,k1,_,e1⟩:=uL.1 hx;obtain⟨k',k2,_,e2⟩:=uK.1 hy;have a:=nW (s:=(k:Int)) (F.s i (by omega)) (by omega) (by omega);have b:=nW (s:=(k':Int)) (F.s n (by omega)) (by omega) (by omega);have:=F.ss i n (by omega) (by omega) (by omega);omega
theorem Ie {sp lg:af}(F:MG sp lg):∀ {n:Nat},n<=lg.length->(Cs lg n).Nodup
 |0,_=>ZQ
 | n+1,hn=>by
   rw[Cs];refine q7 (Ie F (by omega)) (fun m=>?_);obtain⟨j,j1,e⟩:=uJ.1 m;have t:=ma (F.l j (by omega));have b:=oP t.1;have t':=ma (F.l n (by omega));have b':=oP t'.1;have:=F.ll j n (ag lg j 0) (by omega) (by omega) (by omega) (by omega) (by omega) (by omega);omega
theorem Qc {sp lg:af}(F:MG sp lg):(Qb sp lg).Nodup:=by
 unfold Qb;rw[Zx];refine⟨Ig F (Ze _),Ie F (Ze _),fun x hx y hy e=>?_⟩;subst e;obtain⟨i,k,i1,k1,_,e1⟩:=uL.1 hx;obtain⟨j,j1,e2⟩:=uJ.1 hy;have a:=nW (s:=(k:Int)) (F.s i (by omega)) (by omega) (by omega);have t:=ma (F.l j (by omega));have b:=oP t.1;exact F.sl i j i1 j1 (by omega) (by omega)
end Go.V
namespace Go.V
theorem fV {p:Int->Bool}{n:Nat}(h:0<=cQ p n):cQ p n<n/\p (cQ p n)=true:=by
 refine⟨by rcases qP (p:=p) (n:=n)with q|q<;>omega,?_⟩;unfold cQ at h ⊢;split at h
 ·rename_i j e;have q:=List.find?_some e;exact q
 ·omega
theorem vQ {p:Int->Bool}{n i:Nat}(h:i<n)(hp:p i=true):0<=cQ p n:=by
 unfold cQ;split;omega
 ·rename_i e;rw[List.find?_eq_none]at e;exact absurd hp (e i (List.mem_range.2 h))
theorem wK {sp:af}{a i:Int}:yD sp a i=true↔Ct (ag sp i 0) (ag sp i 1) (ag sp i 2) a=true:=by
 unfold yD;rw[VR]
 constructor
 ·intro h;cases c:Ct (ag sp i 0) (ag sp i 1) (ag sp i 2) a with
  |true=>rfl
  |false=>rw[(Jv c).1]at h;omega
 ·intro h;obtain⟨h1,h2,h3⟩:=sK.1 h;have cb:=mz (li h1).2.2.1;rw[(wL h).1];exact Wa (by omega) (by omega)
def lvP (sp lg:af)(x:Int):Prop:=(∃ i k:Nat,i<sp.length/\k<(slN (ag sp i 1)).toNat/\hsB (ag sp i 2) k=true/\x=aaI (ag sp i 0) (ag sp i 1) (ag sp i 2) k)\/∃ j:Nat,j<lg.length/\x=ag lg j 0*16
theorem Fl {sp lg:af}{x:Int}:x∈Qb sp lg↔lvP sp lg x:=by
 unfold Qb lvP;rw[Zg,uL,uJ]
theorem Pw {sp lg:af}{a:Int}(h:0<=gn sp a):dnK sp lg a=(if hsB (ag sp (gn sp a) 2) (xv sp a (gn sp a))then 1 else 2)/\dnO sp lg a=Mi sp a (gn sp a):=by
 unfold dnK dnO;rw[VT h,VT h];exact⟨rfl,rfl⟩
theorem Pv {sp lg:af}{a:Int}(h:¬ 0<=gn sp a)(g:0<=k9 lg a):dnK sp lg a=3/\dnO sp lg a=SF lg a (k9 lg a):=by
 unfold dnK dnO;rw[VU h,VU h,VT g,VT g];exact⟨rfl,rfl⟩
theorem ad8 {sp lg:af}{a:Int}(h:¬ 0<=gn sp a)(g:¬ 0<=k9 lg a):dnK sp lg a=0/\dnO sp lg a=0:=by
 unfold dnK dnO;rw[VU h,VU h,VU g,VU g];exact⟨rfl,rfl⟩
theorem Fe {sp lg:af}{a:Int}(hl:layOk sp lg=true):Fc sp lg a=true↔dnO sp lg a=0/\(dnK sp lg a=1\/dnK sp lg a=3):=by
 unfold Fc dzO dzK;rw[VT hl,VT hl];simp only[Zc,Z4,VR]
theorem Nz {sp lg:af}{x:Int}(F:MG sp lg)(hl:layOk sp lg=true)(h:Fc sp lg x=true):lvP sp lg x:=by
 obtain⟨h1,h2⟩:=(Fe hl).1 h;by_cases c:0<=gn sp x
 ·obtain⟨d1,d2⟩:=Pw (lg:=lg) c;obtain⟨b,q⟩:=fV c;change gn sp x<sp.length at b;change yD sp x (gn sp x)=true at q;rw[d1]at h2;rw[d2]at h1;generalize hF:gn sp x=f at*;obtain⟨f,rfl⟩:=Z9 c;have bf:f<sp.length:=by omega
  have q':=wK.1 q;obtain⟨a1,a2,a3⟩:=sK.1 q';obtain⟨e1,e2⟩:=wL q';have cb:=mz (li a1).2.2.1;have hh:hsB (ag sp f 2) (xv sp x f)=true:=by
   cases c:hsB (ag sp f 2) (xv sp x f)with
   |true=>rfl
   |false=>rw[c]at h2;simp at h2
  unfold Mi at h1;rw[e2]at h1;unfold xv at hh;rw[e1]at hh;have dv:clsSz (ag sp f 1)*((x-ag sp f 0*16)/clsSz (ag sp f 1))=x-ag sp f 0*16:=Int.mul_ediv_cancel_of_emod_eq_zero h1;have nn:0<=(x-ag sp f 0*16)/clsSz (ag sp f 1):=Wa (by omega) (by omega);generalize hs:(x-ag sp f 0*16)/clsSz (ag sp f 1)=s at*;have lt:s<slN (ag sp f 1):=by
   by_cases w:s<slN (ag sp f 1);exact w
   ·have m:slN (ag sp f 1)*clsSz (ag sp f 1)<=s*clsSz (ag sp f 1):=Xf (by omega) (by omega);rw[We s]at m;omega
  obtain⟨s,rfl⟩:=Z9 nn;have ae:=nW a1 nn lt;refine .inl ⟨f,s,bf,by omega,hh,?_⟩;have ae1:=ae.1;rw[We (s:Int)]at ae1;show x=aaI (ag sp f 0) (ag sp f 1) (ag sp f 2) s;rw[ae1];omega
 ·by_cases g:0<=k9 lg x
  ·obtain⟨d1,d2⟩:=Pv c g;obtain⟨b,q⟩:=fV g;change k9 lg x<lg.length at b;change yq lg x (k9 lg x)=true at q;rw[d2]at h1;generalize hF:k9 lg x=f at*;obtain⟨f,rfl⟩:=Z9 g;refine .inr ⟨f,by omega,?_⟩;unfold SF loI at h1;unfold yq at q;rw[VT q]at h1;show x=ag lg f 0*16;omega
  ·obtain⟨d1,d2⟩:=ad8 c g;rw[d1]at h2;omega
theorem Nf {sp lg:af}{x:Int}(h:0<=gn sp x):∃ f:Nat,gn sp x=f/\f<sp.length/\Ct (ag sp f 0) (ag sp f 1) (ag sp f 2) x=true:=by
 obtain⟨b,q⟩:=fV h;obtain⟨f,e⟩:=Z9 h;refine⟨f,e,?_,?_⟩
 ·have:gn sp x<sp.length:=b;rw[e]at this;exact Int.ofNat_lt.1 this
 ·have:yD sp x (gn sp x)=true:=q;rw[e]at this;exact wK.1 this
theorem abE {sp lg:af}{x:Int}(F:MG sp lg)(hl:layOk sp lg=true)(h:lvP sp lg x):Fc sp lg x=true:=by
 rw[Fe hl];rcases h with⟨i,k,i1,k1,hh,e⟩|⟨j,j1,e⟩
 ·have a1:=F.s i i1;have cb:=mz (li a1).2.2.1;have ae:=nW (s:=(k:Int)) a1 (by omega) (by omega);have sb:Ct (ag sp i 0) (ag sp i 1) (ag sp i 2) x=true:=sK.2 ⟨a1,by omega,by omega⟩;have c:0<=gn sp x:=vQ i1 (wK.2 sb);obtain⟨f,e1,f1,f2⟩:=Nf (lg:=lg) c;obtain⟨_,g2,g3⟩:=sK.1 f2;have:f=i:=F.ss f i f1 i1 (by omega);subst this;obtain⟨d1,d2⟩:=Pw (lg:=lg) c;rw[d1,d2,e1];obtain⟨y1,y2⟩:=wL sb;have xe:x-ag sp f 0*16=k*clsSz (ag sp f 1):=by omega
  unfold xv Mi;rw[y1,y2,xe,Int.mul_ediv_cancel _ (by omega),VT hh];exact⟨Int.mul_emod_left _ _,.inl rfl⟩
 ·have t:=ma (F.l j j1);have b:=oP t.1;have r:=be.1 t.1;have c:¬ 0<=gn sp x:=fun c=>by
   obtain⟨f,e1,f1,f2⟩:=Nf (lg:=lg) c;obtain⟨_,g2,g3⟩:=sK.1 f2;exact F.sl f j f1 j1 (by omega) (by omega)
  have lb:lhB (ag lg j 0) (ag lg j 1) (ag lg j 2) x=true:=QD.2 ⟨F.l j j1,by omega,by omega⟩;have g:0<=k9 lg x:=vQ j1 (show yq lg x j=true from lb);obtain⟨d1,d2⟩:=Pv c g;obtain⟨b1,q⟩:=fV g;change k9 lg x<lg.length at b1;change yq lg x (k9 lg x)=true at q;rw[d1,d2];generalize hF:k9 lg x=f at*;obtain⟨f,rfl⟩:=Z9 g;have f1:f<lg.length:=by omega
  have q':lhB (ag lg f 0) (ag lg f 1) (ag lg f 2) x=true:=q;obtain⟨_,u1,u2⟩:=QD.1 q';have t2:=ma (F.l f f1);have b2:=oP t2.1;have:f=j:=F.ll f j (ag lg j 0) f1 j1 (by omega) (by omega) (by omega) (by omega);subst this;refine⟨?_,.inr rfl⟩;show loI (ag lg f 0) (ag lg f 1) (ag lg f 2) x=0;unfold loI;rw[VT lb];omega
def Nx (sp lg:af):Nat->List Int
 |0=>[]
 |n+1=>Nx sp lg n++(if Fc sp lg n then[(n:Int)]else[])
theorem v6 {sp lg:af}:∀ n:Nat,Qv sp lg n=j8 (Nx sp lg n)
 |0=>rfl
 | n+1=>by
   rw[Qv,Nx,zT,v6 n];by_cases c:Fc sp lg n=true
   ·rw[VT c,VT c];rfl
   ·rw[VU c,VU c];rfl
theorem qX {sp lg:af}{x:Int}:∀ {n:Nat},x∈Nx sp lg n↔0<=x/\x<n/\Fc sp lg x=true
 |0=>⟨(fun h=>by cases h),(fun h=>absurd h.2.1 (by omega))⟩
 | n+1=>by
   rw[Nx,Zg,qX]
   constructor
   ·rintro(h|h);exact⟨h.1,by omega,h.2.2⟩
    ·by_cases c:Fc sp lg n=true
     ·rw[VT c,Z8]at h;subst h;exact⟨by omega,by omega,c⟩
     ·rw[VU c]at h;cases h
   ·rintro⟨h1,h2,h3⟩;by_cases q:x=n
    ·subst q;rw[VT h3];exact .inr (by simp)
    ·exact .inl ⟨h1,by omega,h3⟩
theorem DY {sp lg:af}:∀ n:Nat,(Nx sp lg n).Pairwise (· < ·)
 |0=>VB
 | n+1=>by
   rw[Nx,List.pairwise_append];refine⟨DY n,?_,fun a ha b hb=>?_⟩
   ·by_cases c:Fc sp lg n=true
    ·rw[VT c];simp
    ·rw[VU c];simp
   ·have m:=qX.1 ha;by_cases c:Fc sp lg n=true
    ·rw[VT c,Z8]at hb;omega
    ·rw[VU c]at hb;cases hb
theorem LY {l:List Int}(h:l.Nodup):(l.mergeSort fun x y=>decide (x<=y)).Pairwise (· < ·):=by
 have p:=List.pairwise_mergeSort (le:=fun x y:Int=>decide (x<=y)) (fun a b c h1 h2=>by simp only[VR]at*;omega) (fun a b=>by simp only[Z4,VR];omega) l;have n:(l.mergeSort fun x y=>decide (x<=y)).Nodup:=(WS l _).nodup_iff.2 h;refine VC (R:=fun a b=>decide (a<=b)=true) (S:=(· ≠ ·)) (T:=(· < ·)) (fun a b h1 h2=>?_) p n;simp only[VR]at h1;omega
theorem LB {sp lg:af}:iaL sp lg=xt sp lg:=by
 unfold iaL xt;by_cases hl:layOk sp lg=true
 ·rw[VT hl,VT hl];have F:=LC hl;unfold srtL;rw[Dk,v6];refine congrArg j8 (ve (LY (Qc F)) (DY 512) (fun x=>?_));rw[(WS _ _).mem_iff,Fl,qX]
  constructor
  ·intro h;have v:=abE F hl h;refine⟨?_,?_,v⟩
   ·rcases h with⟨i,k,i1,k1,_,e⟩|⟨j,j1,e⟩
    ·have ae:=nW (s:=(k:Int)) (F.s i i1) (by omega) (by omega);have t:=li (F.s i i1);omega
    ·have t:=ma (F.l j j1);omega
   ·rcases h with⟨i,k,i1,k1,_,e⟩|⟨j,j1,e⟩
    ·have ae:=nW (s:=(k:Int)) (F.s i i1) (by omega) (by omega);have t:=li (F.s i i1);omega
    ·have t:=ma (F.l j j1);have b:=oP t.1;omega
  ·rintro⟨_,_,h⟩;exact Nz F hl h
 ·rw[VU hl,VU hl]
end Go.V
namespace Go.V
def Dl (qs:af)(a j:Int):Bool:=eqB (ag qs j 0) a
def qtI (qs:af)(a:Int):Int:=cQ (Dl qs a) qs.length
def qtB (qs:af)(a:Int):Bool:=decide (0<=qtI qs a)
end Go.V
namespace Go.V
structure OI (ls:af):Prop where
 w:Rw [.sl [tI]] ls
 l:ls.length<=1099511627776
 n:∀ i:Int,(aw ls i 0).length<=1099511627776
theorem OI.el {ls:af}(h:OI ls){i:Int}(h0:0<=i)(h1:i<ls.length):Rw [tI] (aw ls i 0)/\(aw ls i 0).length<=1099511627776:=
 ⟨Rw.sub (fs:=[.sl [tI]]) h.w (by omega) rfl,h.n i⟩
end Go.V
namespace Go.V
def GW (b:af)(i k:Int):Bool:=inR (ag (aw b i 0) k 0) 0 ((b.length:Int)-1)&&decide (0<=ag (aw b i 0) k 1)
def Ko (x:af)(i k:Int):Bool:=decide (0<=ag (aw x i 0) k 0)
def Rl (b x:af)(i:Int):Bool:=cT (GW b i) (aw b i 0).length&&cT (Ko x i) (aw x i 0).length
def LI (b x:af):Nat->Int
 |0=>0
 |n+1=>LI b x n+((aw b n 0).length+(aw x n 0).length)
def mailOk (b x:af):Bool:=inR b.length 1 4&&(decide (x.length=b.length)&&(cT (Rl b x) b.length&&decide (LI b x b.length<=30)))
structure GO (b x:af):Prop where
 bw:Rw [.sl [tI,tI]] b
 xw:Rw [.sl [tI]] x
 bl:b.length<=1099511627776
 xl:x.length<=1099511627776
 bn:∀ i:Int,(aw b i 0).length<=1099511627776
 xn:∀ i:Int,(aw x i 0).length<=1099511627776
theorem ND {b x:af}(h:GO b x):∀ n:Nat,0<=LI b x n/\LI b x n<=2199023255552*n
 |0=>⟨Yg _,Yg _⟩
 | n+1=>by
   have q:=ND h n;have p1:=h.bn n;have p2:=h.xn n;rw[LI];omega
structure OH (b x:af)(i t:Int):Prop where
 ok:upto (Rl b x) i
 t:t=LI b x i.toNat
theorem afp {b x:af}:OH b x 0 0:=⟨cg,rfl⟩
theorem afq {b x:af}{i t:Int}(N:GO b x)(h:OH b x i t)(i0:0<=i)(i1:i<=4):0<=t/\t<=8796093022208:=by
 have q:=ND N i.toNat;have e:=h.t;omega
theorem abH {b x:af}{i t k j:Int}(h:OH b x i t)(i0:0<=i)(hp:upto (GW b i) k)(k1:((aw b i 0).length:Int)<=k)(ha:upto (Ko x i) j)(j1:((aw x i 0).length:Int)<=j):OH b x (i+1) (t+((aw b i 0).length+(aw x i 0).length)):=by
 refine⟨bN h.ok ?_,?_⟩
 ·unfold Rl;rw[cu hp k1,cu ha j1];rfl
 ·rw[show(i+1).toNat=i.toNat+1 from by omega,LI, <-h.t,Zr i0]
theorem QN {b x:af}(h:inR b.length 1 4=false):mailOk b x=false:=by unfold mailOk;rw[h];rfl
theorem QO {b x:af}(h:(x.length:Int)≠b.length):mailOk b x=false:=by
 unfold mailOk;rw[VQ (p:=x.length=b.length) (by omega)];simp
theorem NC {b x:af}{i:Int}(i0:0<=i)(i1:i<b.length)(h:Rl b x i=false):mailOk b x=false:=by
 unfold mailOk;rw[cN i0 i1 h];simp
theorem II {b x:af}{i k:Int}(i0:0<=i)(i1:i<b.length)(k0:0<=k)(k1:k<(aw b i 0).length)(h:GW b i k=false):mailOk b x=false:=
 NC i0 i1 (by unfold Rl;rw[cN k0 k1 h];rfl)
theorem QP {b x:af}{i k:Int}(i0:0<=i)(i1:i<b.length)(k0:0<=k)(k1:k<(aw x i 0).length)(h:Ko x i k=false):mailOk b x=false:=
 NC i0 i1 (by unfold Rl;rw[cN k0 k1 h,Yh])
theorem QM {b x:af}{i t:Int}(h:OH b x i t)(h1:inR b.length 1 4=true)(h2:(x.length:Int)=b.length)(i1:i<=b.length)(i2:(b.length:Int)<=i):mailOk b x=decide (t<=30):=by
 have e:i.toNat=b.length:=by omega
 have q:=h.t;rw[e]at q;unfold mailOk;rw[h1,VP (p:=x.length=b.length) (by omega),cu h.ok i2, <-q];rfl
theorem acb {b:af}{i k:Int}(h:inR (ag (aw b i 0) k 0) 0 ((b.length:Int)-1)=false):GW b i k=false:=by unfold GW;rw[h];rfl
theorem acd {b:af}{i k:Int}(h:ag (aw b i 0) k 1<0):GW b i k=false:=by unfold GW;rw[VQ (by omega),Yh]
theorem ace {b:af}{i k:Int}(h:inR (ag (aw b i 0) k 0) 0 ((b.length:Int)-1)=true)(g:0<=ag (aw b i 0) k 1):GW b i k=true:=by unfold GW;rw[h,VP g];rfl
theorem adM {x:af}{i k:Int}(h:ag (aw x i 0) k 0<0):Ko x i k=false:=by unfold Ko;rw[VQ (by omega)]
theorem SZ {x:af}{i k:Int}(h:0<=ag (aw x i 0) k 0):Ko x i k=true:=by unfold Ko;rw[VP h]
end Go.V
namespace Go.V
def M9 (b:af)(i:Int):Nat->af
 |0=>[]
 |n+1=>M9 b i n++[[.i (ag (aw b i 0) n 1)]]
def GT (b:af):Nat->af
 |0=>[]
 |n+1=>GT b n++M9 b n (aw b n 0).length
def Cr (x:af):Nat->af
 |0=>[]
 |n+1=>Cr x n++aw x n 0
def ifL (b x:af):af:=if mailOk b x then GT b b.length++Cr x x.length else[]
theorem IJ {b x:af}(h:mailOk b x=true):b.length<=4/\x.length=b.length:=by
 unfold mailOk at h;simp only[Zc,VR,be]at h;omega
structure Sd (b:af)(i:Int)(o:af):Prop where
 e:o=GT b i.toNat
 l:o.length<=1099511627776*i.toNat
structure Se (b:af)(i k:Int)(o:af):Prop where
 e:o=GT b i.toNat++M9 b i k.toNat
 l:o.length<=1099511627776*i.toNat+k.toNat
structure Sf (b x:af)(j:Int)(o:af):Prop where
 e:o=GT b b.length++Cr x j.toNat
 l:o.length<=1099511627776*b.length+1099511627776*j.toNat
theorem aed {b:af}:Sd b 0 []:=⟨rfl,ZB _⟩
theorem aen {b o:af}{i:Int}(h:Sd b i o):Se b i 0 o:=⟨by rw[h.e];simp[M9],by have:=h.l;omega⟩
theorem aam {b o:af}{i k:Int}(h:Se b i k o)(k0:0<=k):Se b i (k+1) (o++[[.i (ag (aw b i 0) k 1)]]):=by
 have l:=h.l;have e:=h.e;refine⟨?_,?_⟩
 ·rw[show(k+1).toNat=k.toNat+1 from by omega,M9,Zr k0, <-Zp, <-e]
 ·rw[Zf,Zj,Zk];omega
theorem PM {b o:af}{i k:Int}(h:Se b i k o)(i0:0<=i)(hn:(aw b i 0).length<=1099511627776)(k1:k<=((aw b i 0).length:Int))(k2:((aw b i 0).length:Int)<=k):Sd b (i+1) o:=by
 have l:=h.l;have e:=h.e;have ek:k.toNat=(aw b i 0).length:=by omega
 refine⟨?_,by omega⟩;rw[show(i+1).toNat=i.toNat+1 from by omega,GT,Zr i0, <-ek];exact e
theorem aep {b x o:af}{i:Int}(h:Sd b i o)(i1:i<=b.length)(i2:(b.length:Int)<=i):Sf b x 0 o:=by
 have l:=h.l;have e:=h.e;have ei:i.toNat=b.length:=by omega
 rw[ei]at e l;exact⟨by rw[e];simp[Cr],by omega⟩
theorem aaA {b x o:af}{j:Int}(h:Sf b x j o)(j0:0<=j)(hn:(aw x j 0).length<=1099511627776):Sf b x (j+1) (o++aw x j 0):=by
 have l:=h.l;have e:=h.e;refine⟨?_,?_⟩
 ·rw[show(j+1).toNat=j.toNat+1 from by omega,Cr,Zr j0, <-Zp, <-e]
 ·rw[Zf];omega
theorem PZ {b x o:af}{j:Int}(h:Sf b x j o)(hm:mailOk b x=true)(j1:j<=x.length)(j2:(x.length:Int)<=j):o=ifL b x:=by
 have e:=h.e;rw[show j.toNat=x.length from by omega]at e;unfold ifL;rw[VT hm];exact e
theorem ae0 {b x:af}(hm:mailOk b x=false):([]:af)=ifL b x:=by unfold ifL;rw[hm];rfl
end Go.V
namespace Go.V
structure NsC (cs:af):Prop where
 w:Rw [.sl [.sl [tI]]] cs
 l:cs.length<=1099511627776
 n:∀ i:Int,0<=i->i<cs.length->OI (aw cs i 0)
end Go.V
namespace Go.V
theorem xX:∀ {fs:List Ty} {e:aT} {j:Nat},bR fs e->fs[j]?=some tI->∃ n,e[j]?=some (.i n)/\ -9223372036854775808<=n/\n<=9223372036854775807
 |[],_,j,_,h=>by simp at h
 |_::_,[],j,h,_=>h.elim
 | t::ts,l::ls,0,h,e=>by
   simp at e;subst e;have h1:=h.1;cases l with
   | v x=>cases x with
     |int k n=>simp only[dq]at h1;exact⟨n,by simp[h1.1],ae2 h1.2⟩
     |_=>simp[dq]at h1
   |_=>simp[dq]at h1
 | t::ts,l::ls,j+1,h,e=>by
   simp at e;obtain⟨n,h1,h2⟩:=xX h.2 e;exact⟨n,by simpa using h1,h2⟩
theorem yl {fs:List Ty}{es:af}{i:Int}{j:Nat}(h:Rw fs es)(hj:fs[j]?=some tI)(h1:i.toNat<es.length): -9223372036854775808<=ag es i j/\ag es i j<=9223372036854775807:=by
 obtain⟨n,e,b⟩:=xX (h.at h1) hj;unfold ag;rw[Zm (l:=es.getD i.toNat []),e];exact b
theorem Ry {x:Int}(h: -9223372036854775808<=x/\x<=9223372036854775807):Rw [tI] [[.i x]]:=Rw.one (fs:=[tI]) ⟨⟨rfl,h⟩,trivial⟩
def SI (os:af)(f:Nat):Nat->af
 |0=>[]
 |n+1=>SI os f n++[[.i (ag os n f)]]
def clR (ls:af):Nat->af
 |0=>[]
 |n+1=>clR ls n++aw ls n 0
def ccR (cs:af):Nat->af
 |0=>[]
 |n+1=>ccR cs n++clR (aw cs n 0) (aw cs n 0).length
theorem vW {es:af}{n j:Nat}(h:n<es.length):ap (aw es n j)<=fj (es.getD n []):=by
 unfold aw;rw[ZG];generalize es.getD n []=r;cases e:r[j]? with
 |none=>rw[Zm,e];exact ZB _
 | some l=>
   rw[Zm,e];have q:=EI e;cases l with
   |s sz es=>exact q
   |_=>exact ZB _
theorem mV {es:af}{n:Nat}(h:n<es.length):cK (es.take (n+1))=cK (es.take n)+fj (es.getD n []):=by
 rw[kO (d:=[]) h,ez];simp[cK]
theorem AZ {es:af}{n:Nat}:cK (es.take n)<=cK es:=by
 conv=>rhs;rw[<-ZR n es,ez]
 omega
theorem qQ {b:af}{i:Int}:∀ n,(M9 b i n).length=n
 |0=>rfl
 |n+1=>by rw[M9,Zf,qQ n];rfl
theorem IM {b x:af}:∀ n:Nat,(((GT b n).length+(Cr x n).length:Nat):Int)=LI b x n
 |0=>rfl
 | n+1=>by
   have q:=IM (b:=b) (x:=x) n;rw[LI,GT,Cr,Zf,Zf,qQ, <-q];omega
theorem Im {b x:af}:(ifL b x).length<=30:=by
 unfold ifL;by_cases c:mailOk b x=true
 ·rw[VT c,Zf];have t:=IJ c;unfold mailOk at c;simp only[Zc,VR]at c;have q:=IM (b:=b) (x:=x) b.length;rw[t.2];omega
 ·rw[VU c];exact ZB _
theorem HX {b x:af}{i:Int}(h:GO b x)(i0:0<=i)(i1:i<b.length):∀ n,n<=(aw b i 0).length->Rw [tI] (M9 b i n)
 |0,_=>Rw.nil
 | n+1,hn=>Rw.append (HX h i0 i1 n (by omega)) (Ry (yl (fs:=[tI,tI]) (Rw.sub (fs:=[.sl [tI,tI]]) h.bw (by omega) rfl) rfl (by omega))) (by
    have:=h.bn i;rw[qQ];unfold maxLen;simp only[Zj,Zk];omega)
theorem HU {b x:af}(h:GO b x)(hb:b.length<=4):∀ n,n<=b.length->Rw [tI] (GT b n)/\(GT b n).length<=n*1099511627776
 |0,_=>⟨Rw.nil,ZB _⟩
 | n+1,hn=>by
   obtain⟨q1,q2⟩:=HU h hb n (by omega);have l:=h.bn n;refine⟨Rw.append q1 (HX h (by omega) (by omega) _ (Ze _)) (by rw[qQ];unfold maxLen;omega),?_⟩;rw[GT,Zf,qQ];omega
theorem H3 {b x:af}(h:GO b x)(hb:x.length<=4):∀ n,n<=x.length->Rw [tI] (Cr x n)/\(Cr x n).length<=n*1099511627776
 |0,_=>⟨Rw.nil,ZB _⟩
 | n+1,hn=>by
   obtain⟨q1,q2⟩:=H3 h hb n (by omega);have l:=h.xn n;refine⟨Rw.append q1 (Rw.sub (fs:=[.sl [tI]]) h.xw (by omega) rfl) (by unfold maxLen;omega),?_⟩;rw[Cr,Zf];omega
theorem abf {b x:af}(h:GO b x):Rw [tI] (ifL b x):=by
 unfold ifL;by_cases c:mailOk b x=true
 ·rw[VT c];have t:=IJ c;obtain⟨q1,l1⟩:=HU h t.1 b.length (Ze _);obtain⟨q2,l2⟩:=H3 h (by omega) x.length (Ze _);exact Rw.append q1 q2 (by unfold maxLen;omega)
 ·rw[VU c];exact Rw.nil
structure NsH (sp lg os cs b x qs:af):Prop where
 sw:Rw [tI,tI,tI] sp
 lw:Rw [tI,tI,tI] lg
 ow:Rw [tI,tI,tI,tI] os
 cw:Rw [.sl [.sl [tI]]] cs
 qw:Rw [tI,tI,tI] qs
 m:GO b x
 c:NsC cs
 sl:sp.length<=1073741824
 ll:lg.length<=1073741824
 ol:os.length<=1073741824
 ql:qs.length<=1073741824
 cl:ap cs<=1073741824
structure O1P (os:af)(i:Int)(o:af):Prop where
 e:o=SI os 1 i.toNat
structure O2P (os cs:af)(i:Int)(o:af):Prop where
 e:o=SI os 1 os.length++ccR cs i.toNat
structure O3P (os cs:af)(i k:Int)(o:af):Prop where
 e:o=SI os 1 os.length++ccR cs i.toNat++clR (aw cs i 0) k.toNat
structure O4P (os cs qs:af)(j:Int)(o:af):Prop where
 e:o=SI os 1 os.length++ccR cs cs.length++SI qs 0 j.toNat
section
variable {sp lg os cs b x qs o: af} {i k j: Int}
end
def SD (e:aT):Int:=Ly (e.getD 0 .g)
def flN (p:Int->Bool)(l:af):Nat->af
 |0=>[]
 |n+1=>flN p l n++(if p (ag l n 0)then[[.i (ag l n 0)]]else[])
structure agq (p:Int->Bool)(l:af)(i:Int)(o:af):Prop where
 e:o=flN p l i.toNat
 l:o.length<=i.toNat
section
variable {p: Int -> Bool} {l o: af} {i: Int}
end
theorem Iz {sp lg:af}:(xt sp lg).length<=512:=by
 have k:∀ n,(Qv sp lg n).length<=n:=by
  intro n
  induction n with
  |zero=>exact Ze _
  |succ n ih=>rw[Qv,Zf];split<;>simp<;>omega
 unfold xt;split;exact k 512;exact ZB _
theorem abw {sp lg:af}:Rw [tI] (xt sp lg):=by
 unfold xt;by_cases c:layOk sp lg=true
 ·rw[VT c,v6];refine Ju (fun x hx=>?_) ?_
  ·have:=qX.1 hx;omega
  ·have q:=Iz (sp:=sp) (lg:=lg);unfold xt at q;rw[VT c,v6,jp]at q;omega
 ·rw[VU c];exact Rw.nil
theorem NF {l:af}{i:Int}(h:Rw [tI] l)(h0:0<=i)(h1:i<l.length):∃ rec o,bQ (L.s 1 l) [(i.toNat,0)]=some (rec,o)/\o+[L.v (Zi Zs 0)].length<=rec.length/\Z7 [L.v (Zi Zs 0)].length (Ym o rec)=js aj (L.s 1 l) [(i.toNat,0)] 0 [L.v (Zi Zs 0)]:=
 dU (z0:=[.i 0]) (z:=[.i 0]) h.wf (by omega) rfl (by decide)
theorem eX {es:af}{i:Int}{j:Nat}:ap (aw es i j)<=ap es:=by
 by_cases c:i.toNat<es.length
 ·have q:=vW (j:=j) c;rw[show aw es (i.toNat:Nat) j=aw es i j from by unfold aw;rw[ZG]]at q;have d:=mV c;have e:=AZ (es:=es) (n:=i.toNat+1);unfold ap at q ⊢;omega
 ·have e:aw es i j=[]:=by
   unfold aw;rw[Zm (l:=es),List.getElem?_eq_none (by omega)];simp[Nv]
  rw[e];exact ZB _
theorem Q0 {ls:af}(h:Rw [.sl [tI]] ls)(hc:ap ls<=1073741824):OI ls:=by
 refine⟨h,by unfold ap at hc;omega,fun i=>?_⟩;have:=eX (es:=ls) (i:=i) (j:=0);unfold ap at this hc;omega
theorem QZ {cs:af}(h:Rw [.sl [.sl [tI]]] cs)(hc:ap cs<=1073741824):NsC cs:=by
 refine⟨h,by unfold ap at hc;omega,fun i i0 i1=>Q0 (Rw.sub (fs:=[.sl [.sl [tI]]]) h (by omega) rfl) ?_⟩;exact ZN eX hc
theorem zD {b x:af}(hb:Rw [.sl [tI,tI]] b)(hx:Rw [.sl [tI]] x)(cb:ap b<=1073741824)(cx:ap x<=1073741824):GO b x:=by
 refine⟨hb,hx,by unfold ap at cb;omega,by unfold ap at cx;omega,fun i=>?_,fun i=>?_⟩
 ·have:=eX (es:=b) (i:=i) (j:=0);unfold ap at this cb;omega
 ·have:=eX (es:=x) (i:=i) (j:=0);unfold ap at this cx;omega
end Go.V
namespace Go.V
theorem JJ {i:Int}(h:0<=i)(h1:i<=9223372036854775807):bO .sub Za i 1=i-1:=gg (by omega)
theorem Eb {es:af}{i:Int}:jf es (Int.toNat 0) (vM i 0)=es.take i.toNat:=by simp[jf,vM]
theorem cmp_eq {a b:Int}:cW .eql a b=decide (a=b):=by unfold cW;by_cases c:a=b<;>simp[c]
theorem Hz {a b:Int}:cW .neq a b=decide (a≠b):=by unfold cW;by_cases c:a=b<;>simp[c]
def rngIn (n a l:Int):Bool:=inR l 1 n&&inR a 0 (n-l)
def wC (n:Int)(rs:af)(i:Int):Bool:=rngIn n (ag rs i 0) (ag rs i 1)&& !(decide (0<i)&&decide (ag rs i 0<=bO .add Za (ag rs (i-1) 0) (ag rs (i-1) 1)))
def rgOk (n:Int)(rs:af):Bool:=cT (wC n rs) rs.length&&inR n 1 32
section
variable {n i: Int} {rs: af}
theorem Rp (i0:0<=i)(i1:i<rs.length)(h:rngIn n (ag rs i 0) (ag rs i 1)=false):rgOk n rs=false:=by
 unfold rgOk;rw[cN i0 i1 (by unfold wC;rw[h];rfl)];rfl
theorem Rq (i0:0<=i)(i1:i<rs.length)(h:0<i)(g:ag rs i 0<=bO .add Za (ag rs (i-1) 0) (ag rs (i-1) 1)):rgOk n rs=false:=by
 unfold rgOk;rw[cN i0 i1 (by unfold wC;rw[VP h,VP g];simp)];rfl
theorem L8 (h:rngIn n (ag rs i 0) (ag rs i 1)=true)(g:i<=0):wC n rs i=true:=by
 unfold wC;rw[h,VQ (by omega)];rfl
theorem L9 (h:rngIn n (ag rs i 0) (ag rs i 1)=true)(g:bO .add Za (ag rs (i-1) 0) (ag rs (i-1) 1)<ag rs i 0):wC n rs i=true:=by
 unfold wC;rw[h,VQ (p:=ag rs i 0<=_) (by omega)];simp
theorem Ro (h:upto (wC n rs) i)(g:(rs.length:Int)<=i):inR n 1 32=rgOk n rs:=by unfold rgOk;rw[cu h g];rfl
end
def Iu (rs:af)(p j:Int):Bool:=decide (ag rs j 0<=p)&&decide (p<bO .add Za (ag rs j 0) (ag rs j 1))
def rhI (rs:af)(p:Int):Int:=cQ (Iu rs p) rs.length
def rhB (rs:af)(p:Int):Bool:=decide (0<=rhI rs p)
def rh1 (a l p:Int):Bool:=decide (a<=p)&&decide (p<bO .add Za a l)
def mshB (p1 k1 b1 p2 k2 b2:Int):Bool:=spOk p1 k1 b1&&(spOk p2 k2 b2&&(decide (k1=k2)&&(decide (p1≠p2)&&decide (bO .and Za b1 b2=0))))
def Kd (qs:af):Nat->Int
 |0=>0
 |n+1=>Kd qs n+clsSz (ag qs n 1)
def qcI (qs:af):Int:=Kd qs qs.length
theorem EG {k:Int}:0<=clsSz k/\clsSz k<=8:=by
 unfold clsSz;repeat' split
 all_goals omega
theorem NL {qs:af}:∀ n:Nat,0<=Kd qs n/\Kd qs n<=8*n
 |0=>⟨Yg _,Yg _⟩
 |n+1=>by have q:=NL (qs:=qs) n;have c:=EG (k:=ag qs n 1);rw[Kd];omega
structure OM (qs:af)(i t:Int):Prop where
 e:t=Kd qs i.toNat
theorem afJ {qs:af}:OM qs 0 0:=⟨rfl⟩
theorem afK {qs:af}{i t:Int}(h:OM qs i t)(i0:0<=i):0<=t/\t<=8*i:=by have q:=NL (qs:=qs) i.toNat;rw[<-h.e]at q;omega
theorem acu {qs:af}{i t:Int}(h:OM qs i t)(i0:0<=i)(i1:i<=1099511627776):OM qs (i+1) (bO .add Za t (clsSz (ag qs i 1))):=by
 have b:=afK h i0;have c:=EG (k:=ag qs i 1);refine⟨?_⟩;rw[show bO .add Za t (clsSz (ag qs i 1))=t+clsSz (ag qs i 1)from cG (by omega),show(i+1).toNat=i.toNat+1 from by omega,Kd, <-h.e,Zr i0]
theorem Rf {qs:af}{i t:Int}(h:OM qs i t)(i1:i<=qs.length)(i2:(qs.length:Int)<=i):t=qcI qs:=by unfold qcI;rw[h.e,show i.toNat=qs.length from by omega]
def stlOk (b:af)(a c s:Int):Bool:=inR c 0 3&&(decide (0<=a)&&(decide (0<=s)&&(!qtB b a&&(decide (b.length=0)||decide (ag b (b.length-1:Int) 2<=s)))))
def Rk (qs:af)(i:Int):Bool:=stlOk (qs.take i.toNat) (ag qs i 0) (ag qs i 1) (ag qs i 2)
def quarOk (rm:Int)(qs:af):Bool:=cT (Rk qs) qs.length&&(inR rm 0 500&&decide (qcI qs<=rm))
theorem K7 {es:af}{n:Nat}{i:Int}{j:Nat}(h:i.toNat<n):ag (es.take n) i j=ag es i j:=by
 unfold ag;rw[Zm (l:=es.take n),List.getElem?_take,VT h,Zm (l:=es)]
section
variable {rm i: Int} {qs: af}
theorem acy (i0:0<=i)(i1:i<qs.length)(h:Rk qs i=false):quarOk rm qs=false:=by unfold quarOk;rw[cN i0 i1 h];rfl
theorem Rj (h:upto (Rk qs) i)(g:(qs.length:Int)<=i):quarOk rm qs=(inR rm 0 500&&decide (qcI qs<=rm)):=by unfold quarOk;rw[cu h g];rfl
end
def xr (ls:af)(i:Int):Nat->List Int
 |0=>[]
 |n+1=>xr ls i n++[ag (aw ls i 0) n 0]
def vI (ls:af):Nat->List Int
 |0=>[]
 |n+1=>vI ls n++xr ls n (aw ls n 0).length
def KG (ls:af)(i k:Int):Bool:=inR (ag (aw ls i 0) k 0) 0 511&&decide (bO .rem Za (ag (aw ls i 0) k 0) (clsSz i)=0)
def KF (ls:af)(i:Int):Bool:=decide ((aw ls i 0).length<=8)&&cT (KG ls i) (aw ls i 0).length
def caOk (ls:af):Bool:=decide (ls.length=4)&&(cT (KF ls) 4&&decide ((vI ls 4).Nodup))
theorem EB {ls:af}{i:Int}:∀ n,(xr ls i n).length=n
 |0=>rfl
 |n+1=>by rw[xr,Zf,EB n];rfl
theorem ED {ls:af}{i:Int}:∀ (m n:Nat),n<=m->∃ r,xr ls i m=xr ls i n++r
 |0,n,h=>⟨[],by rw[show n=0 from by omega];rfl⟩
 | m+1,n,h=>by
   by_cases c:n=m+1
   ·subst c;exact⟨[],by simp⟩
   ·obtain⟨r,e⟩:=ED (ls:=ls) (i:=i) m n (by omega);exact⟨r++[ag (aw ls i 0) m 0],by rw[xr,e,Zp]⟩
theorem EE {ls:af}:∀ (m n:Nat),n<=m->∃ r,vI ls m=vI ls n++r
 |0,n,h=>⟨[],by rw[show n=0 from by omega];rfl⟩
 | m+1,n,h=>by
   by_cases c:n=m+1
   ·subst c;exact⟨[],by simp⟩
   ·obtain⟨r,e⟩:=EE (ls:=ls) m n (by omega);exact⟨r++xr ls m (aw ls m 0).length,by rw[vI,e,Zp]⟩
theorem yV {ls:af}{i k:Int}(h:0<=k):xr ls i (k+1).toNat=xr ls i k.toNat++[ag (aw ls i 0) k 0]:=by
 rw[show(k+1).toNat=k.toNat+1 from by omega,xr,Zr h]
theorem yW {ls:af}{i:Int}(h:0<=i):vI ls (i+1).toNat=vI ls i.toNat++xr ls i (aw ls i 0).length:=by
 rw[show(i+1).toNat=i.toNat+1 from by omega,vI,Zr h]
structure Oz (ls:af)(i:Int):Prop where
 ok:upto (KF ls) i
 nd:(vI ls i.toNat).Nodup
 l:i<=4
 b:∀ x∈vI ls i.toNat,0<=x/\x<=511
 n:(vI ls i.toNat).length<=8*i.toNat
structure R9 (ls:af)(i k:Int):Prop where
 ok:upto (KF ls) i
 nd:(vI ls i.toNat++xr ls i k.toNat).Nodup
 l:i<=3
 s:(aw ls i 0).length<=8
 bk:upto (KG ls i) k
 b:∀ x∈vI ls i.toNat++xr ls i k.toNat,0<=x/\x<=511
 n:(vI ls i.toNat).length<=8*i.toNat
section
variable {ls: af} {i k: Int}
theorem adU:Oz ls 0:=⟨cg,ZQ,by omega,(fun x hx=>by cases hx),ZB _⟩
theorem adV (h:Oz ls i)(i0:0<=i)(c:inR i 0 3=true)(s:(aw ls i 0).length<=8):R9 ls i 0:=
 ⟨h.ok,by simpa[xr]using h.nd,(be.1 c).2,s,cg,by simpa[xr]using h.b,h.n⟩
theorem Tp (h:R9 ls i k)(k0:0<=k)(h1:inR (ag (aw ls i 0) k 0) 0 511=true)(h2:bO .rem Za (ag (aw ls i 0) k 0) (clsSz i)=0)(h3:ag (aw ls i 0) k 0∉vI ls i.toNat++xr ls i k.toNat):R9 ls i (k+1):=by
 refine⟨h.ok,?_,h.l,h.s,bN h.bk (by unfold KG;rw[h1,VP h2];rfl),?_,h.n⟩
 ·rw[yV k0, <-Zp];exact q7 h.nd h3
 ·rw[yV k0, <-Zp];intro x hx;rcases Zg.1 hx with q|q;exact h.b x q
  ·simp at q;subst q;exact be.1 h1
theorem Tl (h:R9 ls i k)(i0:0<=i)(k1:k<=((aw ls i 0).length:Int))(k2:((aw ls i 0).length:Int)<=k):Oz ls (i+1):=by
 have e:k.toNat=(aw ls i 0).length:=by omega
 have nd:=h.nd;have b:=h.b;have n:=h.n;have s:=h.s;have l:=h.l;rw[e, <-yW i0]at nd b;refine⟨bN h.ok (by unfold KF;rw[VP h.s,cu h.bk k2];rfl),nd,by omega,b,?_⟩;rw[yW i0,Zf,EB];omega
theorem CQ (h:(ls.length:Int)≠4):caOk ls=false:=by unfold caOk;rw[VQ (by omega)];rfl
theorem MP (i0:0<=i)(l:i<=3)(h:KF ls i=false):caOk ls=false:=by unfold caOk;rw[cN (n:=4) i0 (by omega) h];simp
theorem O3 (i0:0<=i)(h:8<(aw ls i 0).length)(l:i<=3):caOk ls=false:=MP i0 l (by unfold KF;rw[VQ (by omega)];rfl)
theorem Hn (i0:0<=i)(l:i<=3)(k0:0<=k)(k1:k<(aw ls i 0).length)(h:KG ls i k=false):caOk ls=false:=MP i0 l (by unfold KF;rw[cN k0 k1 h,Yh])
theorem Tn (h:inR (ag (aw ls i 0) k 0) 0 511=false):KG ls i k=false:=by unfold KG;rw[h];rfl
theorem To (h:bO .rem Za (ag (aw ls i 0) k 0) (clsSz i)≠0):KG ls i k=false:=by unfold KG;rw[VQ h,Yh]
theorem O1 (i0:0<=i)(l:i<=3)(k0:0<=k)(k1:k<(aw ls i 0).length)(h:ag (aw ls i 0) k 0∈vI ls i.toNat++xr ls i k.toNat):caOk ls=false:=by
 obtain⟨r,e⟩:=EE (ls:=ls) 4 (i+1).toNat (by omega);obtain⟨r2,e2⟩:=ED (ls:=ls) (i:=i) (aw ls i 0).length (k+1).toNat (by omega);rw[yW i0,e2,yV k0]at e;have:¬ (vI ls 4).Nodup:=dup (a:=vI ls i.toNat++xr ls i k.toNat) (b:=r2++r) (x:=ag (aw ls i 0) k 0) (by rw[e];simp only[Zp];rfl) h;unfold caOk;rw[VQ this];simp
theorem O4 (h:Oz ls i)(h1:(ls.length:Int)=4)(i2:4<=i):caOk ls=true:=by
 have l:=h.l;have e:i=4:=by omega
 subst e;unfold caOk;rw[VP (by omega),cu h.ok (by omega),VP (p:=(vI ls 4).Nodup) h.nd];rfl
theorem O2 (h:Oz ls i)(i1:i<=ls.length)(i2:(ls.length:Int)<=i):decide ((ls.length:Int)=4)=caOk ls:=by
 by_cases c:(ls.length:Int)=4
 ·rw[O4 h c (by omega)];exact VP c
 ·rw[CQ c];exact VQ c
end
structure ScP (ls:af)(i:Int)(o:af):Prop where
 p:Oz ls i
 e:o=j8 (vI ls i.toNat)
structure SdP (ls:af)(i k:Int)(o:af):Prop where
 p:R9 ls i k
 e:o=j8 (vI ls i.toNat++xr ls i k.toNat)
structure Cv (ls:af)(i:Int)(es:af):Prop where
 p:Oz ls i
 s:pA es (vI ls i.toNat)
structure Cw (ls:af)(i k:Int)(es:af):Prop where
 p:R9 ls i k
 s:pA es (vI ls i.toNat++xr ls i k.toNat)
section
variable {ls o es: af} {i k: Int}
theorem abd:Cv ls 0 []:=⟨adU,D9⟩
theorem abe (h:Cv ls i es)(i0:0<=i)(c:inR i 0 3=true)(s:(aw ls i 0).length<=8):Cw ls i 0 es:=⟨adV h.p i0 c s,by simpa[xr]using h.s⟩
theorem Qi (h:Cw ls i k es)(k0:0<=k)(h1:inR (ag (aw ls i 0) k 0) 0 511=true)(h2:bO .rem Za (ag (aw ls i 0) k 0) (clsSz i)=0)(h3:mgbI es (ag (aw ls i 0) k 0)=false):Cw ls i (k+1) (mO es (ag (aw ls i 0) k 0) (.v (.bool true))):=by
 refine⟨Tp h.p k0 h1 h2 (fun m=>by rw[(h.s.at_ _).2 m]at h3;cases h3),?_⟩;rw[yV k0, <-Zp];exact uR h.s
theorem Qh (h:Cw ls i k es)(i0:0<=i)(k1:k<=((aw ls i 0).length:Int))(k2:((aw ls i 0).length:Int)<=k):Cv ls (i+1) es:=
 ⟨Tl h.p i0 k1 k2,by have s:=h.s;rw[show k.toNat=(aw ls i 0).length from by omega]at s;rw[yW i0];exact s⟩
theorem Lg (h:Cw ls i k es)(i0:0<=i)(k0:0<=k)(k1:k<(aw ls i 0).length)(h3:mgbI es (ag (aw ls i 0) k 0)=true):caOk ls=false:=O1 i0 h.p.l k0 k1 ((h.s.at_ _).1 h3)
theorem Le (h:Cv ls i es)(i0:0<=i)(s:8<(aw ls i 0).length)(i1:i<ls.length):caOk ls=false:=by
 by_cases c:(ls.length:Int)=4;exact O3 i0 s (by omega);exact CQ c
theorem Lf (h:Cv ls i es)(i0:0<=i)(c:inR i 0 3=false)(i1:i<ls.length):caOk ls=false:=by
 have:=ym.1 c;exact CQ (by omega)
end
def Kc (cs:af)(i:Int):Bool:=inR (ag cs i 0) 0 15&& !(decide (0<i)&&decide (ag cs i 0<=ag cs (i-1) 0))
def plOk (k m:Int)(cs:af):Bool:=cT (Kc cs) cs.length&&(inR k 0 31&&(inR m 0 31&&decide (k≠m)))
def jbOk (k m:Int)(cs:af)(ph nx:Int):Bool:=plOk k m cs&&(inR ph 0 5&&inR nx 0 cs.length)
section
variable {k m i: Int} {cs: af}
theorem Q8 (i0:0<=i)(i1:i<cs.length)(h:inR (ag cs i 0) 0 15=false):plOk k m cs=false:=by
 unfold plOk;rw[cN i0 i1 (by unfold Kc;rw[h];rfl)];rfl
theorem Q9 (i0:0<=i)(i1:i<cs.length)(h:0<i)(g:ag cs i 0<=ag cs (i-1) 0):plOk k m cs=false:=by
 unfold plOk;rw[cN i0 i1 (by unfold Kc;rw[VP h,VP g];simp)];rfl
theorem LU (h:inR (ag cs i 0) 0 15=true)(g:i<=0):Kc cs i=true:=by unfold Kc;rw[h,VQ (by omega)];rfl
theorem LV (h:inR (ag cs i 0) 0 15=true)(g:ag cs (i-1) 0<ag cs i 0):Kc cs i=true:=by
 unfold Kc;rw[h,VQ (p:=ag cs i 0<=_) (by omega)];simp
theorem Jc (h:upto (Kc cs) i)(g:(cs.length:Int)<=i):plOk k m cs=(inR k 0 31&&(inR m 0 31&&decide (k≠m))):=by unfold plOk;rw[cu h g];rfl
end
end Go.V
namespace Go.V
theorem HJ {sp lg:af}{a:Int}(h:dnK sp lg a=1):0<=dnI sp lg a/\dnI sp lg a<sp.length:=by
 unfold dnK at h;by_cases c:0<=gn sp a
 ·unfold dnI;rw[VT c];rcases qP (p:=yD sp a) (n:=sp.length)with q|q
  ·have:gn sp a= -1:=q;omega
  ·exact q
 ·rw[VU c]at h;by_cases d:0<=k9 lg a
  ·rw[VT d]at h;omega
  ·rw[VU d]at h;omega
theorem M2 {sp lg:af}{a:Int}(h:dnK sp lg a=3):0<=dnI sp lg a/\dnI sp lg a<lg.length:=by
 unfold dnK at h;by_cases c:0<=gn sp a
 ·rw[VT c]at h;split at h<;>omega
 ·rw[VU c]at h;by_cases d:0<=k9 lg a
  ·unfold dnI;rw[VU c,VT d];rcases qP (p:=yq lg a) (n:=lg.length)with q|q
   ·have:k9 lg a= -1:=q;omega
   ·exact q
  ·rw[VU d]at h;omega
def Is (os:af)(x j:Int):Bool:=eqB (ag os j 0) x
def oiI (os:af)(x:Int):Int:=cQ (Is os x) os.length
def oiB (os:af)(x:Int):Bool:=decide (0<=oiI os x)
def okO (sp lg:af)(a s:Int):Bool:=decide (dnO sp lg a=0)&&((decide (dnK sp lg a=1)&&decide (ag sp (dnI sp lg a) 1=clsOf s))||(decide (dnK sp lg a=3)&&decide (ag lg (dnI sp lg a) 2=s)))
def yv (sp lg os cs:af)(nx i:Int):Bool:=
 !(decide (0<i)&&decide (ag os i 1<=ag os (i-1) 1))&&(inR (ag os i 0) 1 (bO .sub Za nx 1)&&(inR (ag os i 3) 0 (cs.length-1:Int)&&(!oiB (os.take i.toNat) (ag os i 0)&&okO sp lg (ag os i 1) (ag os i 2))))
def objOk (sp lg os cs:af)(nx:Int):Bool:=cT (yv sp lg os cs nx) os.length
section
variable {sp lg os cs: af} {nx i k: Int}
theorem yx (i0:0<=i)(i1:i<os.length)(h:yv sp lg os cs nx i=false):objOk sp lg os cs nx=false:=cN i0 i1 h
theorem Q3 (h:upto (yv sp lg os cs nx) i)(g:(os.length:Int)<=i):objOk sp lg os cs nx=true:=cu h g
theorem abV (h:0<i)(g:ag os i 1<=ag os (i-1) 1):yv sp lg os cs nx i=false:=by unfold yv;rw[VP h,VP g];rfl
theorem abW (h:inR (ag os i 0) 1 (bO .sub Za nx 1)=false):yv sp lg os cs nx i=false:=by unfold yv;rw[h];simp
theorem abX (h:inR (ag os i 3) 0 (cs.length-1:Int)=false):yv sp lg os cs nx i=false:=by unfold yv;rw[h];simp
theorem abY (h:oiB (os.take i.toNat) (ag os i 0)=true):yv sp lg os cs nx i=false:=by unfold yv;rw[h];simp
theorem NE (h:okO sp lg (ag os i 1) (ag os i 2)=false):yv sp lg os cs nx i=false:=by unfold yv;rw[h];simp
theorem abZ (h1:i<=0\/ag os (i-1) 1<ag os i 1)(h2:inR (ag os i 0) 1 (bO .sub Za nx 1)=true)(h3:inR (ag os i 3) 0 (cs.length-1:Int)=true)(h4:oiB (os.take i.toNat) (ag os i 0)=false)(h5:okO sp lg (ag os i 1) (ag os i 2)=true):yv sp lg os cs nx i=true:=by
 unfold yv;rw[h2,h3,h4,h5];rcases h1 with h|h
 ·rw[VQ (p:=0<i) (by omega)];rfl
 ·rw[VQ (p:=ag os i 1<=ag os (i-1) 1) (by omega)];simp
theorem ab3 {a s:Int}(h:dnO sp lg a≠0):okO sp lg a s=false:=by unfold okO;rw[VQ h];rfl
theorem afD {a s:Int}(h1:dnK sp lg a≠1\/ag sp (dnI sp lg a) 1≠clsOf s)(h2:dnK sp lg a≠3\/ag lg (dnI sp lg a) 2≠s):okO sp lg a s=false:=by
 unfold okO;rcases h1 with h|h<;>rcases h2 with g|g<;>simp[h,g]
theorem ab5 {a s:Int}(h0:dnO sp lg a=0)(h1:dnK sp lg a=1)(h2:ag sp (dnI sp lg a) 1=clsOf s):okO sp lg a s=true:=by unfold okO;rw[VP h0,VP h1,VP h2];rfl
theorem ab6 {a s:Int}(h0:dnO sp lg a=0)(h1:dnK sp lg a=3)(h2:ag lg (dnI sp lg a) 2=s):okO sp lg a s=true:=by unfold okO;rw[VP h0,VP h1,VP h2];simp
end
end Go.V
namespace Go.V
def WfI (es:af):Prop:=∀ e∈es,∃ k b:Int,e=[.i k,.i b]
theorem tE {k b:Int}{es:af}{n:Int}:dT ([.i k,.i b]::es) n=if k=n then some (0,.int Za b)else(dT es n).map fun p=>(p.1+1,p.2):=rfl
theorem oI {k b:Int}{es:af}{n:Int}:jc ([.i k,.i b]::es) n=if k=n then b else jc es n:=by
 unfold jc;rw[tE];by_cases c:k=n
 ·rw[VT c,VT c]
 ·rw[VU c,VU c];cases dT es n with
  |none=>rfl
  |some p=>obtain⟨j,v⟩:=p;cases v<;>rfl
theorem IP {k b x:Int}{es:af}{n:Int}:mO ([.i k,.i b]::es) n (.i x)=if k=n then[.i n,.i x]::es else[.i k,.i b]::mO es n (.i x):=by
 unfold mO;rw[tE];by_cases c:k=n
 ·rw[VT c,VT c];rfl
 ·rw[VU c,VU c];cases dT es n with
  |none=>rfl
  |some p=>rfl
theorem abK {x n:Int}:∀ {es:af},WfI es->WfI (mO es n (.i x))/\∀ m,jc (mO es n (.i x)) m=if m=n then x else jc es m
 | [],_=>by
   refine⟨fun e he=>?_,fun m=>?_⟩
   ·have:e=[.i n,.i x]:=by simpa[mO,dT]using he
    exact⟨n,x,this⟩
   ·show jc [[.i n,.i x]] m=_;rw[oI];by_cases c:m=n
    ·rw[VT c.symm,VT c]
    ·rw[VU (fun e=>c e.symm),VU c]
 | e::es,h=>by
   obtain⟨k,b,rfl⟩:=h e (by simp);have h':WfI es:=fun e he=>h e (by simp[he])
   obtain⟨a1,a2⟩:=abK (x:=x) (n:=n) h';rw[IP];by_cases c:k=n
   ·rw[VT c];refine⟨fun e he=>?_,fun m=>?_⟩
    ·rcases Zl.1 he with rfl|he;exact⟨n,x,rfl⟩;exact h' e he
    ·rw[oI,oI];by_cases d:m=n
     ·rw[VT d.symm,VT d]
     ·rw[VU (fun e=>d e.symm),VU d,VU (fun e=>d (by rw[<-e,c]))]
   ·rw[VU c];refine⟨fun e he=>?_,fun m=>?_⟩
    ·rcases Zl.1 he with rfl|he;exact⟨k,b,rfl⟩;exact a1 e he
    ·rw[oI,oI,a2 m];by_cases d:k=m
     ·rw[VT d,VT d,VU (fun e=>c (d.trans e))]
     ·rw[VU d,VU d]
def huI (es:af)(a:Int):af:=mO es a (.i (bO .add Za (jc es a) 1))
structure yM (es:af)(l:List Int):Prop where
 wf:WfI es
 c:∀ m,jc es m=(l.count m:Int)
theorem adW:yM [] []:=⟨(fun e he=>by cases he),fun m=>rfl⟩
theorem EH {es:af}{l:List Int}{a:Int}(h:yM es l)(hl:l.length<=1099511627776):yM (huI es a) (l++[a]):=by
 have q:=abK (x:=bO .add Za (jc es a) 1) (n:=a) h.wf;refine⟨q.1,fun m=>?_⟩;show jc (mO es a _) m=_;have b:l.count a<=l.length:=List.count_le_length;have e:=h.c a;rw[q.2 m,List.count_append,show bO .add Za (jc es a) 1=jc es a+1 from cG (by omega)];by_cases c:m=a
 ·subst c;rw[VT rfl,e];simp
 ·rw[VU c,h.c m];have:[a].count m=0:=WT.2 (by simpa using c);rw[this];rfl
def lh (l:af)(f:Nat):Nat->List Int
 |0=>[]
 |n+1=>lh l f n++[ag l n f]
def AC (ls:af):Nat->List Int
 |0=>[]
 |n+1=>AC ls n++lh (aw ls n 0) 0 (aw ls n 0).length
def uD (cs:af):Nat->List Int
 |0=>[]
 |n+1=>uD cs n++AC (aw cs n 0) (aw cs n 0).length
theorem fY {l:af}{f:Nat}:∀ n,(lh l f n).length=n
 |0=>rfl
 |n+1=>by rw[lh,Zf,fY n];rfl
theorem zu {l:af}{f:Nat}{i:Int}(h:0<=i):lh l f (i+1).toNat=lh l f i.toNat++[ag l i f]:=by
 rw[show(i+1).toNat=i.toNat+1 from by omega,lh,Zr h]
theorem Pe {l:af}{i:Int}(h:0<=i):AC l (i+1).toNat=AC l i.toNat++lh (aw l i 0) 0 (aw l i 0).length:=by
 rw[show(i+1).toNat=i.toNat+1 from by omega,AC,Zr h]
theorem O6 {l:af}{i:Int}(h:0<=i):uD l (i+1).toNat=uD l i.toNat++AC (aw l i 0) (aw l i 0).length:=by
 rw[show(i+1).toNat=i.toNat+1 from by omega,uD,Zr h]
theorem qW {l:af}{f:Nat}{x:Int}:∀ {n},x∈lh l f n↔∃ k:Nat,k<n/\x=ag l k f
 |0=>⟨(fun h=>by cases h),fun⟨k,h,_⟩=>absurd h (Xw _)⟩
 | n+1=>by
   rw[lh,Zg,qW,Z8]
   constructor
   ·rintro(⟨k,h,e⟩|e);exact⟨k,by omega,e⟩;exact⟨n,by omega,e⟩
   ·rintro⟨k,h,e⟩;by_cases c:k=n
    ·subst c;exact .inr e
    ·exact .inl ⟨k,by omega,e⟩
theorem Fj {ls:af}{x:Int}:∀ {n},x∈AC ls n↔∃ k:Nat,k<n/\x∈lh (aw ls k 0) 0 (aw ls k 0).length
 |0=>⟨(fun h=>by cases h),fun⟨k,h,_⟩=>absurd h (Xw _)⟩
 | n+1=>by
   rw[AC,Zg,Fj]
   constructor
   ·rintro(⟨k,h,e⟩|e);exact⟨k,by omega,e⟩;exact⟨n,by omega,e⟩
   ·rintro⟨k,h,e⟩;by_cases c:k=n
    ·subst c;exact .inr e
    ·exact .inl ⟨k,by omega,e⟩
theorem Fi {cs:af}{x:Int}:∀ {n},x∈uD cs n↔∃ k:Nat,k<n/\x∈AC (aw cs k 0) (aw cs k 0).length
 |0=>⟨(fun h=>by cases h),fun⟨k,h,_⟩=>absurd h (Xw _)⟩
 | n+1=>by
   rw[uD,Zg,Fi]
   constructor
   ·rintro(⟨k,h,e⟩|e);exact⟨k,by omega,e⟩;exact⟨n,by omega,e⟩
   ·rintro⟨k,h,e⟩;by_cases c:k=n
    ·subst c;exact .inr e
    ·exact .inl ⟨k,by omega,e⟩
theorem yX {ls:af}:∀ n,n<=ls.length->(AC ls n).length<=cK (ls.take n)
 |0,_=>ZB _
 | n+1,h=>by
   have q:=yX n (by omega:n<=ls.length);have c:=vW (es:=ls) (n:=n) (j:=0) (by omega);unfold ap at c;rw[AC,Zf,fY,mV (by omega)];omega
theorem qG {cs:af}:∀ n,n<=cs.length->(uD cs n).length<=cK (cs.take n)
 |0,_=>ZB _
 | n+1,h=>by
   have q:=qG n (by omega:n<=cs.length);have c:=vW (es:=cs) (n:=n) (j:=0) (by omega);have d:=yX (ls:=aw cs n 0) (aw cs n 0).length (Ze _);rw[Y1]at d;unfold ap at c;rw[uD,Zf,mV (by omega)];omega
theorem KH {cs:af}{i k:Int}(i0:0<=i)(i1:i<cs.length)(k1:k<=(aw cs i 0).length):(uD cs i.toNat++AC (aw cs i 0) k.toNat).length+cK ((aw cs i 0).drop k.toNat)<=cK cs:=by
 have q:=qG (cs:=cs) i.toNat (by omega);have c:=AZ (es:=cs) (n:=i.toNat+1);have d:=mV (es:=cs) (n:=i.toNat) (by omega);have e:=vW (es:=cs) (n:=i.toNat) (j:=0) (by omega);rw[Zr i0]at e;have f:=yX (ls:=aw cs i 0) k.toNat (by omega);have g:cK (aw cs i 0)=cK ((aw cs i 0).take k.toNat)+cK ((aw cs i 0).drop k.toNat):=by rw[<-ez,ZR]
 rw[Zf];unfold ap at e;omega
theorem KI {cs:af}{i k j:Int}(i0:0<=i)(i1:i<cs.length)(k0:0<=k)(k1:k<(aw cs i 0).length)(j0:0<=j)(j1:j<=(aw (aw cs i 0) k 0).length):(uD cs i.toNat++AC (aw cs i 0) k.toNat++lh (aw (aw cs i 0) k 0) 0 j.toNat).length<=cK cs:=by
 have q:=KH i0 i1 (by omega:k<=(aw cs i 0).length);have e:=vW (es:=aw cs i 0) (n:=k.toNat) (j:=0) (by omega);rw[Zr k0]at e;have d:fj ((aw cs i 0).getD k.toNat [])<=cK ((aw cs i 0).drop k.toNat):=by
  rw[WU (by omega)];rw[Zm,Zu (by omega)];simp[cK]
 rw[Zf,fY];unfold ap at e;omega
def hlB (sp lg:af)(a k:Int):Bool:=decide (dnK sp lg a=1)&&(decide (dnO sp lg a=0)&&(decide (k<0)||decide (ag sp (dnI sp lg a) 1=k)))
def jA (sp lg l:af)(k j:Int):Bool:=hlB sp lg (ag l j 0) k
def kA (sp lg ls:af)(k:Int):Bool:=cT (jA sp lg (aw ls k 0) k) (aw ls k 0).length
def iA (sp lg cs:af)(i:Int):Bool:=cT (kA sp lg (aw cs i 0)) (aw cs i 0).length
def qA (sp lg qs:af)(i:Int):Bool:=hlB sp lg (ag qs i 0) (ag qs i 1)
def sA (qs:af)(c i:Int):Bool:=decide (ag qs i 2<=c)
def D1 (sp lg qs:af)(c i:Int):Bool:=qA sp lg qs i&&sA qs c i
def K9 (os cs qs fl:af):List Int:=uD cs cs.length++lh qs 0 qs.length++lh fl 0 fl.length++lh os 1 os.length
def La (os cs qs fl:af):List Int:=lh os 1 os.length++uD cs cs.length++lh qs 0 qs.length++lh fl 0 fl.length
def MO (l:List Int)(lv:af)(i:Int):Bool:=decide (l.count (ag lv i 0)=1)
def hoI (sp lg os cs b x qs:af)(c:Int):Bool:=cT (iA sp lg cs) cs.length&&(cT (D1 sp lg qs c) qs.length&&(cT (jA sp lg (ifL b x) (-1)) (ifL b x).length&&cT (MO (K9 os cs qs (ifL b x)) (xt sp lg)) (xt sp lg).length))
def hoS (sp lg os cs b x qs:af):Bool:=cT (iA sp lg cs) cs.length&&(cT (qA sp lg qs) qs.length&&(cT (jA sp lg (ifL b x) (-1)) (ifL b x).length&&(decide ((La os cs qs (ifL b x)).Nodup)&&decide ((La os cs qs (ifL b x)).length=(xt sp lg).length))))
section
variable {sp lg os cs b x qs fl es: af} {i k j c: Int}
theorem aeV (k0:0<=k)(k1:k<(aw cs i 0).length)(j0:0<=j)(j1:j<(aw (aw cs i 0) k 0).length)(h:hlB sp lg (ag (aw (aw cs i 0) k 0) j 0) k=false):iA sp lg cs i=false:=
 cN k0 k1 (cN (p:=jA sp lg (aw (aw cs i 0) k 0) k) j0 j1 h)
theorem P7 (i0:0<=i)(i1:i<cs.length)(h:iA sp lg cs i=false):hoI sp lg os cs b x qs c=false:=by unfold hoI;rw[cN i0 i1 h];rfl
theorem H9 (i0:0<=i)(i1:i<qs.length)(h:D1 sp lg qs c i=false):hoI sp lg os cs b x qs c=false:=by unfold hoI;rw[cN i0 i1 h];simp
theorem P8 (i0:0<=i)(i1:i<(ifL b x).length)(h:hlB sp lg (ag (ifL b x) i 0) (-1)=false):hoI sp lg os cs b x qs c=false:=by unfold hoI;rw[cN (p:=jA sp lg (ifL b x) (-1)) i0 i1 h];simp
theorem P9 (i0:0<=i)(i1:i<(xt sp lg).length)(h:MO (K9 os cs qs (ifL b x)) (xt sp lg) i=false):hoI sp lg os cs b x qs c=false:=by unfold hoI;rw[cN i0 i1 h];simp
theorem acB (h:hlB sp lg (ag qs i 0) (ag qs i 1)=false):D1 sp lg qs c i=false:=by unfold D1 qA;rw[h];rfl
theorem acC (h:c<ag qs i 2):D1 sp lg qs c i=false:=by unfold D1 sA;rw[VQ (by omega),Yh]
theorem afM (h:hlB sp lg (ag qs i 0) (ag qs i 1)=true)(g:ag qs i 2<=c):D1 sp lg qs c i=true:=by unfold D1 qA sA;rw[h,VP g];rfl
structure Si (sp lg cs:af)(i:Int)(es:af):Prop where
 ok:upto (iA sp lg cs) i
 c:yM es (uD cs i.toNat)
structure Sk (sp lg cs:af)(i k:Int)(es:af):Prop where
 ok:upto (iA sp lg cs) i
 ok2:upto (kA sp lg (aw cs i 0)) k
 c:yM es (uD cs i.toNat++AC (aw cs i 0) k.toNat)
structure Sj (sp lg cs:af)(i k j:Int)(es:af):Prop where
 ok:upto (iA sp lg cs) i
 ok2:upto (kA sp lg (aw cs i 0)) k
 ok3:upto (jA sp lg (aw (aw cs i 0) k 0) k) j
 c:yM es (uD cs i.toNat++AC (aw cs i 0) k.toNat++lh (aw (aw cs i 0) k 0) 0 j.toNat)
structure Sl (sp lg cs qs:af)(t j:Int)(es:af):Prop where
 ok:cT (iA sp lg cs) cs.length=true
 ok2:upto (D1 sp lg qs t) j
 c:yM es (uD cs cs.length++lh qs 0 j.toNat)
structure Sg (sp lg cs qs fl:af)(t j:Int)(es:af):Prop where
 ok:cT (iA sp lg cs) cs.length=true
 ok2:cT (D1 sp lg qs t) qs.length=true
 ok3:upto (jA sp lg fl (-1)) j
 c:yM es (uD cs cs.length++lh qs 0 qs.length++lh fl 0 j.toNat)
structure OB (sp lg os cs qs fl:af)(t j:Int)(es:af):Prop where
 ok:cT (iA sp lg cs) cs.length=true
 ok2:cT (D1 sp lg qs t) qs.length=true
 ok3:cT (jA sp lg fl (-1)) fl.length=true
 c:yM es (uD cs cs.length++lh qs 0 qs.length++lh fl 0 fl.length++lh os 1 j.toNat)
theorem aev:Si sp lg cs 0 []:=⟨cg,adW⟩
theorem aex (h:Si sp lg cs i es):Sk sp lg cs i 0 es:=⟨h.ok,cg,by simpa[AC]using h.c⟩
theorem aew (h:Sk sp lg cs i k es):Sj sp lg cs i k 0 es:=⟨h.ok,h.ok2,cg,by simpa[lh]using h.c⟩
theorem aaQ (h:Sj sp lg cs i k j es)(i0:0<=i)(i1:i<cs.length)(k0:0<=k)(k1:k<(aw cs i 0).length)(j0:0<=j)(j1:j<(aw (aw cs i 0) k 0).length)(hc:ap cs<=1073741824)(hh:hlB sp lg (ag (aw (aw cs i 0) k 0) j 0) k=true):
 Sj sp lg cs i k (j+1) (huI es (ag (aw (aw cs i 0) k 0) j 0)):=by
 have l:=KI (cs:=cs) i0 i1 k0 k1 j0 (by omega);unfold ap at hc;exact⟨h.ok,h.ok2,bN h.ok3 hh,by rw[zu j0, <-Zp];exact EH h.c (by omega)⟩
theorem aaR (h:Sj sp lg cs i k j es)(k0:0<=k)(j1:j<=((aw (aw cs i 0) k 0).length:Int))(j2:((aw (aw cs i 0) k 0).length:Int)<=j):Sk sp lg cs i (k+1) es:=by
 refine⟨h.ok,bN h.ok2 (cu h.ok3 j2),?_⟩;have c:=h.c;rw[show j.toNat=(aw (aw cs i 0) k 0).length from by omega,Zp, <-Pe k0]at c;exact c
theorem aaP (h:Sk sp lg cs i k es)(i0:0<=i)(k1:k<=((aw cs i 0).length:Int))(k2:((aw cs i 0).length:Int)<=k):Si sp lg cs (i+1) es:=by
 refine⟨bN h.ok (cu h.ok2 k2),?_⟩;have c:=h.c;rw[show k.toNat=(aw cs i 0).length from by omega, <-O6 i0]at c;exact c
theorem aeR (h:Si sp lg cs i es)(i1:i<=cs.length)(i2:(cs.length:Int)<=i):Sl sp lg cs qs c 0 es:=
 ⟨cu h.ok i2,cg,by have c:=h.c;rw[show i.toNat=cs.length from by omega]at c;simpa[lh]using c⟩
theorem aa2 (h:Sl sp lg cs qs c j es)(j0:0<=j)(j1:j<qs.length)(hc:ap cs<=1073741824)(hq:qs.length<=1073741824)(hh:D1 sp lg qs c j=true):Sl sp lg cs qs c (j+1) (huI es (ag qs j 0)):=by
 have l:=qG (cs:=cs) cs.length (Ze _);rw[Y1]at l;unfold ap at hc;refine⟨h.ok,bN h.ok2 hh,?_⟩;rw[zu j0, <-Zp];refine EH h.c ?_;rw[Zf,fY];omega
theorem aeu (h:Sl sp lg cs qs c i es)(i1:i<=qs.length)(i2:(qs.length:Int)<=i):Sg sp lg cs qs fl c 0 es:=
 ⟨h.ok,cu h.ok2 i2,cg,by have c:=h.c;rw[show i.toNat=qs.length from by omega]at c;simpa[lh]using c⟩
theorem aaH (h:Sg sp lg cs qs fl c j es)(j0:0<=j)(j1:j<fl.length)(hc:ap cs<=1073741824)(hq:qs.length<=1073741824)(hf:fl.length<=30)(hh:hlB sp lg (ag fl j 0) (-1)=true):Sg sp lg cs qs fl c (j+1) (huI es (ag fl j 0)):=by
 have l:=qG (cs:=cs) cs.length (Ze _);rw[Y1]at l;unfold ap at hc;refine⟨h.ok,h.ok2,bN h.ok3 hh,?_⟩;rw[zu j0, <-Zp];refine EH h.c ?_;rw[Zf,Zf,fY,fY];omega
theorem aeC (h:Sg sp lg cs qs fl c i es)(i1:i<=fl.length)(i2:(fl.length:Int)<=i):OB sp lg os cs qs fl c 0 es:=
 ⟨h.ok,h.ok2,cu h.ok3 i2,by have c:=h.c;rw[show i.toNat=fl.length from by omega]at c;simpa[lh]using c⟩
theorem aaW (h:OB sp lg os cs qs fl c j es)(j0:0<=j)(j1:j<os.length)(hc:ap cs<=1073741824)(hq:qs.length<=1073741824)(ho:os.length<=1073741824)(hf:fl.length<=30):OB sp lg os cs qs fl c (j+1) (huI es (ag os j 1)):=by
 have l:=qG (cs:=cs) cs.length (Ze _);rw[Y1]at l;unfold ap at hc;refine⟨h.ok,h.ok2,h.ok3,?_⟩;rw[zu j0, <-Zp];refine EH h.c ?_;rw[Zf,Zf,Zf,fY,fY,fY];omega
structure MD (sp lg os cs qs fl:af)(t i:Int)(es:af):Prop where
 p:OB sp lg os cs qs fl t os.length es
 ok:upto (MO (K9 os cs qs fl) (xt sp lg)) i
theorem aey (h:OB sp lg os cs qs fl c i es)(i1:i<=os.length)(i2:(os.length:Int)<=i):MD sp lg os cs qs fl c 0 es:=⟨by rw[show(os.length:Int)=i from by omega];exact h,cg⟩
theorem aaS (h:MD sp lg os cs qs fl c i es)(m:Int):jc es m=((K9 os cs qs fl).count m:Int):=by
 have q:=h.p.c.c m;rw[ZG]at q;exact q
theorem aaT (h:MD sp lg os cs qs fl c i es)(e:jc es (ag (xt sp lg) i 0)=1):MD sp lg os cs qs fl c (i+1) es:=
 ⟨h.p,bN h.ok (by unfold MO;rw[aaS h]at e;exact VP (by omega))⟩
theorem aez (h:MD sp lg os cs qs (ifL b x) c i es)(i0:0<=i)(i1:i<(xt sp lg).length)(e:jc es (ag (xt sp lg) i 0)≠1):hoI sp lg os cs b x qs c=false:=
 P9 i0 i1 (by unfold MO;rw[aaS h]at e;exact VQ (by omega))
theorem P4 (h:MD sp lg os cs qs (ifL b x) c i es)(i2:((xt sp lg).length:Int)<=i):hoI sp lg os cs b x qs c=true:=by
 unfold hoI;rw[h.p.ok,h.p.ok2,h.p.ok3,cu h.ok i2];rfl
end
end Go.V
namespace Go.V
structure S1P (os:af)(i:Int)(o:af):Prop where
 e:o=j8 (lh os 1 i.toNat)
structure S2P (sp lg os cs:af)(i:Int)(o:af):Prop where
 ok:upto (iA sp lg cs) i
 e:o=j8 (lh os 1 os.length++uD cs i.toNat)
structure S3P (sp lg os cs:af)(i k:Int)(o:af):Prop where
 ok:upto (iA sp lg cs) i
 ok2:upto (kA sp lg (aw cs i 0)) k
 e:o=j8 (lh os 1 os.length++(uD cs i.toNat++AC (aw cs i 0) k.toNat))
structure S4P (sp lg os cs:af)(i k j:Int)(o:af):Prop where
 ok:upto (iA sp lg cs) i
 ok2:upto (kA sp lg (aw cs i 0)) k
 ok3:upto (jA sp lg (aw (aw cs i 0) k 0) k) j
 e:o=j8 (lh os 1 os.length++(uD cs i.toNat++AC (aw cs i 0) k.toNat++lh (aw (aw cs i 0) k 0) 0 j.toNat))
structure S5P (sp lg os cs qs:af)(j:Int)(o:af):Prop where
 ok:cT (iA sp lg cs) cs.length=true
 ok2:upto (qA sp lg qs) j
 e:o=j8 (lh os 1 os.length++uD cs cs.length++lh qs 0 j.toNat)
structure S6P (sp lg os cs qs fl:af)(j:Int)(o:af):Prop where
 ok:cT (iA sp lg cs) cs.length=true
 ok2:cT (qA sp lg qs) qs.length=true
 ok3:upto (jA sp lg fl (-1)) j
 e:o=j8 (lh os 1 os.length++uD cs cs.length++lh qs 0 qs.length++lh fl 0 j.toNat)
structure S7P (sp lg os cs qs fl:af)(j:Int)(o:af):Prop where
 ok:cT (iA sp lg cs) cs.length=true
 ok2:cT (qA sp lg qs) qs.length=true
 ok3:cT (jA sp lg fl (-1)) fl.length=true
 e:o=j8 (La os cs qs fl)
 nd:((La os cs qs fl).take j.toNat).Nodup
section
variable {sp lg os cs b x qs fl o: af} {i k j: Int}
theorem H8 {a k:Int}(hl:layOk sp lg=true)(h:hlB sp lg a k=true):Fc sp lg a=true:=by
 unfold hlB at h;simp only[Zc,VR]at h;exact(Fe hl).2 ⟨h.2.1,.inl h.1⟩
theorem ab4 {a s:Int}(hl:layOk sp lg=true)(h:okO sp lg a s=true):Fc sp lg a=true:=by
 unfold okO at h;simp only[Zc,Z4,VR]at h;exact(Fe hl).2 ⟨h.1,h.2.elim (fun q=>.inl q.1) (fun q=>.inr q.1)⟩
def QG (sp lg:af):List Int:=Nx sp lg 512
theorem abv (hl:layOk sp lg=true):xt sp lg=j8 (QG sp lg):=by unfold xt QG;rw[VT hl,v6]
theorem LE (hl:layOk sp lg=true){a:Int}:a∈QG sp lg↔Fc sp lg a=true:=by
 unfold QG;rw[qX]
 constructor;exact fun h=>h.2.2
 ·intro h;have F:=LC hl;have v:=Nz F hl h;have r:a∈Qb sp lg:=Fl.2 v;refine⟨?_,?_,h⟩
  ·rcases v with⟨i,k,i1,k1,_,e⟩|⟨j,j1,e⟩
   ·have ae:=nW (s:=(k:Int)) (F.s i i1) (by omega) (by omega);have t:=li (F.s i i1);omega
   ·have t:=ma (F.l j j1);omega
  ·rcases v with⟨i,k,i1,k1,_,e⟩|⟨j,j1,e⟩
   ·have ae:=nW (s:=(k:Int)) (F.s i i1) (by omega) (by omega);have t:=li (F.s i i1);omega
   ·have t:=ma (F.l j j1);have b:=oP t.1;omega
theorem QX:(QG sp lg).Nodup:=(DY 512).imp (fun h=>by omega)
theorem Fx:(K9 os cs qs fl).Perm (La os cs qs fl):=by
 unfold K9 La;have q:=List.perm_append_comm (l₁:=uD cs cs.length++lh qs 0 qs.length++lh fl 0 fl.length) (l₂:=lh os 1 os.length);refine q.trans ?_;rw[Zp,Zp,Zp]
theorem I0 {l m:List Int}(hm:m.Nodup)(hs:∀ v∈l,v∈m):(∀ v∈m,l.count v=1)↔l.Nodup/\l.length=m.length:=by
 constructor
 ·intro h;have nd:l.Nodup:=WV.2 (fun v=>by
   by_cases c:v∈l
   ·rw[h v (hs v c)];exact Ze _
   ·rw[WT.2 c];omega)
  refine⟨nd,?_⟩;have p:l.Perm m:=by
   rw[List.perm_ext_iff_of_nodup nd hm];intro v;refine⟨hs v,fun hv=>?_⟩;have:=h v hv;exact WW.1 (by omega)
  exact p.length_eq
 ·rintro⟨nd,len⟩ v hv;have hv':v∈l:=by
   by_cases c:v∈l;exact c
   ·exfalso;have q:=VD (l₁:=v::l) (l₂:=m) (List.nodup_cons.2 ⟨c,nd⟩) (fun y hy=>by
     rcases Zl.1 hy with rfl|hy;exact hv
     ·exact hs y hy)
    rw[Zj]at q;omega
  have p1:=WV.1 nd v;have p2:=WW.2 hv';omega
theorem dP {p:Int->Bool}{n:Nat}(h:cT p n=true):∀ k:Nat,k<n->p k=true:=fun k hk=>dh.1 h k (by omega) (by omega)
theorem L2 {c:Int}:cT (D1 sp lg qs c) qs.length=(cT (qA sp lg qs) qs.length&&cT (sA qs c) qs.length):=by
 refine lB ?_;rw[Zc,dh,dh,dh];unfold upto D1
 constructor
 ·intro h;refine⟨fun j h0 h1=>?_,fun j h0 h1=>?_⟩
  ·have:=h j h0 h1;rw[Zc]at this;exact this.1
  ·have:=h j h0 h1;rw[Zc]at this;exact this.2
 ·rintro⟨h,g⟩ j h0 h1;rw[h j h0 h1,g j h0 h1];rfl
theorem aaV {nx c:Int}(hl:layOk sp lg=true)(ho:objOk sp lg os cs nx=true):hoI sp lg os cs b x qs c=(hoS sp lg os cs b x qs&&cT (sA qs c) qs.length):=by
 unfold hoI hoS;rw[L2];by_cases h1:cT (iA sp lg cs) cs.length=true
 case neg=>rw[Wg]at h1;rw[h1];rfl
 by_cases h2:cT (qA sp lg qs) qs.length=true
 case neg=>rw[Wg]at h2;rw[h2];simp
 by_cases h3:cT (jA sp lg (ifL b x) (-1)) (ifL b x).length=true
 case neg=>rw[Wg]at h3;rw[h3];simp
 have sub:∀ v∈K9 os cs qs (ifL b x),v∈QG sp lg:=by
  intro v hv;rw[LE hl];unfold K9 at hv;rw[Zg,Zg,Zg]at hv;rcases hv with((hv|hv)|hv)|hv
  ·obtain⟨i,i1,hv⟩:=Fi.1 hv;obtain⟨k,k1,hv⟩:=Fj.1 hv;obtain⟨j,j1,rfl⟩:=qW.1 hv;have q1:=dP h1 i i1;have q2:=dP q1 k k1;have q3:=dP q2 j j1;exact H8 hl q3
  ·obtain⟨j,j1,rfl⟩:=qW.1 hv;exact H8 hl (dP h2 j j1)
  ·obtain⟨j,j1,rfl⟩:=qW.1 hv;exact H8 hl (dP h3 j j1)
  ·obtain⟨j,j1,rfl⟩:=qW.1 hv;have q:=dP ho j j1;unfold yv at q;simp only[Zc]at q;exact ab4 hl q.2.2.2.2
 have key:=I0 QX sub;have e1:cT (MO (K9 os cs qs (ifL b x)) (xt sp lg)) (xt sp lg).length=(decide (La os cs qs (ifL b x)).Nodup&&decide ((La os cs qs (ifL b x)).length=(xt sp lg).length)):=by
  refine lB ?_;rw[Zc,VR,VR, <-Fx.nodup_iff, <-Fx.length_eq,abv hl,jp, <-key]
  constructor
  ·intro h v hv;obtain⟨n,n1,rfl⟩:=List.mem_iff_getElem.1 hv;have q:=dP h n n1;unfold MO at q;rw[Jt n1,VR]at q;exact q
  ·intro h;rw[dh];intro j h0 h1;have n1:j.toNat<(QG sp lg).length:=by omega
   have q:=Jt n1;rw[Zr h0]at q;unfold MO;rw[q,VR];exact h _ (List.getElem_mem n1)
 rw[h1,h2,h3,e1];simp only[Yp];exact Bool.and_comm _ _
end
end Go.V
namespace Go.V
theorem E5 {n:Int}:∀ {es:af},SB es->∀ m,m∈m9 (mO es n (.v (.bool true)))↔m∈m9 es\/m=n
 | [],_,m=>by
   show m∈m9 [[.i n,.v (.bool true)]]↔_;simp[m9,kOf]
 | e::es,h,m=>by
   obtain⟨k,b,rfl⟩:=h e (by simp);have h':SB es:=fun e he=>h e (by simp[he])
   have ih:=E5 (n:=n) h' m;rw[Fo];by_cases c:k=n
   ·rw[VT c];subst c;show m∈k::m9 es↔m∈k::m9 es\/m=k;simp only[Zl]
    constructor;exact fun h=>.inl h
    ·rintro(h|h);exact h;exact .inl h
   ·rw[VU c];show m∈k::m9 (mO es n (.v (.bool true)))↔m∈k::m9 es\/m=n;simp only[Zl,ih,or_assoc]
structure uX (es:af)(l:List Int):Prop where
 s:pA es l
 k:∀ m,m∈m9 es↔m∈l
theorem ab9:uX [] []:=⟨D9,fun m=>Iff.rfl⟩
theorem I4 {es:af}{l:List Int}{n:Int}(h:uX es l):uX (mO es n (.v (.bool true))) (l++[n]):=
 ⟨uR h.s,fun m=>by rw[E5 h.s.wf,h.k,Zg,Z8]⟩
def AH (sp:af)(i:Int):Bool:= !(decide (0<i)&&decide (ag sp i 0<=ag sp (i-1) 0))
def M6 (es:af)(p:Int):Bool:=decide ((fpg es p).length=1)
def Dq (es lg:af)(i:Int):Bool:=AH lg i&&cT (fun k=>M6 es (ag lg i 0+k)) (ag lg i 1).toNat
def ownB (sp lg:af)(p:Int):Bool:=decide (p∈BF sp lg)
def mapB (es:af)(p:Int):Bool:=decide (peM es p≠0)
def GR (es fr sp lg:af)(p:Int):Bool:=(mapB es p==ownB sp lg p)&& !(rhB fr p==ownB sp lg p)
def odB (es sp lg:af):Bool:=decide (∀ p∈BF sp lg,p<es.length)
def LH (sp:af)(i j:Int):Bool:=mshB (ag sp i 0) (ag sp i 1) (ag sp i 2) (ag sp j 0) (ag sp j 1) (ag sp j 2)
def Ka (es sp:af)(i j:Int):Bool:= !decide (peF es (ag sp i 0)=peF es (ag sp j 0))||LH sp i j
def Kb (es sp:af)(i:Int):Bool:=cT (Ka es sp i) i.toNat
def pgI (es fr sp lg:af):Bool:=cT (AH sp) sp.length&&(cT (Dq es lg) lg.length&&(cT (GR es fr sp lg) es.length&&(odB es sp lg&&cT (Kb es sp) sp.length)))
section
variable {es fr sp lg m: af} {i j k p: Int} {vs: List Int}
theorem N7 (h:0<i)(g:ag sp i 0<=ag sp (i-1) 0):AH sp i=false:=by unfold AH;rw[VP h,VP g];rfl
theorem N8 (h:i<=0):AH sp i=true:=by unfold AH;rw[VQ (by omega)];rfl
theorem N9 (h:ag sp (i-1) 0<ag sp i 0):AH sp i=true:=by unfold AH;rw[VQ (p:=ag sp i 0<=_) (by omega)];simp
theorem ach (i0:0<=i)(i1:i<sp.length)(h:AH sp i=false):pgI es fr sp lg=false:=by unfold pgI;rw[cN i0 i1 h];rfl
theorem NH (i0:0<=i)(i1:i<lg.length)(h:Dq es lg i=false):pgI es fr sp lg=false:=by unfold pgI;rw[cN i0 i1 h];simp
theorem NI (i0:0<=i)(i1:i<es.length)(h:GR es fr sp lg i=false):pgI es fr sp lg=false:=by unfold pgI;rw[cN i0 i1 h];simp
theorem aci (h:odB es sp lg=false):pgI es fr sp lg=false:=by unfold pgI;rw[h];simp
theorem acj (i0:0<=i)(i1:i<sp.length)(h:Kb es sp i=false):pgI es fr sp lg=false:=by unfold pgI;rw[cN i0 i1 h];simp
theorem afH {a b c d:Int}(h1:upto (AH sp) a)(g1:(sp.length:Int)<=a)(h2:upto (Dq es lg) b)(g2:(lg.length:Int)<=b)(h3:upto (GR es fr sp lg) c)(g3:(es.length:Int)<=c)(h4:odB es sp lg=true)(h5:upto (Kb es sp) d)(g5:(sp.length:Int)<=d):pgI es fr sp lg=true:=by
 unfold pgI;rw[cu h1 g1,cu h2 g2,cu h3 g3,h4,cu h5 g5];rfl
theorem abx (h:AH lg i=false):Dq es lg i=false:=by unfold Dq;rw[h];rfl
theorem aby (k0:0<=k)(k1:k<ag lg i 1)(h:(fpg es (ag lg i 0+k)).length≠1):Dq es lg i=false:=by
 unfold Dq;rw[cN (i:=k) (n:=(ag lg i 1).toNat) k0 (by omega) (show M6 es (ag lg i 0+k)=false from VQ h),Yh]
theorem afj (h:AH lg i=true)(g:upto (fun k=>M6 es (ag lg i 0+k)) k)(k1:ag lg i 1<=k)(n0:0<=ag lg i 1):Dq es lg i=true:=by
 unfold Dq;rw[h,cu g (by omega)];rfl
theorem aak (g:upto (fun k=>M6 es (ag lg i 0+k)) k)(h:(fpg es (ag lg i 0+k)).length=1):upto (fun k=>M6 es (ag lg i 0+k)) (k+1):=bN g (VP h)
structure SA (es sp lg:af)(j:Int)(m:af):Prop where
 ok:upto (Dq es lg) j
 o:uX m (mP sp sp.length++nS lg j.toNat)
structure Sw (es sp lg:af)(j k:Int)(m:af):Prop where
 ok:upto (Dq es lg) j
 h:AH lg j=true
 g:upto (fun k=>M6 es (ag lg j 0+k)) k
 o:uX m (mP sp sp.length++nS lg j.toNat++tN (ag lg j 0) k.toNat)
theorem afI (h:uX m (mP sp i.toNat))(i1:i<=sp.length)(i2:(sp.length:Int)<=i):SA es sp lg 0 m:=⟨cg,by rw[show i.toNat=sp.length from by omega]at h;simpa[nS]using h⟩
theorem ack (h:SA es sp lg j m)(g:AH lg j=true):Sw es sp lg j (ag lg j 0-ag lg j 0) m:=by
 rw[Int.sub_self];exact⟨h.ok,g,cg,by simpa[tN]using h.o⟩
theorem acm (h:Sw es sp lg j (p-ag lg j 0) m)(p0:ag lg j 0<=p)(g:(fpg es p).length=1):Sw es sp lg j (p+1-ag lg j 0) (mO m p (.v (.bool true))):=by
 have e:ag lg j 0+(p-ag lg j 0)=p:=by omega
 rw[show p+1-ag lg j 0=(p-ag lg j 0)+1 from by omega];refine⟨h.ok,h.h,aak h.g (by rw[e];exact g),?_⟩;rw[DW (by omega),e, <-Zp];exact I4 h.o
theorem acl (p0:ag lg j 0<=p)(p1:p<ag lg j 0+ag lg j 1)(h:(fpg es p).length≠1):Dq es lg j=false:=
 aby (k:=p-ag lg j 0) (by omega) (by omega) (by rw[show ag lg j 0+(p-ag lg j 0)=p from by omega];exact h)
theorem acn (h:Sw es sp lg j (p-ag lg j 0) m)(j0:0<=j)(n0:0<=ag lg j 1)(p1:p<=ag lg j 0+ag lg j 1)(p2:ag lg j 0+ag lg j 1<=p):SA es sp lg (j+1) m:=by
 refine⟨bN h.ok (afj h.h h.g (by omega) n0),?_⟩;have o:=h.o;rw[show(p-ag lg j 0).toNat=(ag lg j 1).toNat from by omega,Zp, <-Dv j0]at o;exact o
theorem Ra (h:SA es sp lg j m)(j1:j<=lg.length)(j2:(lg.length:Int)<=j):uX m (BF sp lg):=by
 have o:=h.o;rw[show j.toNat=lg.length from by omega]at o;exact o
theorem aca (h:uX m (BF sp lg))(p:Int):mgbI m p=ownB sp lg p:=by
 refine lB ?_;unfold ownB;rw[h.s.at_,VR]
theorem aaa (h:mapB es p≠ownB sp lg p):GR es fr sp lg p=false:=by unfold GR;rw[beq_eq_false_iff_ne.2 h];rfl
theorem aab (h:rhB fr p=ownB sp lg p):GR es fr sp lg p=false:=by unfold GR;rw[h];simp
theorem aec (h:mapB es p=ownB sp lg p)(g:rhB fr p≠ownB sp lg p):GR es fr sp lg p=true:=by unfold GR;rw[h,beq_eq_false_iff_ne.2 g];simp
theorem afB (h:p∈BF sp lg)(g:(es.length:Int)<=p):odB es sp lg=false:=VQ (fun c=>by have:=c p h;omega)
theorem afC (o:uX m (BF sp lg))(h:∀ k∈vs,k<es.length)(g:∀ k∈m9 m,k∈vs):odB es sp lg=true:=VP (fun p hp=>h p (g p ((o.k p).2 hp)))
theorem ada {q:Int}(h:∀ k∈vs,k<(es.length:Int))(g:q<es.length):∀ k∈q::vs,k<(es.length:Int):=fun k hk=>by
 rcases Zl.1 hk with rfl|hk;exact g;exact h k hk
theorem afn (j0:0<=j)(j1:j<i)(h:peF es (ag sp i 0)=peF es (ag sp j 0))(g:LH sp i j=false):Kb es sp i=false:=by
 unfold Kb;exact cN j0 (by omega) (by unfold Ka;rw[g,VP h];rfl)
theorem abF (h:peF es (ag sp i 0)≠peF es (ag sp j 0)):Ka es sp i j=true:=by unfold Ka;rw[VQ h];rfl
theorem abG (h:LH sp i j=true):Ka es sp i j=true:=by unfold Ka;rw[h,Bool.or_true]
theorem afo (h:upto (Ka es sp i) j)(g:i<=j)(i0:0<=i):Kb es sp i=true:=by unfold Kb;exact cu h (by omega)
structure QlP (es sp lg:af)(j:Int)(o:af):Prop where
 ok:upto (Dq es lg) j
 e:o=j8 (mP sp sp.length++nS lg j.toNat)
 l:(nS lg j.toNat).length<=64*j.toNat
structure QkP (es sp lg:af)(j k:Int)(o:af):Prop where
 ok:upto (Dq es lg) j
 h:AH lg j=true
 g:upto (fun k=>M6 es (ag lg j 0+k)) k
 e:o=j8 (mP sp sp.length++nS lg j.toNat++tN (ag lg j 0) k.toNat)
 l:(nS lg j.toNat).length<=64*j.toNat
structure QsP (sp:af)(i:Int)(o:af):Prop where
 ok:upto (AH sp) i
 e:o=j8 (mP sp i.toNat)
variable {o: af}
end
end Go.V
namespace Go.V
def abl (k m:Int)(cs:af)(ph nx:Int):Bool:=decide (ph=0)&&(decide (nx=0)&&(decide (k=0)&&(decide (m=0)&&decide (cs.length=0))))
def xJ (sp:af)(me:Bool)(k m:Int)(cs:af)(ph nx:Int):Bool:=
 bif me then(jbOk k m cs ph nx&&(decide (0<=spI sp k)&&decide (0<=spI sp m)))else abl k m cs ph nx
def SC (cs:af)(i:Int):Bool:=caOk (aw cs i 0)
def hpI (a0 a1 a2:af)(a3:Int)(a4 a5 a6 a7 a8 a9 aA aB:af)(aC:Int)(aD:af)(aE aF aG aH:Int)(aI:Bool)(aJ aK:Int)(aL:af)(aM aN:Int):Bool:=
 kerOk a0 a1 a2 a3 a4&&(rgOk a2.length a5&&(layOk a6 a7&&(pgI a2 a5 a6 a7&&(mailOk aA aB&&(decide (a9.length=aA.length)&&(quarOk aC aD&&(cT (SC a9) a9.length&&
  (objOk a6 a7 a8 a9 aH&&(hoI a6 a7 a8 a9 aA aB aD aF&&(inR aE 0 1073741823&&(inR aF 0 1000000&&(inR aG 0 1000&&(inR aH 1 1000000&&xJ a6 aI aJ aK aL aM aN)))))))))))))
structure HpN (a0 a1 a2 a4 a5 a6 a7 a8 a9 aA aB aD aL:af):Prop where
 n:NsH a6 a7 a8 a9 aA aB aD
 c:Rw [.sl [tI]] a0
 u:Rw [tB] a1
 e:Rw [tI,tI] a2
 el:a2.length<=1073741824
 r:Rw [tI] a4
 f:Rw [tI,tI] a5
 fl:a5.length<=1073741824
 j:Rw [tI] aL
 jl:aL.length<=1073741824
section
variable {a0 a1 a2: af} {a3: Int} {a4 a5 a6 a7 a8 a9 aA aB: af} {aC: Int} {aD: af} {aE aF aG aH: Int} {aI: Bool} {aJ aK: Int} {aL: af} {aM aN: Int} {i: Int}
theorem aeF (h:kerOk a0 a1 a2 a3 a4=false):hpI a0 a1 a2 a3 a4 a5 a6 a7 a8 a9 aA aB aC aD aE aF aG aH aI aJ aK aL aM aN=false:=by unfold hpI;rw[h];simp
theorem aeM (h:rgOk a2.length a5=false):hpI a0 a1 a2 a3 a4 a5 a6 a7 a8 a9 aA aB aC aD aE aF aG aH aI aJ aK aL aM aN=false:=by unfold hpI;rw[h];simp
theorem aeG (h:layOk a6 a7=false):hpI a0 a1 a2 a3 a4 a5 a6 a7 a8 a9 aA aB aC aD aE aF aG aH aI aJ aK aL aM aN=false:=by unfold hpI;rw[h];simp
theorem aeK (h:pgI a2 a5 a6 a7=false):hpI a0 a1 a2 a3 a4 a5 a6 a7 a8 a9 aA aB aC aD aE aF aG aH aI aJ aK aL aM aN=false:=by unfold hpI;rw[h];simp
theorem aeH (h:mailOk aA aB=false):hpI a0 a1 a2 a3 a4 a5 a6 a7 a8 a9 aA aB aC aD aE aF aG aH aI aJ aK aL aM aN=false:=by unfold hpI;rw[h];simp
theorem aeI (h:decide (a9.length=aA.length)=false):hpI a0 a1 a2 a3 a4 a5 a6 a7 a8 a9 aA aB aC aD aE aF aG aH aI aJ aK aL aM aN=false:=by unfold hpI;rw[h];simp
theorem aeL (h:quarOk aC aD=false):hpI a0 a1 a2 a3 a4 a5 a6 a7 a8 a9 aA aB aC aD aE aF aG aH aI aJ aK aL aM aN=false:=by unfold hpI;rw[h];simp
theorem aeD (h:cT (SC a9) a9.length=false):hpI a0 a1 a2 a3 a4 a5 a6 a7 a8 a9 aA aB aC aD aE aF aG aH aI aJ aK aL aM aN=false:=by unfold hpI;rw[h];simp
theorem aeJ (h:objOk a6 a7 a8 a9 aH=false):hpI a0 a1 a2 a3 a4 a5 a6 a7 a8 a9 aA aB aC aD aE aF aG aH aI aJ aK aL aM aN=false:=by unfold hpI;rw[h];simp
theorem aeE (h:hoI a6 a7 a8 a9 aA aB aD aF=false):hpI a0 a1 a2 a3 a4 a5 a6 a7 a8 a9 aA aB aC aD aE aF aG aH aI aJ aK aL aM aN=false:=by unfold hpI;rw[h];simp
theorem aeN (h:inR aE 0 1073741823=false):hpI a0 a1 a2 a3 a4 a5 a6 a7 a8 a9 aA aB aC aD aE aF aG aH aI aJ aK aL aM aN=false:=by unfold hpI;rw[h];simp
theorem aeO (h:inR aF 0 1000000=false):hpI a0 a1 a2 a3 a4 a5 a6 a7 a8 a9 aA aB aC aD aE aF aG aH aI aJ aK aL aM aN=false:=by unfold hpI;rw[h];simp
theorem aeP (h:inR aG 0 1000=false):hpI a0 a1 a2 a3 a4 a5 a6 a7 a8 a9 aA aB aC aD aE aF aG aH aI aJ aK aL aM aN=false:=by unfold hpI;rw[h];simp
theorem aeQ (h:inR aH 1 1000000=false):hpI a0 a1 a2 a3 a4 a5 a6 a7 a8 a9 aA aB aC aD aE aF aG aH aI aJ aK aL aM aN=false:=by unfold hpI;rw[h];simp
theorem aa1 (h:(a9.length:Int)≠aA.length):hpI a0 a1 a2 a3 a4 a5 a6 a7 a8 a9 aA aB aC aD aE aF aG aH aI aJ aK aL aM aN=false:=aeI (VQ (by omega))
theorem aaX (i0:0<=i)(i1:i<a9.length)(h:caOk (aw a9 i 0)=false):hpI a0 a1 a2 a3 a4 a5 a6 a7 a8 a9 aA aB aC aD aE aF aG aH aI aJ aK aL aM aN=false:=aeD (cN i0 i1 h)
theorem Qa (hk:kerOk a0 a1 a2 a3 a4=true)(hr:rgOk a2.length a5=true)(hl:layOk a6 a7=true)(hp:pgI a2 a5 a6 a7=true)(hm:mailOk aA aB=true)(hn:decide (a9.length=aA.length)=true)(hq:quarOk aC aD=true)(hc:cT (SC a9) a9.length=true)(ho:objOk a6 a7 a8 a9 aH=true)(hh:hoI a6 a7 a8 a9 aA aB aD aF=true)(hs:inR aE 0 1073741823=true)(ht:inR aF 0 1000000=true)(hw:inR aG 0 1000=true)(hx:inR aH 1 1000000=true):hpI a0 a1 a2 a3 a4 a5 a6 a7 a8 a9 aA aB aC aD aE aF aG aH aI aJ aK aL aM aN=xJ a6 aI aJ aK aL aM aN:=by unfold hpI;rw[hk,hr,hl,hp,hm,hn,hq,hc,ho,hh,hs,ht,hw,hx];rfl
structure HpT (a0 a1 a2:af)(a3:Int)(a4 a5 a6 a7 a8 a9 aA aB:af)(aC:Int)(aD:af)(aE aF aG aH:Int)(aI:Bool)(aJ aK:Int)(aL:af)(aM aN:Int):Prop where
 k:kerOk a0 a1 a2 a3 a4=true
 r:rgOk a2.length a5=true
 l:layOk a6 a7=true
 p:pgI a2 a5 a6 a7=true
 m:mailOk aA aB=true
 n:decide (a9.length=aA.length)=true
 q:quarOk aC aD=true
 c:cT (SC a9) a9.length=true
 o:objOk a6 a7 a8 a9 aH=true
 h:hoI a6 a7 a8 a9 aA aB aD aF=true
 s:inR aE 0 1073741823=true
 t:inR aF 0 1000000=true
 w:inR aG 0 1000=true
 x:inR aH 1 1000000=true
 j:xJ a6 aI aJ aK aL aM aN=true
theorem gB (h:hpI a0 a1 a2 a3 a4 a5 a6 a7 a8 a9 aA aB aC aD aE aF aG aH aI aJ aK aL aM aN=true):HpT a0 a1 a2 a3 a4 a5 a6 a7 a8 a9 aA aB aC aD aE aF aG aH aI aJ aK aL aM aN:=by
 unfold hpI at h;simp only[Zc]at h;obtain⟨hk,hr,hl,hp,hm,hn,hq,hc,ho,hh,hs,ht,hw,hx,hj⟩:=h;exact⟨hk,hr,hl,hp,hm,hn,hq,hc,ho,hh,hs,ht,hw,hx,hj⟩
theorem abm (h:jbOk aJ aK aL aM aN=false):false=xJ a6 true aJ aK aL aM aN:=by unfold xJ;rw[h];rfl
theorem abn (h:spI a6 aJ<0):false=xJ a6 true aJ aK aL aM aN:=by unfold xJ;rw[VQ (p:=0<=spI a6 aJ) (by omega)];simp
theorem abo (h:jbOk aJ aK aL aM aN=true)(g:0<=spI a6 aJ):cW .geq (spI a6 aK) 0=xJ a6 true aJ aK aL aM aN:=by unfold xJ;rw[h,VP g];rfl
end
end Go.V
namespace Go.V
def obD (a s ad:Int):Bool:=inR ad a (bO .sub Za (bO .add Za a s) 1)
def obC (os:af)(ad j:Int):Bool:=obD (ag os j 1) (ag os j 2) ad
def ofI (os:af)(ad:Int):Int:=cQ (obC os ad) os.length
def ooI (b:Bool)(os:af)(ad:Int):Int:=if b=true then ofI os ad else-1
theorem ab2 {sp lg:af}{a s:Int}(h:okO sp lg a s=true):0<=a/\a<=2000/\1<=s/\s<=1000:=by
 unfold okO at h;simp only[Zc,Z4,VR]at h;obtain⟨_,⟨k,c⟩|⟨k,c⟩⟩:=h
 ·have e:=HJ k;have q:0<=gn sp a:=by
   unfold dnK at k;by_cases w:0<=gn sp a;exact w
   ·rw[VU w]at k;split at k<;>omega
  have t:=(fV q).2;change yD sp a (gn sp a)=true at t;obtain⟨t1,t2,t3⟩:=sK.1 (wK.1 t);have hs:=li t1;have hk:=be.1 hs.2.2.1;have w:dnI sp lg a=gn sp a:=by unfold dnI;rw[VT q]
  rw[w]at c;have b:=MR (s:=s) (by omega);omega
 ·have q:¬ 0<=gn sp a:=fun w=>by
   unfold dnK at k;rw[VT w]at k;split at k<;>omega
  have g:0<=k9 lg a:=by
   unfold dnK at k;rw[VU q]at k;by_cases w:0<=k9 lg a;exact w
   ·rw[VU w]at k;omega
  have t:=(fV g).2;change yq lg a (k9 lg a)=true at t;have w:dnI sp lg a=k9 lg a:=by unfold dnI;rw[VU q,VT g]
  rw[w]at c;unfold yq lhB at t;rw[Zc]at t;obtain⟨t1,t2,t3,t4⟩:=ma t.1;have u:=be.1 t.2;have v:=be.1 t1;have pf:0<=ag lg (k9 lg a) 1:=by rw[t2];unfold pfN;split<;>omega
  omega
theorem ab0 {sp lg os cs:af}{nx i:Int}(h:objOk sp lg os cs nx=true)(i0:0<=i)(i1:i<os.length):0<=ag os i 1/\ag os i 1<=2000/\1<=ag os i 2/\ag os i 2<=1000:=by
 have t:=dh.1 h i i0 i1;unfold yv at t;simp only[Zc]at t;exact ab2 t.2.2.2.2
structure ObB (os:af):Prop where
 w:Rw [tI,tI,tI,tI] os
 l:os.length<=1099511627776
 b:∀ i:Int,0<=i->i<os.length->0<=ag os i 1/\ag os i 1<=2000/\1<=ag os i 2/\ag os i 2<=1000
end Go.V
namespace Go.V
def ldV (cs us es:af)(a:Int):Int:=if machOk cs us es=true/\leM es a≠0 then ag (aw cs (leF es a) 0) (leK a) 0 else 0
end Go.V
namespace Go.V
def hlV (o v:Int):Int:=if o<0 then 0 else v
def hlK (o:Int):Int:=if o<0 then 1 else 0
end Go.V
namespace Go.V
theorem HK {sp lg:af}{a:Int}(h:dnK sp lg a=1):dnI sp lg a=gn sp a/\0<=gn sp a/\gn sp a<sp.length/\Ct (ag sp (gn sp a) 0) (ag sp (gn sp a) 1) (ag sp (gn sp a) 2) a=true:=by
 have q:0<=gn sp a:=by
  unfold dnK at h;by_cases w:0<=gn sp a;exact w
  ·rw[VU w]at h;split at h<;>omega
 have t:=fV q;change gn sp a<sp.length/\yD sp a (gn sp a)=true at t;exact⟨by unfold dnI;rw[VT q],q,t.1,wK.1 t.2⟩
end Go.V
namespace Go.V
theorem Kr {a b:Int}:bO .and Za a b=(rL a&&&rL b).toInt:=Ay _
theorem S7 {m:Nat}(h:m<65536):bO .and Za (m:Int) 1=((m%2:Nat):Int):=by
 rw[Kr];have e:rL (m:Int)&&&rL 1=BitVec.ofNat 64 (m%2):=by
  apply BitVec.eq_of_toNat_eq;unfold rL;rw[BitVec.toNat_and,Xg,Y2,Y2];show(m%18446744073709551616)&&&1=_;rw[Nat.and_one_is_mod];omega
 rw[e,BitVec.toInt_eq_toNat_of_lt (by rw[Y2];omega),Y2];omega
theorem acQ {n t:Nat}(ht:t<=15):JD .shr Za (n:Int) (t:Int)=((n/2^t:Nat):Int):=by
 show Int.fdiv (n:Int) (2^(min (t:Int).toNat 64))=_;rw[show min (t:Int).toNat 64=t by omega,Int.fdiv_eq_ediv_of_nonneg _ (Int.le_of_lt (Int.pow_pos (by omega)))];rw[Int.natCast_ediv,Int.natCast_pow];rfl
theorem C9 {b:Int}{t:Nat}(hb:0<=b)(hb2:b<65536)(ht:t<=15):hsB b t=(rL b).getLsbD t:=by
 obtain⟨n,rfl⟩:=Z9 hb;have hs:slB (n:Int) (t:Int)=true:=BQ.2 ⟨by omega,by omega,by omega⟩;have hd:n/2^t<65536:=Nat.lt_of_le_of_lt (Nat.div_le_self _ _) (by omega);unfold hsB;rw[hs,acQ ht,S7 hd];unfold rL;rw[Xg,BitVec.getLsbD_ofNat,Nat.testBit_eq_decide_div_mod_eq];rw[VP (show t<64 by omega)];simp only[Yp];by_cases c:n/2^t%2=1
 ·rw[VP c,VP (by omega)]
 ·rw[VQ c,VQ (by omega)]
theorem zZ {p k b:Int}(h:spOk p k b=true):0<=b/\b<65536:=by
 have t:=(li h).2.2.2;unfold bmOk at t;simp only[Zc,be]at t;obtain⟨⟨n0,n1⟩,b0,b1⟩:=t;have q:(2:Int)^(slN k).toNat<=2^16:=by
  have:=Nat.pow_le_pow_right (n:=2) (by omega) (show(slN k).toNat<=16 by omega)
  exact_mod_cast this
 have:(2:Int)^16=65536:=rfl;omega
end Go.V
namespace Go.V
structure PgT (es fr sp lg:af):Prop where
 l:∀ j:Nat,j<lg.length->∀ q:Int,ag lg j 0<=q->q<ag lg j 0+ag lg j 1->(fpg es q).length=1
 m:∀ q:Int,0<=q->q<es.length->(peM es q≠0↔q∈BF sp lg)
 o:∀ q∈BF sp lg,q<es.length
 c:∀ i j:Nat,i<sp.length->j<sp.length->peF es (ag sp i 0)=peF es (ag sp j 0)->ag sp i 1=ag sp j 1
theorem pgT {es fr sp lg:af}(h:pgI es fr sp lg=true):PgT es fr sp lg:=by
 unfold pgI at h;simp only[Zc]at h;obtain⟨h1,h2,h3,h4,h5⟩:=h;have half:∀ i j:Nat,i<sp.length->j<i->peF es (ag sp i 0)=peF es (ag sp j 0)->ag sp i 1=ag sp j 1:=fun i j hi hj e=>by
  have a:=dP h5 i hi;unfold Kb at a;have b:=dP a j (by omega);unfold Ka at b;rw[VP e]at b;simp only[Bool.not_true,Bool.false_or]at b;unfold LH mshB at b;simp only[Zc,VR]at b;exact b.2.2.1
 refine⟨fun j hj q q0 q1=>?_,fun q q0 q1=>?_,VV h4,fun i j hi hj e=>?_⟩
 ·have a:=dP h2 j hj;unfold Dq at a;rw[Zc]at a;have b:=dP a.2 (q-ag lg j 0).toNat (by omega);unfold M6 at b;rw[show ag lg j 0+((q-ag lg j 0).toNat:Int)=q by omega]at b;exact VV b
 ·have a:=dP h3 q.toNat (by omega);rw[Zr q0]at a;unfold GR at a;rw[Zc]at a;have b:=eq_of_beq a.1;unfold mapB ownB at b;by_cases c:peM es q≠0
  ·rw[VP c]at b;exact⟨fun _=>VV b.symm,fun _=>c⟩
  ·rw[VQ c]at b;exact⟨fun x=>absurd x c,fun x=>absurd x (VW b.symm)⟩
 ·by_cases c:i=j
  ·rw[c]
  ·by_cases d:j<i;exact half i j hi d e;exact(half j i hj (by omega) e.symm).symm
end Go.V
namespace Go.V
def poN (sp lg fl:af):Nat->Int
 |0=>0
 |n+1=>poN sp lg fl n+clsSz (ag sp (dnI sp lg (ag fl n 0)) 1)
def ocF (s:Int):Int:=if 0<=clsOf s then clsSz (clsOf s)else s
def ocN (os:af):Nat->Int
 |0=>0
 |n+1=>ocN os n+ocF (ag os n 2)
end Go.V
namespace Go.V
theorem Hu {k:Int}(h:inR k 0 3=true):clsSz k=1\/clsSz k=2\/clsSz k=4\/clsSz k=8:=by
 have:=be.1 h;unfold clsSz;repeat' split<;>omega
theorem EW {c d:Int}(hc:c=1\/c=2\/c=4\/c=8)(d0:0<=d)(d1:d<=15)(h:d%c=0):d+c<=16:=by
 rcases hc with rfl|rfl|rfl|rfl<;>omega
theorem Q2 {es fr sp lg:af}{a s i:Int}(hl:layOk sp lg=true)(hp:pgI es fr sp lg=true)(h:okO sp lg a s=true)(i0:0<=i)(i1:i<s):0<=(a+i)/16/\(a+i)/16<es.length/\peM es ((a+i)/16)≠0:=by
 have F:=LC hl;have T:=pgT hp
 suffices h:0<=(a+i)/16/\(a+i)/16∈BF sp lg from⟨h.1,T.o _ h.2,(T.m _ h.1 (T.o _ h.2)).2 h.2⟩
 unfold okO at h;simp only[Zc,Z4,VR]at h;obtain⟨o,⟨k,c⟩|⟨k,c⟩⟩:=h
 ·obtain⟨e,q,l,t⟩:=HK k;obtain⟨t1,t2,t3⟩:=sK.1 t;obtain⟨e1,e2⟩:=wL t;have hs:=li t1;rw[e]at c;have b:=MR (s:=s) (by have:=be.1 hs.2.2.1;omega);rw[<-c]at b;have o':Mi sp a (gn sp a)=0:=by rw[<- (Pw (lg:=lg) q).2];exact o
  unfold Mi at o';rw[e2]at o';have fit:=EW (Hu hs.2.2.1) (by omega) (by omega) o';have p:(a+i)/16=ag sp (gn sp a) 0:=by omega
  rw[p];refine⟨hs.1,Zg.2 (.inl (uN.2 ⟨(gn sp a).toNat,by omega,?_⟩))⟩;rw[Zr q]
 ·have q:¬ 0<=gn sp a:=fun w=>by
   unfold dnK at k;rw[VT w]at k;split at k<;>omega
  have g:0<=k9 lg a:=by
   unfold dnK at k;rw[VU q]at k;by_cases w:0<=k9 lg a;exact w
   ·rw[VU w]at k;omega
  have t:=fV g;change k9 lg a<lg.length/\yq lg a (k9 lg a)=true at t;have w:dnI sp lg a=k9 lg a:=by unfold dnI;rw[VU q,VT g]
  rw[w]at c;rw[(Pv q g).2]at o;obtain⟨tl,tt⟩:=t;unfold SF loI at o;unfold yq at tt;rw[VT tt]at o;unfold lhB at tt;rw[Zc]at tt;obtain⟨t1,t2,t3,t4⟩:=ma tt.1;have v:ag lg (k9 lg a) 1=(ag lg (k9 lg a) 2+15)/16:=by rw[t2];unfold pfN;rw[VT t1]
  refine⟨by omega,Zg.2 (.inr (uM.2 ⟨(k9 lg a).toNat,by omega,?_,?_⟩))⟩
  ·rw[Zr g];omega
  ·rw[Zr g];omega
end Go.V
namespace Go.V
def ceI (cs es:af)(a:Int):Int:=ag (aw cs (peF es (a/16)) 0) (a%16) 0
def clN (cs es:af)(a:Int):Nat->af
 |0=>[]
 |n+1=>clN cs es a n++[[.i (ceI cs es (a+n))]]
structure ClP (cs es:af)(a i:Int)(o:af):Prop where
 e:o=clN cs es a i.toNat
structure ObC (cs es os:af):Prop where
 b:ObB os
 f:∀ j:Int,0<=j->j<os.length->∀ i:Int,0<=i->i<ag os j 2->0<=peF es ((ag os j 1+i)/16)/\peF es ((ag os j 1+i)/16)<cs.length/\(aw cs (peF es ((ag os j 1+i)/16)) 0).length=16
end Go.V
namespace Go.V
end Go.V
namespace Go.V
def Md (k b:Int):Nat->af
 |0=>[]
 |n+1=>if hsB b ((n:Int)/clsSz k)=true then Md k b n++[[.i n]]else Md k b n
def D8 (p k b:Int):af:=if spOk p k b=true then Md k b 16 else[]
structure agt (k b i:Int)(o:af):Prop where
 e:o=Md k b i.toNat
def scS (sp:af):Nat->Int
 |0=>0
 |n+1=>scS sp n+(D8 (ag sp n 0) (ag sp n 1) (ag sp n 2)).length
def lgS (lg:af):Nat->Int
 |0=>0
 |n+1=>lgS lg n+ag lg n 2
def O7 (ls:af):Nat->Int
 |0=>0
 |n+1=>O7 ls n+(aw ls n 0).length*clsSz n
end Go.V
namespace Go.V
structure MkP (f:Int->Bool)(o:af):Prop where
 w:Rw [tB] o
 l:o.length=16
 v:∀ c:Int,0<=c->c<16->pX o c 0=f c
def mkI (f:Int->Bool)(x:af)(i c:Int):Bool:=f c||hasB (x.take i.toNat) c
def mkJ (f g:Int->Bool)(i c:Int):Bool:=f c||(decide (c<i)&&g c)
def mbS (es sp:af)(p:Int):Nat->Int->Bool
 |0,_=>false
 |n+1,c=>mbS es sp p n c||(hasB (fpg es p) (ag sp n 0)&&hasB (D8 (ag sp n 0) (ag sp n 1) (ag sp n 2)) c)
def mbG (es sp lg:af)(p:Int):Nat->Int->Bool
 |0,c=>mbS es sp p sp.length c
 |n+1,c=>mbG es sp lg p n c||lhB (ag lg n 0) (ag lg n 1) (ag lg n 2) (p*16+c)
end Go.V
namespace Go.V
theorem Tj {ls:af}(h:caOk ls=true):ls.length=4/\∀ n:Nat,n<4->(aw ls n 0).length<=8:=by
 unfold caOk at h;simp only[Zc,VR]at h;refine⟨h.1,fun n hn=>?_⟩;have t:=dh.1 h.2.1 n (by omega) (by omega);unfold KF at t;simp only[Zc,VR]at t;exact t.1
def ceC (ls:af):Int:=if caOk ls=true then O7 ls ls.length else 0
structure agp (ls:af)(i t:Int):Prop where
 e:t=O7 ls i.toNat
def acN (cs:af):Nat->Int
 |0=>0
 |n+1=>acN cs n+ceC (aw cs n 0)
structure AcP (cs:af)(i t:Int):Prop where
 e:t=acN cs i.toNat
structure OcP (os:af)(i t:Int):Prop where
 e:t=ocN os i.toNat
structure PoP (sp lg fl:af)(i t:Int):Prop where
 e:t=poN sp lg fl i.toNat
structure agu (sp:af)(i t:Int):Prop where
 e:t=scS sp i.toNat
structure agr (sp lg:af)(i t:Int):Prop where
 e:t=scS sp sp.length+lgS lg i.toNat
def ifZ (b:Bool)(x:Int):Int:=if b=true then x else 0
def zlI (es:af):Int:=es.length
end Go.V
namespace Go.V
section
variable {cs es fr sp lg: af} {p k: Int} (hl: layOk sp lg = true) (hp: pgI es fr sp lg = true) (hm: peM es p ≠ 0) (k0: 0 <= k) (k1: k < 16)
include hl hp hm k0 k1
end
structure MsP (es sp:af)(p i:Int)(o:af):Prop where
 m:MkP (mbS es sp p i.toNat) o
structure McP (es sp:af)(p i j:Int)(o:af):Prop where
 m:MkP (mkI (mbS es sp p i.toNat) (D8 (ag sp i 0) (ag sp i 1) (ag sp i 2)) j) o
structure MgP (es sp lg:af)(p i:Int)(o:af):Prop where
 m:MkP (mbG es sp lg p i.toNat) o
structure MdP (es sp lg:af)(p i j:Int)(o:af):Prop where
 m:MkP (mkJ (mbG es sp lg p i.toNat) (fun c=>lhB (ag lg i 0) (ag lg i 1) (ag lg i 2) (p*16+c)) j) o
end Go.V
namespace Go.V
section
variable {r0 r1 r2 r3 r4 r5 r6 r7 r8 r9 r10 r11 r12: af}
theorem MU {n:Nat}(h:xW [r0,r1,r2,r3,r4,r5,r6,r7,r8,r9,r10,r11,r12]<=n):ap r0<=n/\ap r1<=n/\ap r2<=n/\ap r3<=n/\ap r4<=n/\ap r5<=n/\ap r6<=n/\ap r7<=n/\ap r8<=n/\ap r9<=n/\ap r10<=n/\ap r11<=n/\ap r12<=n:=⟨fe h (by simp),fe h (by simp),fe h (by simp),fe h (by simp),fe h (by simp),fe h (by simp),fe h (by simp),fe h (by simp),fe h (by simp),fe h (by simp),fe h (by simp),fe h (by simp),fe h (by simp)⟩
end
end Go.V
namespace Go.V
def dlOk (b x:af)(f:Int):Bool:=mailOk b x&&(inR f 0 (b.length-1)&&decide (0<(aw b f 0).length))
def xI (b:af)(f:Int):Int:=ag (aw b f 0) 0 0
def dlB (b x:af)(f:Int):af:=if dlOk b x f=true then b.set f.toNat [.s 2 ((aw b f 0).drop 1)]else b
def dlI (b x:af)(f:Int):af:=if dlOk b x f=true then x.set (xI b f).toNat [.s 1 (aw x (xI b f) 0++[[.i (ag (aw b f 0) 0 1)]])]else x
theorem Ps {b x:af}{f:Int}(h:dlOk b x f=false):dlB b x f=b/\dlI b x f=x:=by
 unfold dlB dlI;rw[h];exact⟨rfl,rfl⟩
theorem ad5 {b x:af}{f:Int}(h:dlOk b x f=true):dlB b x f=b.set f.toNat [.s 2 ((aw b f 0).drop 1)]/\dlI b x f=x.set (xI b f).toNat [.s 1 (aw x (xI b f) 0++[[.i (ag (aw b f 0) 0 1)]])]:=by
 unfold dlB dlI;rw[VT h,VT h];exact⟨rfl,rfl⟩
structure Sc (b x:af)(f:Int):Prop where
 m:mailOk b x=true
 f0:0<=f
 f1:f<b.length
 n:0<(aw b f 0).length
 t0:0<=xI b f
 t1:xI b f<b.length
 l:x.length=b.length
theorem Pq {b x:af}{f:Int}(h:dlOk b x f=true):Sc b x f:=by
 unfold dlOk at h;simp only[Zc,VR]at h;obtain⟨h1,h2,h3⟩:=h;have r:=be.1 h2;have m:=h1;unfold mailOk at m;simp only[Zc,VR]at m;have p:=dh.1 m.2.2.1 f r.1 (by omega);unfold Rl at p;simp only[Zc]at p;have q:=dh.1 p.1 0 (Yg _) (by omega);unfold GW at q;simp only[Zc]at q;have u:=be.1 q.1;refine⟨h1,r.1,by omega,h3,?_,?_,m.2.1⟩
 ·unfold xI;exact u.1
 ·unfold xI;have:=u.2;omega
theorem HA {l:af}{n:Nat}:ap (l.drop n)<=ap l:=by
 have h:=qI (a:=l.take n) (b:=l.drop n);rw[ZR]at h;omega
def dvB (k:Bool)(b x:af)(f:Int):af:=if k=true then dlB b x f else b
def dvI (k:Bool)(b x:af)(f:Int):af:=if k=true then dlI b x f else x
def dvK (k:Bool)(b x:af)(f:Int):Bool:=k&&dlOk b x f
end Go.V
namespace Go.V
structure HsT (cs us es:af)(a:Int):Prop where
 a0:0<=a
 m:smM cs us es a=peM es (a/16)
 f:smF cs us es a=peF es (a/16)
 n:smM cs us es a≠0
section
variable {a0 a1 a2: af} {a3: Int} {a4 a5 a6 a7 a8 a9 aA aB: af} {aC: Int} {aD: af} {aE aF aG aH: Int} {aI: Bool} {aJ aK: Int} {aL: af} {aM aN: Int}
end
end Go.V
namespace Go.V
abbrev Pr :=Int×Int
def jnS (o:List Pr)(x:Pr):List Pr:=match o.getLast? with
 |some y=>if y.1+y.2=x.1 then o.dropLast++[(y.1,y.2+x.2)]else o++[x]
 |none=>o++[x]
structure Ip where
 o:List Pr
 r:Pr
 d:Bool
def SE (s:Ip)(x:Pr):Ip:=
 if x.1+x.2=s.r.1 then⟨s.o,(x.1,x.2+s.r.2),s.d⟩
 else if s.r.1+s.r.2=x.1 then⟨s.o,(s.r.1,s.r.2+x.2),s.d⟩
 else if s.r.1<x.1/\s.d=false then⟨s.o++[s.r,x],s.r,true⟩
 else⟨s.o++[x],s.r,s.d⟩
def ipE (s:Ip):List Pr:=if s.d then s.o else s.o++[s.r]
def ipL (l:List Pr)(r:Pr):List Pr:=ipE (l.foldl SE ⟨[],r,false⟩)
structure Sp where
 o:List Pr
 d:Bool
def rsS (r:Pr)(s:Sp)(x:Pr):Sp:=if s.d=false/\r.1<x.1 then⟨s.o++[r]++[x],true⟩else⟨s.o++[x],s.d⟩
def J8:List Pr->Prop
 |[]=>True
 |[x]=>0<x.2
 |x::y::l=>0<x.2/\x.1+x.2<y.1/\J8 (y::l)
theorem Hs {x:Pr}{l:List Pr}(h:J8 (x::l)):J8 l:=by
 cases l with
 |nil=>trivial
 |cons y l=>exact h.2.2
theorem Pb {x:Pr}{l:List Pr}(h:J8 (x::l)):0<x.2:=by
 cases l with
 |nil=>exact h
 |cons y l=>exact h.1
theorem CR {x:Pr}:∀ {l:List Pr},J8 (x::l)->∀ y∈l,x.1+x.2<y.1
 |[],_,y,hy=>by cases hy
 | z::l,h,y,hy=>by
   rcases Zl.1 hy with rfl|hy;exact h.2.1
   ·have:=CR h.2.2 y hy;have:=Pb h.2.2;have:=h.2.1;omega
end Go.V
namespace Go.V
structure lM (cs us es:af):Prop where
 n0:1<=cs.length
 n1:cs.length<=32
 u:us.length=cs.length
 l:∀ i:Int,0<=i->i<cs.length->(aw cs i 0).length=16
 c:∀ i k:Int,0<=i->i<cs.length->0<=k->k<16->0<=ag (aw cs i 0) k 0/\ag (aw cs i 0) k 0<=999/\(pX us i 0=false->ag (aw cs i 0) k 0=0)
 e0:1<=es.length
 e1:es.length<=32
 e:∀ i:Int,0<=i->i<es.length->0<=ag es i 0/\ag es i 0<=2/\(ag es i 0=0->ag es i 1=0)/\(0<ag es i 0->0<=ag es i 1/\ag es i 1<cs.length)
 m:∀ i:Int,0<=i->i<cs.length->pX us i 0=fh es i
theorem QK {cs us es:af}(h:machOk cs us es=true):lM cs us es:=by
 obtain⟨h1,h2,h3⟩:=NB h;have a:=su h1;have b:=Ed h2;refine⟨a.2.1,a.2.2,a.1,fun i i0 i1=>aas h1 i0 i1,fun i k i0 i1 k0 k1=>?_,b.1,b.2,fun i i0 i1=>acY h2 i0 i1,h3⟩;have q:=h1;unfold framesOk at q;simp only[Zc,VR]at q;have r:=dh.1 q.2 i i0 i1;unfold jn at r;simp only[Zc,VR]at r;have s:=dh.1 r.2 k k0 (by omega);unfold oy at s;simp only[Zc,Z4,VR]at s;have t:=be.1 s.1;refine⟨t.1,t.2,fun f=>?_⟩;rcases s.2 with w|w
 ·rw[f]at w;cases w
 ·exact w
theorem QL {cs us es:af}(h:lM cs us es):machOk cs us es=true:=by
 have f:framesOk cs us=true:=C4 (i:=cs.length) (be.2 ⟨by have:=h.n0;omega,by have:=h.n1;omega⟩) h.u (fun i i0 i1=>HZ (k:=16) (h.l i i0 i1) (fun k k0 k1=>by
  have c:=h.c i k i0 i1 k0 k1;refine Hq (be.2 ⟨c.1,c.2.1⟩) ?_;cases q:pX us i 0 with
  |true=>exact .inl rfl
  |false=>exact .inr (c.2.2 q)) (Yg _)) (Yg _)
 have t:tableOk es us.length=true:=by
  rw[Ee (i:=es.length) (fun i i0 i1=>JM (by have:=h.e i i0 i1;rw[h.u];exact this)) (Yg _)];exact be.2 ⟨by have:=h.e0;omega,by have:=h.e1;omega⟩
 exact Dy (i:=us.length) f t (fun i i0 i1=>IG (h.m i i0 (by rw[h.u]at i1;exact i1))) (Yg _)
theorem IH {es:af}{f:Int}:∀ {n:Nat},0<(wv es f n).length↔∃ i:Nat,i<n/\ag es i 0≠0/\ag es i 1=f
 |0=>⟨fun h=>absurd h (Nat.lt_irrefl _),fun⟨i,h,_⟩=>absurd h (by omega)⟩
 | n+1=>by
   by_cases c:ag es n 0≠0/\ag es n 1=f
   ·rw[wv,VT c,Zf];exact⟨fun _=>⟨n,by omega,c⟩,fun _=>by simp only[Zj,Zk];omega⟩
   ·rw[wv,VU c,IH (n:=n)]
    constructor
    ·rintro⟨i,h,q⟩;exact⟨i,by omega,q⟩
    ·rintro⟨i,h,q⟩;by_cases z:i=n
     ·subst z;exact absurd q c
     ·exact⟨i,by omega,q⟩
theorem mE {es:af}{f:Int}:fh es f=true↔∃ i:Nat,i<es.length/\ag es i 0≠0/\ag es i 1=f:=zz.trans IH
theorem mC {es:af}{n i:Nat}{r:aT}(h:n<es.length):(es.set n r).getD i []=if i=n then r else es.getD i []:=by
 simp only[Zm,List.getElem?_set];by_cases c:n=i
 ·subst c;rw[VT rfl,VT h,VT rfl];rfl
 ·rw[VU c,VU (Ne.symm c)]
theorem Ni {es:af}{n i:Int}{r:aT}{j:Nat}(n0:0<=n)(n1:n<es.length)(i0:0<=i):ag (es.set n.toNat r) i j=if i=n then Ly (r.getD j .g)else ag es i j:=by
 unfold ag;rw[mC (by omega)];by_cases c:i=n
 ·rw[VT (by omega),VT c]
 ·rw[VU (by omega),VU c]
theorem gbS {es:af}{n i:Int}{r:aT}{j:Nat}(n0:0<=n)(n1:n<es.length)(i0:0<=i):pX (es.set n.toNat r) i j=if i=n then lfB (r.getD j .g)else pX es i j:=by
 unfold pX;rw[mC (by omega)];by_cases c:i=n
 ·rw[VT (by omega),VT c]
 ·rw[VU (by omega),VU c]
theorem gsS {es:af}{n i:Int}{r:aT}{j:Nat}(n0:0<=n)(n1:n<es.length)(i0:0<=i):aw (es.set n.toNat r) i j=if i=n then Nv (r.getD j .g)else aw es i j:=by
 unfold aw;rw[mC (by omega)];by_cases c:i=n
 ·rw[VT (by omega),VT c]
 ·rw[VU (by omega),VU c]
def AJ (es:af)(p:Int):af:=es.set p.toNat [.i 0,.i 0]
def dfU (us es:af)(f:Int):af:=if fh es f=true then us else us.set f.toNat [.v (.bool false)]
def dfC (cs es:af)(f:Int):af:=if fh es f=true then cs else cs.set f.toNat [.s 1 (D4 16 [.i 0])]
theorem K8 {k:Int}(k0:0<=k)(k1:k<16):ag (D4 16 [.i 0]) k 0=0:=by
 show ag (Zt 16 [L.i 0]) k 0=0;unfold ag;rw[Zm (l:=Zt _ _),List.getElem?_replicate,VT (by omega)];rfl
theorem TP {cs us es es':af}{f:Int}(h:lM cs us es)(f0:0<=f)(f1:f<cs.length)(l:es'.length=es.length) 
 (e:∀ i:Int,0<=i->i<es.length->0<=ag es' i 0/\ag es' i 0<=2/\(ag es' i 0=0->ag es' i 1=0)/\(0<ag es' i 0->0<=ag es' i 1/\ag es' i 1<cs.length))
 (m:∀ i:Int,0<=i->i<cs.length->i≠f->fh es' i=fh es i) (g:fh es' f=true->fh es f=true):lM (dfC cs es' f) (dfU us es' f) es':=by
 unfold dfC dfU;by_cases q:fh es' f=true
 ·rw[VT q,VT q];refine⟨h.n0,h.n1,h.u,h.l,h.c,by rw[l];exact h.e0,by rw[l];exact h.e1,fun i i0 i1=>e i i0 (by omega),fun i i0 i1=>?_⟩;by_cases c:i=f
  ·rw[c,q,h.m f f0 f1,g q]
  ·rw[m i i0 i1 c];exact h.m i i0 i1
 ·have hu:=h.u;rw[VU q,VU q];refine⟨by rw[Zw];exact h.n0,by rw[Zw];exact h.n1,by rw[Zw,Zw];exact h.u,fun i i0 i1=>?_,fun i k i0 i1 k0 k1=>?_,by rw[l];exact h.e0,by rw[l];exact h.e1,fun i i0 i1=>by rw[Zw];exact e i i0 (by omega),fun i i0 i1=>?_⟩
  ·rw[Zw]at i1;rw[gsS f0 f1 i0];split;rfl;exact h.l i i0 i1
  ·rw[Zw]at i1;rw[gsS f0 f1 i0,gbS f0 (by omega) i0];split
   ·show 0<=ag (D4 16 [.i 0]) k 0/\ag (D4 16 [.i 0]) k 0<=999/\(_->ag (D4 16 [.i 0]) k 0=0);rw[K8 k0 k1];exact⟨by omega,by omega,fun _=>rfl⟩
   ·exact h.c i k i0 i1 k0 k1
  ·rw[Zw]at i1;rw[gbS f0 (by omega) i0];split
   ·rename_i c;subst c;show false=_;cases z:fh es' i with
    |false=>rfl
    |true=>exact absurd z q
   ·rename_i c;rw[m i i0 i1 c];exact h.m i i0 i1
theorem ac3 {cs us es:af}{p:Int}(h:lM cs us es)(hp:peM es p≠0):lM (dfC cs (AJ es p) (peF es p)) (dfU us (AJ es p) (peF es p)) (AJ es p):=by
 have pr:0<=p/\p<es.length:=by
  by_cases c:0<=p/\p<es.length;exact c;exact absurd (Fw c).1 hp
 have em:peM es p=ag es p 0:=by unfold peM;rw[VT pr]
 have ef:peF es p=ag es p 1:=by unfold peF;rw[VT pr]
 rw[em]at hp;have ep:=h.e p pr.1 pr.2;have fr:=ep.2.2.2 (by omega);rw[ef];have z:∀ i:Int,0<=i->ag (AJ es p) i 0=(if i=p then 0 else ag es i 0)/\ag (AJ es p) i 1=if i=p then 0 else ag es i 1:=fun i i0=>⟨Ni pr.1 pr.2 i0,Ni pr.1 pr.2 i0⟩
 have lu:(AJ es p).length=es.length:=Zw;have mp:∀ f:Int,fh (AJ es p) f=true↔∃ i:Nat,i<es.length/\(i:Int)≠p/\ag es i 0≠0/\ag es i 1=f:=fun f=>by
  rw[mE,lu]
  constructor
  ·rintro⟨i,i1,a,b⟩;rw[(z i (by omega)).1]at a;rw[(z i (by omega)).2]at b;by_cases c:(i:Int)=p
   ·rw[VT c]at a;exact absurd rfl a
   ·rw[VU c]at a b;exact⟨i,i1,c,a,b⟩
  ·rintro⟨i,i1,c,a,b⟩;exact⟨i,i1,by rw[(z i (by omega)).1,VU c];exact a,by rw[(z i (by omega)).2,VU c];exact b⟩
 refine TP h fr.1 fr.2 lu (fun i i0 i1=>?_) (fun i i0 i1 ne=>?_) (fun q=>?_)
 ·rw[(z i i0).1,(z i i0).2];split;exact⟨by omega,by omega,fun _=>rfl,fun q=>by omega⟩;exact h.e i i0 i1
 ·rw[XN,mp,mE]
  constructor
  ·rintro⟨i,i1,_,a,b⟩;exact⟨i,i1,a,b⟩
  ·rintro⟨k,k1,a,b⟩;refine⟨k,k1,fun c=>?_,a,b⟩;rw[c]at b;exact ne b.symm
 ·obtain⟨i,i1,_,a,b⟩:=(mp _).1 q;exact mE.2 ⟨i,i1,a,b⟩
end Go.V
namespace Go.V
theorem I8 {es:af}{p:Int}(h:peM es p≠0):(0<=p/\p<es.length)/\peM es p=ag es p 0/\peF es p=ag es p 1:=by
 have pr:0<=p/\p<es.length:=by
  by_cases c:0<=p/\p<es.length;exact c;exact absurd (Fw c).1 h
 exact⟨pr,by unfold peM;rw[VT pr],by unfold peF;rw[VT pr]⟩
def xu (es:af)(p m f:Int):af:=es.set p.toNat [.i m,.i f]
theorem rt {es:af}{p m f:Int}:(xu es p m f).length=es.length:=Zw
theorem oV {es:af}{p m f:Int}(p0:0<=p)(p1:p<es.length)(i:Int)(i0:0<=i):ag (xu es p m f) i 0=(if i=p then m else ag es i 0)/\ag (xu es p m f) i 1=if i=p then f else ag es i 1:=⟨Ni p0 p1 i0,Ni p0 p1 i0⟩
theorem BN {es:af}{p m f g:Int}(p0:0<=p)(p1:p<es.length)(hm:m≠0):fh (xu es p m f) g=true↔f=g\/∃ i:Nat,i<es.length/\(i:Int)≠p/\ag es i 0≠0/\ag es i 1=g:=by
 rw[mE,rt]
 constructor
 ·rintro⟨i,i1,a,b⟩;rw[(oV p0 p1 i (by omega)).1]at a;rw[(oV p0 p1 i (by omega)).2]at b;by_cases c:(i:Int)=p
  ·rw[VT c]at b;exact .inl b
  ·rw[VU c]at a b;exact .inr ⟨i,i1,c,a,b⟩
 ·rintro(q|⟨i,i1,c,a,b⟩)
  ·obtain⟨n,rfl⟩:=Z9 p0;exact⟨n,by omega,by rw[(oV p0 p1 n (by omega)).1,VT rfl];exact hm,by rw[(oV p0 p1 n (by omega)).2,VT rfl];exact q⟩
  ·exact⟨i,i1,by rw[(oV p0 p1 i (by omega)).1,VU c];exact a,by rw[(oV p0 p1 i (by omega)).2,VU c];exact b⟩
theorem acL {es:af}{p m f:Int}{n:Nat}(p0:0<=p)(p1:p<es.length)(hm:1<=m/\m<=2)(hf:0<=f/\f<n) 
 (e:∀ i:Int,0<=i->i<es.length->0<=ag es i 0/\ag es i 0<=2/\(ag es i 0=0->ag es i 1=0)/\(0<ag es i 0->0<=ag es i 1/\ag es i 1<n)):
 ∀ i:Int,0<=i->i<es.length->0<=ag (xu es p m f) i 0/\ag (xu es p m f) i 0<=2/\(ag (xu es p m f) i 0=0->ag (xu es p m f) i 1=0)/\(0<ag (xu es p m f) i 0->0<=ag (xu es p m f) i 1/\ag (xu es p m f) i 1<n):=fun i i0 i1=>by
 rw[(oV p0 p1 i i0).1,(oV p0 p1 i i0).2];split;exact⟨by omega,by omega,fun q=>by omega,fun _=>hf⟩;exact e i i0 i1
theorem abI {cs us es:af}{p f:Int}(h:lM cs us es)(p0:0<=p)(p1:p<es.length)(hp:ag es p 0=0)(f0:0<=f)(f1:f<cs.length):lM cs (us.set f.toNat [.v (.bool true)]) (xu es p 2 f):=by
 have hu:=h.u;refine⟨h.n0,h.n1,by rw[Zw];exact h.u,h.l,fun i k i0 i1 k0 k1=>?_,by rw[rt];exact h.e0,by rw[rt];exact h.e1,fun i i0 i1=>acL p0 p1 (by omega) ⟨f0,f1⟩ h.e i i0 (by rw[rt]at i1;exact i1),fun i i0 i1=>?_⟩
 ·have c:=h.c i k i0 i1 k0 k1;refine⟨c.1,c.2.1,fun q=>?_⟩;rw[gbS f0 (by omega) i0]at q;split at q
  ·cases q
  ·exact c.2.2 q
 ·rw[gbS f0 (by omega) i0];split
  ·rename_i c;subst c;show true=_;exact((BN p0 p1 (by omega)).2 (.inl rfl)).symm
  ·rename_i c;rw[h.m i i0 i1,XN,BN p0 p1 (by omega),mE]
   constructor
   ·rintro⟨k,k1,a,b⟩;refine .inr ⟨k,k1,fun q=>?_,a,b⟩;rw[q]at a;exact a hp
   ·rintro(q|⟨k,k1,_,a,b⟩);exact absurd q.symm c;exact⟨k,k1,a,b⟩
theorem acR {cs us es:af}{p f k v:Int}(h:lM cs us es)(hp:peM es p≠0)(ef':peF es p=f)(k0:0<=k)(k1:k<16)(v0:0<=v)(v1:v<=999):lM (pF cs f k v) us es:=by
 obtain⟨pr,em,ef⟩:=I8 hp;rw[em]at hp;have ep:=h.e p pr.1 pr.2;have fr:=ep.2.2.2 (by omega);rw[<-ef,ef']at fr;have used:pX us f 0=true:=by
  rw[h.m f fr.1 fr.2];obtain⟨n,rfl⟩:=Z9 pr.1;exact mE.2 ⟨n,by omega,hp,by rw[<-ef,ef']⟩
 have lf:=h.l f fr.1 fr.2;unfold pF;refine⟨by rw[Zw];exact h.n0,by rw[Zw];exact h.n1,by rw[Zw];exact h.u,fun i i0 i1=>?_,fun i j i0 i1 j0 j1=>?_,h.e0,h.e1,fun i i0 i1=>by rw[Zw];exact h.e i i0 i1,fun i i0 i1=>by rw[Zw]at i1;exact h.m i i0 i1⟩
 ·rw[Zw]at i1;rw[gsS fr.1 fr.2 i0];split
  ·show((aw cs f 0).set k.toNat _).length=16;rw[Zw,lf]
  ·exact h.l i i0 i1
 ·rw[Zw]at i1;rw[gsS fr.1 fr.2 i0];split
  ·rename_i c;subst c;show 0<=ag ((aw cs i 0).set k.toNat [.i v]) j 0/\ag ((aw cs i 0).set k.toNat [.i v]) j 0<=999/\(_->ag ((aw cs i 0).set k.toNat [.i v]) j 0=0);rw[Ni k0 (by omega) j0];have c:=h.c i j i0 i1 j0 j1;split;exact⟨v0,v1,fun q=>by rw[used]at q;cases q⟩;exact c
  ·exact h.c i j i0 i1 j0 j1
end Go.V
namespace Go.V
def af6 (e:aT):Pr:=(Ly (e.getD 0 .g),Ly (e.getD 1 .g))
def qh (es:af):List Pr:=es.map af6
def frP (p:Pr):aT:=[.i p.1,.i p.2]
def rowP (l:List Pr):af:=l.map frP
theorem pe {es:af}:(qh es).length=es.length:=YQ _
theorem Jo {l:List Pr}:(rowP l).length=l.length:=YQ _
theorem j4 {es:af}{i:Int}(i0:0<=i)(i1:i<es.length):(qh es)[i.toNat]?=some (ag es i 0,ag es i 1):=by
 unfold qh ag;rw[List.getElem?_map,Zm (l:=es),Zu (by omega)];rfl
theorem Mu {es:af}{x:Pr}(h:x∈qh es):∃ i:Nat,i<es.length/\x=(ag es i 0,ag es i 1):=by
 obtain⟨i,hi,e⟩:=Wj h;rw[pe]at hi;refine⟨i,hi,?_⟩;have q:=j4 (es:=es) (i:=(i:Int)) (by omega) (by omega);rw[ZG,Zu (by rw[pe];exact hi)]at q;rw[<-e];exact YB q
theorem FH {l:List Pr}(h:∀ x∈l,(-9223372036854775808<=x.1/\x.1<=9223372036854775807)/\(-9223372036854775808<=x.2/\x.2<=9223372036854775807))(n:l.length<=maxLen):Rw [tI,tI] (rowP l):=⟨by rw[Jo];exact n,fun e he=>by
 obtain⟨x,hx,rfl⟩:=List.mem_map.1 he;exact⟨⟨rfl,(h x hx).1⟩,⟨rfl,(h x hx).2⟩,trivial⟩⟩
theorem wF {a b:List Pr}:rowP (a++b)=rowP a++rowP b:=List.map_append
theorem Hr:∀ {l:List Pr},(∀ x∈l,0<x.2)->(∀ i:Nat,i+1<l.length->∀ x y,l[i]?=some x->l[i+1]?=some y->x.1+x.2<y.1)->J8 l
 |[],_,_=>trivial
 |[x],h,_=>h x (by simp)
 |x::y::l,h,g=>⟨h x (by simp),g 0 (by simp) x y rfl rfl,Hr (fun z hz=>h z (by simp[hz])) (fun i hi a b ha hb=>g (i+1) (by simp at hi ⊢;omega) a b (by simpa using ha) (by simpa using hb))⟩
structure Km (n:Int)(rs:af):Prop where
 n0:1<=n
 n1:n<=32
 c:J8 (qh rs)
 b:∀ x∈qh rs,0<=x.1/\1<=x.2/\x.1+x.2<=n
theorem wB {n:Int}{rs:af}(h:rgOk n rs=true):Km n rs:=by
 unfold rgOk at h;rw[Zc]at h;obtain⟨h1,h2⟩:=h;have r:=be.1 h2;have at':∀ i:Int,0<=i->i<rs.length->(0<=ag rs i 0/\1<=ag rs i 1/\ag rs i 0+ag rs i 1<=n)/\(0<i->¬ ag rs i 0<=bO .add Za (ag rs (i-1) 0) (ag rs (i-1) 1)):=fun i i0 i1=>by
  have a:=dh.1 h1 i i0 i1;unfold wC at a;simp only[Zc,Bool.not_eq_true',Bool.and_eq_false_iff,decide_eq_false_iff_not]at a;have b:=a.1;unfold rngIn at b;simp only[Zc]at b;have b1:=be.1 b.1;have b2:=be.1 b.2;refine⟨by omega,fun p=>?_⟩;rcases a.2 with q|q;exact absurd p q;exact q
 have bd:∀ x∈qh rs,0<=x.1/\1<=x.2/\x.1+x.2<=n:=fun x hx=>by
  obtain⟨i,hi,rfl⟩:=Mu hx;exact(at' i (by omega) (by omega)).1
 refine⟨r.1,r.2,Hr (fun x hx=>by have:=(bd x hx).2.1;omega) (fun i hi x y hx hy=>?_),bd⟩;rw[pe]at hi;have qx:=j4 (es:=rs) (i:=(i:Int)) (by omega) (by omega);have qy:=j4 (es:=rs) (i:=((i+1:Nat):Int)) (by omega) (by omega);rw[ZG]at qx qy;rw[hx]at qx;rw[hy]at qy;cases qx;cases qy;have a:=(at' ((i+1:Nat):Int) (by omega) (by omega)).2 (by omega);have b:=(at' (i:Int) (by omega) (by omega)).1;rw[show((i+1:Nat):Int)-1=(i:Int)by omega,cG (by omega)]at a;show ag rs i 0+ag rs i 1<_;omega
def DJ (x r:Pr):Bool:=decide (x.1<r.1+r.2)&&decide (r.1<x.1+x.2)
def rpB (n:Int)(rs:af)(a l:Int):Bool:=rgOk n rs&&(rngIn n a l&&(qh rs).all fun x=> !DJ x (a,l))
def rpL (n:Int)(rs:af)(a l:Int):af:=if rpB n rs a l=true then rowP (ipL (qh rs) (a,l))else rs
structure CI (rs:af)(a0 l0 i:Int)(o:af)(a l:Int)(d:Bool):Prop where
 s:∃ o',o=rowP o'/\((qh rs).take i.toNat).foldl SE ⟨[],(a0,l0),false⟩=⟨o',(a,l),d⟩
 n:∀ x∈(qh rs).take i.toNat,DJ x (a0,l0)=false
 v:∀ x∈(qh rs).drop i.toNat,DJ x (a,l)=DJ x (a0,l0)
 b:0<=a/\1<=l/\a+l<=32
end Go.V
namespace Go.V
theorem AW:∀ {l:List Pr} {i:Nat} {y:Pr},J8 l->l[i]?=some y->∀ x∈l.drop (i+1),y.1+y.2<x.1
 |[],i,y,_,h=>by simp at h
 | z::l,0,y,c,h=>by
   simp at h;subst h;intro x hx;exact CR c x (by simpa using hx)
 | z::l,i+1,y,c,h=>by
   intro x hx;exact AW (Hs c) (by simpa using h) x (by simpa using hx)
theorem take_at {l:List Pr}{i:Int}{y:Pr}(i0:0<=i)(h:l[i.toNat]?=some y):l.take (i+1).toNat=l.take i.toNat++[y]:=by
 rw[show(i+1).toNat=i.toNat+1 by omega,List.take_add_one,h];rfl
theorem drop_at {l:List Pr}{i:Int}{y:Pr}(i0:0<=i)(h:l[i.toNat]?=some y):l.drop i.toNat=y::l.drop (i+1).toNat:=by
 rw[show(i+1).toNat=i.toNat+1 by omega];obtain⟨h1,h2⟩:=List.getElem?_eq_some_iff.1 h;rw[WU h1,h2]
theorem DL {x r:Pr}:DJ x r=true↔x.1<r.1+r.2/\r.1<x.1+x.2:=by unfold DJ;rw[Zc,VR,VR]
section
variable {n: Int} {rs: af} {a0 l0 i: Int} {o: af} {a l: Int} {d: Bool}
theorem NV (b:0<=a0/\1<=l0/\a0+l0<=32):CI rs a0 l0 0 [] a0 l0 false:=⟨⟨[],rfl,rfl⟩,fun x hx=>by simp at hx,fun _ _=>rfl,b⟩
theorem Ru (T:Km n rs)(h:CI rs a0 l0 i o a l d)(i0:0<=i)(i1:i<rs.length)(x1:ag rs i 0<a+l)(x2:a<ag rs i 0+ag rs i 1):rpB n rs a0 l0=false:=by
 have e:=j4 (es:=rs) i0 i1;have m:(ag rs i 0,ag rs i 1)∈(qh rs).drop i.toNat:=by rw[drop_at i0 e];simp
 have v:=h.v _ m;rw[DL.2 ⟨x1,x2⟩]at v;unfold rpB;have:((qh rs).all fun x=> !DJ x (a0,l0))=false:=by
  rw[List.all_eq_false];exact⟨_,Yw m,by rw[<-v];simp⟩
 rw[this];simp
theorem FK (T:Km n rs)(h:CI rs a0 l0 i o a l d)(i0:0<=i)(i1:i<rs.length)(nov:¬ (ag rs i 0<a+l/\a<ag rs i 0+ag rs i 1)):
 (∀ x∈(qh rs).take (i+1).toNat,DJ x (a0,l0)=false)/\(∀ x∈(qh rs).drop (i+1).toNat,ag rs i 0+ag rs i 1<x.1/\1<=x.2/\DJ x (a,l)=DJ x (a0,l0))/\(0<=ag rs i 0/\1<=ag rs i 1/\ag rs i 0+ag rs i 1<=32):=by
 have e:=j4 (es:=rs) i0 i1;have m:(ag rs i 0,ag rs i 1)∈(qh rs).drop i.toNat:=by rw[drop_at i0 e];simp
 have v:=h.v _ m;have b:=T.b _ (Yw m);have:=T.n1;refine⟨fun x hx=>?_,fun x hx=>?_,⟨b.1,b.2.1,by have:=b.2.2;omega⟩⟩
 ·rw[take_at i0 e]at hx;rcases Zg.1 hx with q|q;exact h.n x q
  ·rw[Z8]at q;rw[q, <-v];cases z:DJ (ag rs i 0,ag rs i 1) (a,l)with
   |false=>rfl
   |true=>exact absurd (DL.1 z) nov
 ·have c:=AW T.c e x (by rw[show(i+1).toNat=i.toNat+1 by omega]at hx;exact hx);have p:=T.b x (Yw hx);exact⟨c,p.2.1,h.v x (by rw[drop_at i0 e];exact List.mem_cons_of_mem _ hx)⟩
theorem NW (T:Km n rs)(h:CI rs a0 l0 i o a l d)(i0:0<=i)(i1:i<rs.length)(nov:¬ (ag rs i 0<a+l/\a<ag rs i 0+ag rs i 1))(q:ag rs i 0+ag rs i 1=a):CI rs a0 l0 (i+1) o (ag rs i 0) (ag rs i 1+l) d:=by
 have e:=j4 (es:=rs) i0 i1;obtain⟨h1,h2,h3⟩:=FK T h i0 i1 nov;obtain⟨o',eo,es⟩:=h.s;have hb:=h.b;refine⟨⟨o',eo,?_⟩,h1,fun x hx=>?_,by omega⟩
 ·rw[take_at i0 e,XO,es,Y3,Xx];unfold SE;rw[VT (by exact q)]
 ·obtain⟨c1,c2,c3⟩:=h2 x hx;rw[<-c3,XN,DL,DL]
  constructor<;>rintro⟨u,w⟩<;>constructor<;>(simp only at*;omega)
theorem NX (T:Km n rs)(h:CI rs a0 l0 i o a l d)(i0:0<=i)(i1:i<rs.length)(nov:¬ (ag rs i 0<a+l/\a<ag rs i 0+ag rs i 1))(p:ag rs i 0+ag rs i 1≠a)(q:a+l=ag rs i 0):CI rs a0 l0 (i+1) o a (l+ag rs i 1) d:=by
 have e:=j4 (es:=rs) i0 i1;obtain⟨h1,h2,h3⟩:=FK T h i0 i1 nov;obtain⟨o',eo,es⟩:=h.s;have hb:=h.b;refine⟨⟨o',eo,?_⟩,h1,fun x hx=>?_,by omega⟩
 ·rw[take_at i0 e,XO,es,Y3,Xx];unfold SE;rw[VU (by exact p),VT (by exact q)]
 ·obtain⟨c1,c2,c3⟩:=h2 x hx;rw[<-c3,XN,DL,DL]
  constructor<;>rintro⟨u,w⟩<;>constructor<;>(simp only at*;omega)
theorem NY (T:Km n rs)(h:CI rs a0 l0 i o a l d)(i0:0<=i)(i1:i<rs.length)(nov:¬ (ag rs i 0<a+l/\a<ag rs i 0+ag rs i 1))(p:ag rs i 0+ag rs i 1≠a)(q:a+l≠ag rs i 0)(c:a<ag rs i 0)(hd:d=false):
 CI rs a0 l0 (i+1) (o++[[.i a,.i l],[.i (ag rs i 0),.i (ag rs i 1)]]) a l true:=by
 have e:=j4 (es:=rs) i0 i1;obtain⟨h1,h2,h3⟩:=FK T h i0 i1 nov;obtain⟨o',eo,es⟩:=h.s;refine⟨⟨o'++[(a,l),(ag rs i 0,ag rs i 1)],by rw[wF,eo];rfl,?_⟩,h1,fun x hx=>(h2 x hx).2.2,h.b⟩;rw[take_at i0 e,XO,es,Y3,Xx];unfold SE;rw[VU (by exact p),VU (by exact q),VT (by exact⟨c,hd⟩)]
theorem Js (T:Km n rs)(h:CI rs a0 l0 i o a l d)(i0:0<=i)(i1:i<rs.length)(nov:¬ (ag rs i 0<a+l/\a<ag rs i 0+ag rs i 1))(p:ag rs i 0+ag rs i 1≠a)(q:a+l≠ag rs i 0)(c:¬ (a<ag rs i 0/\d=false)):
 CI rs a0 l0 (i+1) (o++[[.i (ag rs i 0),.i (ag rs i 1)]]) a l d:=by
 have e:=j4 (es:=rs) i0 i1;obtain⟨h1,h2,h3⟩:=FK T h i0 i1 nov;obtain⟨o',eo,es⟩:=h.s;refine⟨⟨o'++[(ag rs i 0,ag rs i 1)],by rw[wF,eo];rfl,?_⟩,h1,fun x hx=>(h2 x hx).2.2,h.b⟩;rw[take_at i0 e,XO,es,Y3,Xx];unfold SE;rw[VU (by exact p),VU (by exact q),VU (by exact c)]
theorem afP (h:rgOk n rs=true)(g:rngIn n a0 l0=true)(nov:∀ x∈qh rs,DJ x (a0,l0)=false):rpB n rs a0 l0=true/\rpL n rs a0 l0=rowP (ipL (qh rs) (a0,l0)):=by
 have e:rpB n rs a0 l0=true:=by
  unfold rpB;rw[h,g];simp only[Yp,Z6];intro x hx;rw[nov x hx];rfl
 exact⟨e,by unfold rpL;rw[VT e]⟩
theorem Jr (h:rpB n rs a0 l0=false):rpL n rs a0 l0=rs:=by unfold rpL;rw[h];rfl
theorem uQ (hr:rgOk n rs=true)(g:rngIn n a0 l0=true)(h:CI rs a0 l0 i o a l d)(i1:(rs.length:Int)<=i):rpB n rs a0 l0=true/\rpL n rs a0 l0=if d=true then o else o++[[.i a,.i l]]:=by
 have tk:(qh rs).take i.toNat=qh rs:=List.take_of_length_le (by rw[pe];omega);have hn:=h.n;obtain⟨o',eo,es⟩:=h.s;rw[tk]at hn es;obtain⟨e1,e2⟩:=afP hr g hn;refine⟨e1,?_⟩;rw[e2];unfold ipL;rw[es,eo];unfold ipE;cases d with
 |true=>rfl
 |false=>rw[VU (by simp),VU (by simp),wF];rfl
structure ags (rs:af)(a0 l0 i:Int)(o:af)(d:Bool):Prop where
 s:∃ o',o=rowP o'/\((qh rs).take i.toNat).foldl (rsS (a0,l0)) ⟨[],false⟩=⟨o',d⟩
 n:∀ x∈(qh rs).take i.toNat,DJ x (a0,l0)=false
 m:o.length<=2*i.toNat
end
end Go.V
namespace Go.V
theorem ac7 {o:af}{n:Int}{x:Value}(h:Rw [tI,tI] o)(n0:0<=n)(n1:n<o.length):jq (.s 2 o) [(n.toNat,1)] [.v x]=o.set n.toNat [.i (ag o n 0),.v x]:=by
 show o.set n.toNat ((o.getD n.toNat []).take 1++[.v x]++(o.getD n.toNat []).drop (1+1))=_;rw[h.eta n0 n1];rfl
theorem ac6 {o:af}{n:Int}{x:Value}(h:Rw [tI,tI] o)(n0:0<=n)(n1:n<o.length):jq (.s 2 o) [(n.toNat,0)] [.v x]=o.set n.toNat [.v x,.i (ag o n 1)]:=by
 show o.set n.toNat ((o.getD n.toNat []).take 0++[.v x]++(o.getD n.toNat []).drop (0+1))=_;rw[h.eta n0 n1];rfl
theorem RJ {o:af}{n:Int}{j:Nat}(h:Rw [tI,tI] o)(n0:0<=n)(n1:n<o.length)(hj:j<2):∃ rec o',bQ (.s 2 o) [(n.toNat,j)]=some (rec,o')/\o'+1<=rec.length:=eS (by omega) (by
 rw[h.eta n0 n1];show j+1<=2;omega)
theorem Lu {o:af}{n:Int}{j:Nat}(h:Rw [tI,tI] o)(n0:0<=n)(n1:n<o.length)(hj:j<2):∃ rec o',bQ (L.s 2 o) [(n.toNat,j)]=some (rec,o')/\o'+[L.v (Zi Zs 0)].length<=rec.length/\Z7 [L.v (Zi Zs 0)].length (Ym o' rec)=js aj (L.s 2 o) [(n.toNat,j)] 0 [L.v (Zi Zs 0)]:=by
 rcases(show j=0\/j=1 by omega)with rfl|rfl
 ·exact dU (z0:=[.i 0,.i 0]) (z:=[.i 0]) h.wf (by omega) rfl (by decide)
 ·exact dU (z0:=[.i 0,.i 0]) (z:=[.i 0]) h.wf (by omega) rfl (by decide)
theorem gV {l:af}{sz j:Nat}{i:Int}(h0:0<=i):zI (.s sz l) [(i.toNat,j)]=ag l i j:=by
 rw[zJ];unfold ag;rw[ZG]
structure JnP (rs:af)(i:Int)(o:af):Prop where
 s:o=rowP (((qh rs).take i.toNat).foldl jnS [])
 l:o.length<=i.toNat
section
variable {rs o: af} {i: Int}
end
end Go.V
namespace Go.V
def GQ (rs:af)(n:Int):Nat->Int
 |0=> -1
 |k+1=>if n<=ag rs k 1/\(GQ rs n k<0\/ag rs k 1<ag rs (GQ rs n k) 1)then k else GQ rs n k
def dV (rs:af)(n:Int):Int:=GQ rs n rs.length
theorem Hm {rs:af}{n:Int}:∀ k:Nat,-1<=GQ rs n k/\GQ rs n k<k/\(0<=GQ rs n k->n<=ag rs (GQ rs n k) 1)
 |0=>⟨Yg _,by show(-1:Int)<0;omega,fun h=>absurd h (by show¬ (0:Int)<= -1;omega)⟩
 | k+1=>by
   have h:=Hm (rs:=rs) (n:=n) k;unfold GQ;split
   ·rename_i c;exact⟨by omega,by omega,fun _=>c.1⟩
   ·exact⟨h.1,by omega,h.2.2⟩
structure Ki (rs:af)(n i b:Int):Prop where
 e:b=GQ rs n i.toNat
section
variable {rs: af} {n i b: Int}
theorem Te:Ki rs n 0 (-1):=⟨rfl⟩
theorem Ti (h:Ki rs n i b)(i0:0<=i): -1<=b/\b<i\/(i=0/\b= -1):=by
 have q:=Hm (rs:=rs) (n:=n) i.toNat;rw[<-h.e]at q;omega
theorem Tf (h:Ki rs n i b)(i0:0<=i)(c:n<=ag rs i 1)(d:b<0\/ag rs i 1<ag rs b 1):Ki rs n (i+1) i:=⟨by
 rw[show(i+1).toNat=i.toNat+1 by omega,GQ,Zr i0, <-h.e,VT ⟨c,d⟩]⟩
theorem Tg (h:Ki rs n i b)(i0:0<=i)(c:¬ (n<=ag rs i 1/\(b<0\/ag rs i 1<ag rs b 1))):Ki rs n (i+1) b:=⟨by
 rw[show(i+1).toNat=i.toNat+1 by omega,GQ,Zr i0, <-h.e,VU c]⟩
theorem Ks (h:Ki rs n i b)(i1:i<=rs.length)(i2:(rs.length:Int)<=i):b=dV rs n:=by
 rw[h.e];unfold dV;rw[show i.toNat=rs.length by omega]
end
def tkB (p:Int)(rs:af)(n:Int):Bool:=rgOk p rs&&(decide (1<=n)&&decide (0<=dV rs n))
def xH (rs:af)(b:Int):af:=rs.take b.toNat++rs.drop (b+1).toNat
def tkL (p:Int)(rs:af)(n:Int):af:=if tkB p rs n=true then(if ag rs (dV rs n) 1=n then xH rs (dV rs n)else rs.set (dV rs n).toNat [.i (ag rs (dV rs n) 0+n),.i (ag rs (dV rs n) 1-n)])else rs
def tkA (p:Int)(rs:af)(n:Int):Int:=if tkB p rs n=true then ag rs (dV rs n) 0 else-1
theorem Mt {p n:Int}{rs:af}(h:tkB p rs n=false):tkL p rs n=rs/\tkA p rs n= -1:=by unfold tkL tkA;rw[h];exact⟨rfl,rfl⟩
theorem RQ {p n:Int}{rs:af}(h:rgOk p rs=false):tkB p rs n=false:=by unfold tkB;rw[h];rfl
theorem RR {p n:Int}{rs:af}(h:n<1):tkB p rs n=false:=by unfold tkB;rw[VQ (by omega)];simp
theorem RU {p n:Int}{rs:af}(h:dV rs n<0):tkB p rs n=false:=by unfold tkB;rw[VQ (p:=0<=dV rs n) (by omega)];simp
theorem af3 {p n:Int}{rs:af}(h:rgOk p rs=true)(g:1<=n)(b:0<=dV rs n):tkB p rs n=true:=by unfold tkB;rw[h,VP g,VP b];rfl
theorem RN {p n:Int}{rs:af}(h:tkB p rs n=true)(e:ag rs (dV rs n) 1=n):tkL p rs n=xH rs (dV rs n)/\tkA p rs n=ag rs (dV rs n) 0:=by
 unfold tkL tkA;rw[VT h,VT h,VT e];exact⟨rfl,rfl⟩
theorem RO {p n:Int}{rs:af}(h:tkB p rs n=true)(e:ag rs (dV rs n) 1≠n):tkL p rs n=rs.set (dV rs n).toNat [.i (ag rs (dV rs n) 0+n),.i (ag rs (dV rs n) 1-n)]/\tkA p rs n=ag rs (dV rs n) 0:=by
 unfold tkL tkA;rw[VT h,VT h,VU e];exact⟨rfl,rfl⟩
structure TkT (p:Int)(rs:af)(n:Int):Prop where
 i0:0<=dV rs n
 i1:dV rs n<rs.length
 n0:1<=n
 a0:0<=ag rs (dV rs n) 0
 l0:n<=ag rs (dV rs n) 1
 e:ag rs (dV rs n) 0+ag rs (dV rs n) 1<=p
 p0:p<=32
theorem Aa {p n:Int}{rs:af}(h:tkB p rs n=true):TkT p rs n:=by
 unfold tkB at h;simp only[Zc,VR]at h;obtain⟨h1,h2,h3⟩:=h;have T:=wB h1;have b:=Hm (rs:=rs) (n:=n) rs.length;change-1<=dV rs n/\dV rs n<rs.length/\(0<=dV rs n->n<=ag rs (dV rs n) 1)at b;have t:=T.b _ (List.mem_of_getElem? (j4 (es:=rs) h3 b.2.1));exact⟨h3,b.2.1,h2,t.1,b.2.2 h3,t.2.2,T.n1⟩
theorem KP {rs:af}{b:Int}{r:aT}(b0:0<=b):xH (rs.set b.toNat r) b=xH rs b:=by
 unfold xH;rw[List.take_set_of_le (Ze _),show(b+1).toNat=b.toNat+1 by omega,List.drop_set_of_lt (by omega)]
theorem Po {fs:List Ty}{rs:af}{b:Int}(h:Rw fs rs)(b0:0<=b):Rw fs (xH rs b)/\(xH rs b).length<=rs.length:=by
 have l:(xH rs b).length<=rs.length:=by
  unfold xH;rw[Zf,Zh,Zn];omega
 refine⟨⟨ZN l h.1,fun e he=>?_⟩,l⟩;rcases Zg.1 he with q|q;exact h.2 e (Xh q);exact h.2 e (Yw q)
theorem ac0 {p n:Int}{rs:af}(h:Rw [tI,tI] rs):Rw [tI,tI] (tkL p rs n)/\(tkL p rs n).length<=rs.length:=by
 cases c:tkB p rs n with
 |false=>rw[(Mt c).1];exact⟨h,Ze _⟩
 | true=>
   have T:=Aa c;have T1:=T.a0;have T2:=T.l0;have T3:=T.e;have T4:=T.p0;have T5:=T.n0;by_cases e:ag rs (dV rs n) 1=n
   ·rw[(RN c e).1];exact Po h T.i0
   ·rw[(RO c e).1,Zw];exact⟨Rw.set h (show bR [tI,tI] [.i (ag rs (dV rs n) 0+n),.i (ag rs (dV rs n) 1-n)]from⟨⟨rfl,show-9223372036854775808<=_/\_<=9223372036854775807 from by omega⟩,⟨rfl,show-9223372036854775808<=_/\_<=9223372036854775807 from by omega⟩,trivial⟩) _,Ze _⟩
end Go.V
namespace Go.V
def A9 (b:Int):Nat->af
 |0=>[]
 |k+1=>if hsB b k=true then A9 b k else A9 b k++[[.i k]]
def frL (n b:Int):af:=if bmOk n b=true then A9 b n.toNat else[]
theorem uF {b:Int}:∀ k:Nat,(A9 b k).length<=k
 |0=>Ze _
 | k+1=>by
   have:=uF (b:=b) k;unfold A9;split;omega
   ·rw[Zf];show _+1<=_;omega
structure J7 (b i:Int)(o:af):Prop where
 e:o=A9 b i.toNat
theorem aat {b:Int}:J7 b 0 []:=⟨rfl⟩
theorem aau {b i:Int}{o:af}(h:J7 b i o)(i0:0<=i)(g:hsB b i=true):J7 b (i+1) o:=⟨by
 rw[h.e,show(i+1).toNat=i.toNat+1 by omega,A9,Zr i0,VT g]⟩
theorem aav {b i:Int}{o:af}(h:J7 b i o)(i0:0<=i)(g:hsB b i=false):J7 b (i+1) (o++[[.i i]]):=⟨by
 rw[h.e,show(i+1).toNat=i.toNat+1 by omega,A9,Zr i0,g];rfl⟩
theorem K0 {b i:Int}{o:af}(h:J7 b i o)(i0:0<=i):(o.length:Int)<=i:=by
 have:=uF (b:=b) i.toNat;rw[<-h.e]at this;omega
theorem aeo {n b:Int}(h:bmOk n b=false):frL n b=[]:=by unfold frL;rw[h];rfl
theorem KZ {b n i:Int}{o:af}(h:J7 b i o)(g:bmOk n b=true)(i0:i<=n)(i1:n<=i):o=frL n b:=by
 rw[h.e];unfold frL;rw[VT g,show i.toNat=n.toNat by omega]
theorem zk {b:Int}:∀ k:Nat,k<=1024->Rw [tI] (A9 b k)
 |0,_=>Rw.nil
 | k+1,h=>by
   have l:=uF (b:=b) k;unfold A9;split;exact zk k (by omega);exact Rw.append (zk k (by omega)) (Ry (by omega)) (by unfold maxLen;simp only[Zj,Zk];omega)
end Go.V
namespace Go.V
def clB (ls:af)(k:Int):Bool:=inR k 0 3&&caOk ls
def ctB (ls:af)(k:Int):Bool:=clB ls k&&decide (0<(aw ls k 0).length)
def ctL (ls:af)(k:Int):af:=if ctB ls k=true then ls.set k.toNat [.s 1 ((aw ls k 0).take ((aw ls k 0).length-1))]else ls
def ctA (ls:af)(k:Int):Int:=if ctB ls k=true then ag (aw ls k 0) ((aw ls k 0).length-1) 0 else-1
def x7 (ls:af)(k a:Int):af:=ls.set k.toNat [.s 1 (aw ls k 0++[[.i a]])]
def pw (ls:af)(k a:Int):Bool:=clB ls k&&caOk (x7 ls k a)
def F7 (ls:af)(k a:Int):af:=if pw ls k a=true then x7 ls k a else ls
def czN (ls:af)(k n:Int):Nat:=min n.toNat (aw ls k 0).length
def clO (ls:af)(k n:Int):Bool:=clB ls k&&decide (1<=n)
def clK (ls:af)(k n:Int):af:=if clO ls k n=true then ls.set k.toNat [.s 1 ((aw ls k 0).drop (czN ls k n))]else ls
theorem TF {ls:af}{k:Int}(h:ctB ls k=false):ctL ls k=ls/\ctA ls k= -1:=by unfold ctL ctA;rw[h];exact⟨rfl,rfl⟩
theorem TG {ls:af}{k:Int}(h:ctB ls k=true):ctL ls k=ls.set k.toNat [.s 1 ((aw ls k 0).take ((aw ls k 0).length-1))]/\ctA ls k=ag (aw ls k 0) ((aw ls k 0).length-1) 0:=by unfold ctL ctA;rw[VT h,VT h];exact⟨rfl,rfl⟩
theorem xU {ls:af}{k:Int}(h:clB ls k=true):0<=k/\k<4/\ls.length=4/\(aw ls k 0).length<=8:=by
 unfold clB at h;rw[Zc]at h;have r:=be.1 h.1;have c:=Tj h.2;have d:=c.2 k.toNat (by omega);rw[Zr r.1]at d;exact⟨r.1,by omega,c.1,d⟩
theorem JC {ls r:af}{k:Nat}(h:Rw [.sl [tI]] ls)(g:Rw [tI] r):Rw [.sl [tI]] (ls.set k [.s 1 r]):=Rw.set h (show bR [.sl [tI]] [.s 1 r]from⟨⟨rfl,g⟩,trivial⟩) _
theorem Mg {ls r:af}{k:Nat}:ap (ls.set k [.s 1 r])<=ap ls+ap r:=by
 have s:=mA (es:=ls) (n:=k) (e:=[.s 1 r]);have e:fj [.s 1 r]=ap r:=by simp only[fj,pQ,ap];omega
 omega
theorem Ph {ls:af}{k:Int}(h:Rw [.sl [tI]] ls)(g:clB ls k=true):Rw [tI] (aw ls k 0):=by
 have c:=xU g;exact Rw.sub (fs:=[.sl [tI]]) (j:=0) (i:=k) h (by omega) rfl
theorem Tz {ls:af}{k a:Int}(h:pw ls k a=false):F7 ls k a=ls:=by unfold F7;rw[h];rfl
theorem TA {ls:af}{k a:Int}(h:pw ls k a=true):F7 ls k a=x7 ls k a:=by unfold F7;rw[VT h]
theorem MY {ls:af}{k a:Int}(h:Rw [.sl [tI]] ls)(g:clB ls k=true)(ha: -9223372036854775808<=a/\a<=9223372036854775807):Rw [.sl [tI]] (x7 ls k a)/\ap (x7 ls k a)<=2*ap ls+4:=by
 have c:=xU g;have q:=Ph h g;have s:=Mg (ls:=ls) (k:=k.toNat) (r:=aw ls k 0++[[.i a]]);have e:=qI (a:=aw ls k 0) (b:=[[.i a]]);have o:ap [[L.i a]]<=4:=by simp[ap,cK,fj,pQ]
 have d:=eX (es:=ls) (i:=k) (j:=0);exact⟨JC h (Rw.append q (Ry ha) (by unfold maxLen;simp only[Zj,Zk];omega)),by unfold x7;omega⟩
end Go.V
namespace Go.V
def FA:af->Int->Nat
 |[],_=>0
 |e::l,r=>if qcI (e::l)<=r then 0 else FA l r+1
theorem NN:∀ {l:af} {r:Int} {n:Nat},n<FA l r->r<qcI (l.drop n)
 |[],r,n,h=>absurd h (by show¬ n<0;omega)
 | e::l,r,n,h=>by
   unfold FA at h;split at h
   ·omega
   ·rename_i c;cases n with
    |zero=>rw[YG];omega
    |succ n=>rw[XP];exact NN (by omega)
theorem NM:∀ {l:af} {r:Int},0<=r->qcI (l.drop (FA l r))<=r
 |[],r,h=>h
 | e::l,r,h=>by
   unfold FA;split
   ·rename_i c;rw[YG];exact c
   ·rw[XP];exact NM h
theorem DZ:∀ {l:af} {r:Int},FA l r<=l.length
 |[],r=>Ze _
 | e::l,r=>by
   have:=DZ (l:=l) (r:=r);unfold FA;split;exact ZB _
   ·rw[Zj];omega
structure ON (l:af)(r i:Int):Prop where
 e:i.toNat<=FA l r
section
variable {l: af} {r i: Int}
theorem acv:ON l r 0:=⟨ZB _⟩
theorem acw (h:ON l r i)(i0:0<=i):i<=l.length:=by have:=h.e;have:=DZ (l:=l) (r:=r);omega
theorem Rh (h:ON l r i)(i0:0<=i)(r0:0<=r)(g:r<qcI (l.drop i.toNat)):ON l r (i+1)/\i<l.length:=by
 have e:=h.e;have ne:i.toNat≠FA l r:=fun q=>by
  have:=NM (l:=l) r0;rw[<-q]at this;omega
 have:=DZ (l:=l) (r:=r);exact⟨⟨by omega⟩,by omega⟩
theorem L0 (h:ON l r i)(g:qcI (l.drop i.toNat)<=r):i.toNat=FA l r:=by
 have e:=h.e;rcases Nat.lt_or_eq_of_le e with q|q
 ·have:=NN q;omega
 ·exact q
end
def BU (a c s:Int):aT:=[.i a,.i c,.i s]
def Gx (rm:Int)(qs:af)(a c s:Int):Bool:=quarOk rm qs&&stlOk qs a c s
def qaL (rm:Int)(qs:af)(a c s:Int):af:=if Gx rm qs a c s=true then(qs++[BU a c s]).drop (FA (qs++[BU a c s]) rm)else qs
def qaR (rm:Int)(qs:af)(a c s:Int):af:=if Gx rm qs a c s=true then(qs++[BU a c s]).take (FA (qs++[BU a c s]) rm)else[]
theorem Je {rm:Int}{qs:af}{a c s:Int}(h:Gx rm qs a c s=false):qaL rm qs a c s=qs/\qaR rm qs a c s=[]:=by unfold qaL qaR;rw[h];exact⟨rfl,rfl⟩
theorem LZ {rm:Int}{qs:af}{a c s:Int}(h:Gx rm qs a c s=true):qaL rm qs a c s=(qs++[BU a c s]).drop (FA (qs++[BU a c s]) rm)/\qaR rm qs a c s=(qs++[BU a c s]).take (FA (qs++[BU a c s]) rm):=by unfold qaL qaR;rw[VT h,VT h];exact⟨rfl,rfl⟩
def qeN:af->Int->Nat
 |[],_=>0
 |e::l,t=>if Ly (e.getD 2 .g)<t then qeN l t+1 else 0
structure QeP (l:af)(t i:Int):Prop where
 e:i.toNat<=qeN l t
section
variable {l: af} {t i: Int}
end
def qeB (rm:Int)(qs:af)(now age:Int):Bool:=quarOk rm qs&&(inR now 0 1000000&&inR age 0 1000000)
def qeL (rm:Int)(qs:af)(now age:Int):af:=if qeB rm qs now age=true then qs.drop (qeN qs (now-age))else qs
def L1 (rm:Int)(qs:af)(now age:Int):af:=if qeB rm qs now age=true then qs.take (qeN qs (now-age))else[]
end Go.V
namespace Go.V
theorem yY {k:Nat}:∀ {l:af},(∀ e∈l,fj e<=k)->cK l<=k*l.length
 |[],_=>ZB _
 | e::l,h=>by
   have a:=h e (by simp);have b:=yY (l:=l) (fun x hx=>h x (by simp[hx]));simp only[cK,Zj,Nat.mul_succ];omega
theorem uI {cs us es:af}(h:lM cs us es)(rc:Rw [.sl [tI]] cs)(ru:Rw [tB] us)(re:Rw [tI,tI] es):ap cs<=1024/\ap us<=64/\ap es<=64:=by
 have n1:=h.n1;have hu:=h.u;have e1:=h.e1;refine⟨?_,?_,?_⟩
 ·have q:cK cs<=16*cs.length:=yY fun e he=>by
   obtain⟨i,hi,rfl⟩:=Wj he;have a:=rc.eta (i:=i) (by omega) (by omega);rw[Zm,ZG,Zu hi,Option.getD_some]at a;rw[a];show fj [.s 1 (aw cs i 0)]<=16;have l:=h.l i (by omega) (by omega);have w:=(Rw.sub (fs:=[.sl [tI]]) (j:=0) (i:=(i:Int)) rc (by omega) rfl).cnt rfl;have e:fj [.s 1 (aw cs i 0)]=ap (aw cs i 0):=by simp only[fj,pQ,ap];omega
   rw[e,w];omega
  unfold ap;omega
 ·rw[ru.cnt rfl];omega
 ·rw[re.cnt rfl];omega
def tx (us es:af)(c:Int)(rs:af)(p:Int):Bool:=(!hasB rs c&&decide (0<=dJ us))&&(inR p 0 (es.length-1)&&decide (peM es p=0))
def E7 (us es:af)(c:Int)(rs:af)(p:Int):af:=if tx us es c rs p=true then us.set (dJ us).toNat [.v (.bool true)]else us
def Dn (us es:af)(c:Int)(rs:af)(p:Int):af:=if tx us es c rs p=true then xu es p 2 (dJ us)else es
def Do (cs es:af)(p:Int):af:=if peM es p≠0 then dfC cs (AJ es p) (peF es p)else cs
def Dp (us es:af)(p:Int):af:=if peM es p≠0 then dfU us (AJ es p) (peF es p)else us
def AE (es:af)(p:Int):af:=if peM es p≠0 then AJ es p else es
def kpB (es:af)(c:Int)(rs:af)(p m:Int):Bool:= !hasB rs c&&(decide (peM es p≠0)&&(decide (m=1)||decide (m=2)))
def kpE (es:af)(c:Int)(rs:af)(p m:Int):af:=if kpB es c rs p m=true then xu es p m (peF es p)else es
def koB (es:af)(c:Int)(rs:af)(p q:Int):Bool:= !hasB rs c&&(decide (peM es p≠0)&&(decide (peM es q≠0)&&decide (p≠q)))
def koC (cs es:af)(c:Int)(rs:af)(p q:Int):af:=if koB es c rs p q=true then dfC cs (xu es p 2 (peF es q)) (peF es p)else cs
def koU (us es:af)(c:Int)(rs:af)(p q:Int):af:=if koB es c rs p q=true then dfU us (xu es p 2 (peF es q)) (peF es p)else us
def koE (es:af)(c:Int)(rs:af)(p q:Int):af:=if koB es c rs p q=true then xu es p 2 (peF es q)else es
theorem abq {cs us es rs:af}{c p:Int}(h:lM cs us es):lM cs (E7 us es c rs p) (Dn us es c rs p):=by
 unfold E7 Dn;by_cases g:tx us es c rs p=true
 ·rw[VT g,VT g];unfold tx at g;simp only[Zc,VR]at g;have r:=be.1 g.2.1;have f:=uG (us:=us);have u:=h.u;have pr:0<=p/\p<es.length:=by omega
  have z:ag es p 0=0:=by have:=g.2.2;unfold peM at this;rw[VT pr]at this;exact this
  exact abI h r.1 (by omega) z g.1.2 (by omega)
 ·rw[VU g,VU g];exact h
theorem abu {cs us es:af}{p:Int}(h:lM cs us es):lM (Do cs es p) (Dp us es p) (AE es p):=by
 unfold Do Dp AE;by_cases g:peM es p≠0
 ·rw[VT g,VT g,VT g];exact ac3 h g
 ·rw[VU g,VU g,VU g];exact h
theorem rwU {us:af}{n:Nat}{b:Bool}(h:Rw [tB] us):Rw [tB] (us.set n [.v (.bool b)]):=Rw.set h (show bR [tB] [.v (.bool b)]from⟨trivial,trivial⟩) _
theorem Rx {es:af}{p m f:Int}(h:Rw [tI,tI] es)(hm: -9223372036854775808<=m/\m<=9223372036854775807)(hf: -9223372036854775808<=f/\f<=9223372036854775807):Rw [tI,tI] (xu es p m f):=Rw.set h (show bR [tI,tI] [.i m,.i f]from⟨⟨rfl,hm⟩,⟨rfl,hf⟩,trivial⟩) _
theorem afQ {cs es:af}{f:Int}(h:Rw [.sl [tI]] cs):Rw [.sl [tI]] (dfC cs es f):=by
 unfold dfC;split;exact h;exact JC h (Rw.replicate (show bR [tI] [.i 0]from⟨⟨rfl,show-9223372036854775808<=(0:Int)/\(0:Int)<=9223372036854775807 from by omega⟩,trivial⟩) (by unfold maxLen;omega))
theorem afR {us es:af}{f:Int}(h:Rw [tB] us):Rw [tB] (dfU us es f):=by
 unfold dfU;split;exact h;exact rwU h
theorem Nq {us es rs:af}{c p:Int}(hu:Rw [tB] us)(he:Rw [tI,tI] es)(l:us.length<=32):Rw [tB] (E7 us es c rs p)/\Rw [tI,tI] (Dn us es c rs p):=by
 have f:=uG (us:=us);unfold E7 Dn
 constructor<;>split
 ·exact rwU hu
 ·exact hu
 ·exact Rx he (by omega) (by omega)
 ·exact he
theorem Ns {cs us es:af}{p:Int}(hc:Rw [.sl [tI]] cs)(hu:Rw [tB] us)(he:Rw [tI,tI] es):Rw [.sl [tI]] (Do cs es p)/\Rw [tB] (Dp us es p)/\Rw [tI,tI] (AE es p):=by
 unfold Do Dp AE;refine⟨?_,?_,?_⟩<;>split
 ·exact afQ hc
 ·exact hc
 ·exact afR hu
 ·exact hu
 ·exact Rx (m:=0) (f:=0) he (by omega) (by omega)
 ·exact he
theorem jt {cs us es rs:af}{c:Int}(h:kerOk cs us es c rs=true):lM cs us es/\0<=c/\c<=100000/\mI rs=true:=by
 unfold kerOk at h;simp only[Zc]at h;have r:=be.1 h.1.2;exact⟨QK h.1.1,r.1,r.2,h.2⟩
theorem v5 {cs us es rs:af}{c:Int}(h:lM cs us es)(c0:0<=c)(c1:c<=100000)(r:mI rs=true):kerOk cs us es c rs=true:=E4 (QL h) (be.2 ⟨c0,c1⟩) r
end Go.V
namespace Go.V
structure lq (a0 a1 a2 a4 a5 a6 a7 a8 a9 aA aB aD aL:af):Prop where
 r0:Rw [.sl [tI]] a0
 r1:Rw [tB] a1
 r2:Rw [tI,tI] a2
 r4:Rw [tI] a4
 r5:Rw [tI,tI] a5
 r6:Rw [tI,tI,tI] a6
 r7:Rw [tI,tI,tI] a7
 r8:Rw [tI,tI,tI,tI] a8
 r9:Rw [.sl [.sl [tI]]] a9
 r10:Rw [.sl [tI,tI]] aA
 r11:Rw [.sl [tI]] aB
 r13:Rw [tI,tI,tI] aD
 r21:Rw [tI] aL
 c0:ap a0<=1073741824
 c1:ap a1<=1073741824
 c2:ap a2<=1073741824
 c4:ap a4<=1073741824
 c5:ap a5<=1073741824
 c6:ap a6<=1073741824
 c7:ap a7<=1073741824
 c8:ap a8<=1073741824
 c9:ap a9<=1073741824
 c10:ap aA<=1073741824
 c11:ap aB<=1073741824
 c13:ap aD<=1073741824
 c21:ap aL<=1073741824
theorem lq.hp {a0 a1 a2 a4 a5 a6 a7 a8 a9 aA aB aD aL:af}(h:lq a0 a1 a2 a4 a5 a6 a7 a8 a9 aA aB aD aL):HpN a0 a1 a2 a4 a5 a6 a7 a8 a9 aA aB aD aL:=by
 have l2:=aO (es:=a2);have l5:=aO (es:=a5);have l6:=aO (es:=a6);have l7:=aO (es:=a7);have l8:=aO (es:=a8);have l13:=aO (es:=aD);have l21:=aO (es:=aL);have c2:=h.c2;have c5:=h.c5;have c6:=h.c6;have c7:=h.c7;have c8:=h.c8;have c13:=h.c13;have c21:=h.c21;exact⟨⟨h.r6,h.r7,h.r8,h.r9,h.r13,zD h.r10 h.r11 h.c10 h.c11,QZ h.r9 h.c9,by omega,by omega,by omega,by omega,h.c9⟩,h.r0,h.r1,h.r2,by omega,h.r4,h.r5,by omega,h.r21,by omega⟩
theorem kV {fs:List Ty}{es:af}{i:Int}(h:Rw [.sl fs] es)(h0:0<=i)(h1:i<es.length):Rw fs (aw es i 0):=Rw.sub (fs:=[.sl fs]) (j:=0) (i:=i) h (by omega) rfl
end Go.V
namespace Go.V
def htB (b x:af)(f:Int):Bool:=inR f 0 (b.length-1)&&mailOk b x
theorem aa8 {b x:af}{f:Int}(h:htB b x f=true)(n:¬ ((aw b f 0).length:Int)=0):dlOk b x f=true:=by
 unfold htB at h;unfold dlOk;simp only[Zc,VR]at h ⊢;exact⟨h.2,h.1,by omega⟩
theorem MZ {b x:af}{f:Int}(h:htB b x f=false):dlOk b x f=false:=by
 unfold htB at h;unfold dlOk;cases e:inR f 0 (b.length-1)with
 |false=>simp
 |true=>rw[e,Yp]at h;rw[h];rfl
theorem M0 {b x:af}{f:Int}(n:((aw b f 0).length:Int)=0):dlOk b x f=false:=by
 unfold dlOk;rw[VQ (p:=0<(aw b f 0).length) (by omega)];simp
theorem Da {b x:af}{f:Int}(h:htB b x f=true):0<=f/\f<b.length:=by
 unfold htB at h;simp only[Zc]at h;have:=be.1 h.1;omega
theorem aa3 {b x:af}{f:Int}(h:inR f 0 (b.length-1)=false):htB b x f=false:=by unfold htB;rw[h];rfl
theorem aa4 {b x:af}{f:Int}(h:inR f 0 (b.length-1)=true):htB b x f=mailOk b x:=by unfold htB;rw[h];rfl
theorem aa5 {b x:af}{f:Int}(h:mailOk b x=false):htB b x f=false:=by unfold htB;rw[h];simp
theorem aa6 {b x:af}{f:Int}(h:mailOk b x=true):htB b x f=inR f 0 (b.length-1):=by unfold htB;rw[h];simp
theorem PD {k:Bool}{b x:af}{f:Int}(h:k=true):dvB k b x f=dlB b x f/\dvI k b x f=dlI b x f/\dvK k b x f=dlOk b x f:=by subst h;exact⟨rfl,rfl,Yp _⟩
theorem T9 {k:Bool}{b x:af}{f:Int}(h:k=false):dvB k b x f=b/\dvI k b x f=x/\dvK k b x f=false:=by subst h;exact⟨rfl,rfl,rfl⟩
theorem aeb {k:Bool}{b x:af}{f:Int}(h:dlOk b x f=false):dvB k b x f=b/\dvI k b x f=x/\dvK k b x f=false:=by
 have q:=Ps h;cases k with
 |false=>exact T9 rfl
 |true=>have p:=PD (k:=true) (b:=b) (x:=x) (f:=f) rfl;rw[p.1,p.2.1,p.2.2];exact⟨q.1,q.2,h⟩
theorem Ol {b x:af}{i:Int}(h:Rw [.sl [tI,tI]] b)(h0:0<=i)(h1:i<b.length):jq (.s 1 b) [(i.toNat,0)] [.s 2 x]=b.set i.toNat [.s 2 x]:=eG (by rw[h.eta h0 h1];rfl)
theorem FP {b x:af}{i:Int}(h:Rw [.sl [tI]] b)(h0:0<=i)(h1:i<b.length):jq (.s 1 b) [(i.toNat,0)] [.s 1 x]=b.set i.toNat [.s 1 x]:=eG (by rw[h.eta h0 h1];rfl)
theorem yE {fs:List Ty}{b:af}{i:Int}(h:Rw [.sl fs] b)(h0:0<=i)(h1:i<b.length):∃ rec o',bQ (.s 1 b) [(i.toNat,0)]=some (rec,o')/\o'+1<=rec.length:=eS (by omega) (by rw[h.eta h0 h1];exact Ze _)
theorem yt {b x b' x':af}{r r':Bool}(h1:b=b')(h2:x=x')(h3:r=r'):[DV.agg [.s 1 b,.s 1 x],DV.k r]=[DV.agg [.s 1 b',.s 1 x'],DV.k r']:=by rw[h1,h2,h3]
end Go.V
namespace Go.V
def ccB (cs us es:af)(c:Int)(rs:af):Bool:=decide (c≠100000)&&kerOk cs us es c rs
theorem MQ {cs us es rs:af}{c:Int}(h:ccB cs us es c rs=true):c≠100000/\kerOk cs us es c rs=true:=by
 unfold ccB at h;rw[Zc,VR]at h;exact h
theorem Tq {cs us es rs:af}{c:Int}(h:c=100000):ccB cs us es c rs=false:=by unfold ccB;rw[VQ (fun n=>n h)];rfl
theorem Hp {cs us es rs:af}{c:Int}(h:c≠100000):ccB cs us es c rs=kerOk cs us es c rs:=by unfold ccB;rw[VP h];rfl
def ktC (k:Bool)(cs es:af)(p:Int):af:=if k=true then Do cs es p else cs
def ktU (k:Bool)(us es:af)(p:Int):af:=if k=true then Dp us es p else us
def ktE (k:Bool)(es:af)(p:Int):af:=if k=true then AE es p else es
def ktB (k:Bool)(es:af)(p:Int):Bool:=k&&mapB es p
theorem abt {k:Bool}{cs us es:af}{p:Int}(h:k=false):ktC k cs es p=cs/\ktU k us es p=us/\ktE k es p=es/\ktB k es p=false:=by subst h;exact⟨rfl,rfl,rfl,rfl⟩
theorem Qt {k:Bool}{cs us es:af}{p:Int}(h:k=true):ktC k cs es p=Do cs es p/\ktU k us es p=Dp us es p/\ktE k es p=AE es p/\ktB k es p=mapB es p:=by subst h;exact⟨rfl,rfl,rfl,rfl⟩
theorem afg {cs us es:af}{p:Int}(h:mapB es p=false):Do cs es p=cs/\Dp us es p=us/\AE es p=es:=by
 unfold mapB at h;have:=VW h;unfold Do Dp AE;rw[VU this,VU this,VU this];exact⟨rfl,rfl,rfl⟩
theorem afh {cs us es:af}{p:Int}(h:mapB es p=true):Do cs es p=dfC cs (AJ es p) (peF es p)/\Dp us es p=dfU us (AJ es p) (peF es p)/\AE es p=AJ es p:=by
 unfold mapB at h;have:=VV h;unfold Do Dp AE;rw[VT this,VT this,VT this];exact⟨rfl,rfl,rfl⟩
theorem aff {k:Bool}{cs us es:af}{p:Int}(h:mapB es p=false):ktC k cs es p=cs/\ktU k us es p=us/\ktE k es p=es/\ktB k es p=false:=by
 cases k with
 |false=>exact abt rfl
 |true=>have q:=afg (cs:=cs) (us:=us) h;exact⟨q.1,q.2.1,q.2.2,h⟩
theorem Ff {es:af}{p:Int}(h:mapB es p=true):(0<=p/\p<es.length)/\peM es p=ag es p 0/\peF es p=ag es p 1/\peM es p≠0:=by
 unfold mapB at h;have:=VV h;have q:=I8 this;exact⟨q.1,q.2.1,q.2.2,this⟩
theorem Fg {cs us es:af}{p:Int}(m:lM cs us es)(h:mapB es p=true):0<=ag es p 1/\ag es p 1<cs.length:=by
 have q:=Ff h;have e:=m.e p q.1.1 q.1.2;exact e.2.2.2 (by have:=q.2.1;have:=q.2.2.2;omega)
theorem ad3 {cs us es:af}{f:Int}(h:((pagesOn es f).length:Int)=0):dfC cs es f=cs.set f.toNat [.s 1 (D4 16 [.i 0])]/\dfU us es f=us.set f.toNat [.v (.bool false)]:=by
 have e:fh es f=false:=LD (by omega);unfold dfC dfU;rw[e];exact⟨rfl,rfl⟩
theorem ad4 {cs us es:af}{f:Int}(h:¬ ((pagesOn es f).length:Int)=0):dfC cs es f=cs/\dfU us es f=us:=by
 have e:fh es f=true:=zz.2 (by omega);unfold dfC dfU;rw[e];exact⟨rfl,rfl⟩
theorem ac4 {es:af}{p:Int}(h:Rw [tI,tI] es)(p0:0<=p)(p1:p<es.length):jq (.s 2 es) [(p.toNat,0)] [.i 0,.i 0]=AJ es p:=by
 unfold AJ;exact eG (by rw[h.eta p0 p1];rfl)
theorem E8 {es:af}{p:Int}:(AE es p).length=es.length:=by
 unfold AE AJ;split;exact Zw;rfl
structure K3 where
 c:af
 u:af
 e:af
def EL (a0 a1 a2:af)(t:Int):Nat->K3
 |0=>⟨a0,a1,a2⟩
 |n+1=>⟨Do (EL a0 a1 a2 t n).c (EL a0 a1 a2 t n).e (t+n),Dp (EL a0 a1 a2 t n).u (EL a0 a1 a2 t n).e (t+n),AE (EL a0 a1 a2 t n).e (t+n)⟩
theorem EQ {a0 a1 a2:af}{t:Int}{n:Nat}:EL a0 a1 a2 t (n+1)=⟨Do (EL a0 a1 a2 t n).c (EL a0 a1 a2 t n).e (t+n),Dp (EL a0 a1 a2 t n).u (EL a0 a1 a2 t n).e (t+n),AE (EL a0 a1 a2 t n).e (t+n)⟩:=rfl
def duC (a0 a1 a2:af)(t l:Int):af:=(EL a0 a1 a2 t l.toNat).c
def duU (a0 a1 a2:af)(t l:Int):af:=(EL a0 a1 a2 t l.toNat).u
def duE (a0 a1 a2:af)(t l:Int):af:=(EL a0 a1 a2 t l.toNat).e
theorem aea {a0 a1 a2:af}{t:Int}:duC a0 a1 a2 t 1=Do a0 a2 t/\duU a0 a1 a2 t 1=Dp a1 a2 t/\duE a0 a1 a2 t 1=AE a2 t:=by
 unfold duC duU duE;have z:t+((0:Nat):Int)=t:=by omega
 rw[show(1:Int).toNat=0+1 from rfl,EQ,z];exact⟨rfl,rfl,rfl⟩
structure GN (a0 a1 a2:af)(t p:Int)(c u e:af):Prop where
 m:lM c u e
 rc:Rw [.sl [tI]] c
 ru:Rw [tB] u
 re:Rw [tI,tI] e
 l:e.length=a2.length
 ec:c=duC a0 a1 a2 t (p-t)
 eu:u=duU a0 a1 a2 t (p-t)
 ee:e=duE a0 a1 a2 t (p-t)
section
variable {a0 a1 a2 c u e: af} {t p: Int}
theorem HN (m:lM a0 a1 a2)(rc:Rw [.sl [tI]] a0)(ru:Rw [tB] a1)(re:Rw [tI,tI] a2):GN a0 a1 a2 t t a0 a1 a2:=by
 have z:(t-t).toNat=0:=by omega
 refine⟨m,rc,ru,re,rfl,?_,?_,?_⟩
 ·unfold duC;rw[z];rfl
 ·unfold duU;rw[z];rfl
 ·unfold duE;rw[z];rfl
theorem CY (h:GN a0 a1 a2 t p c u e)(p0:t<=p):GN a0 a1 a2 t (p+1) (Do c e p) (Dp u e p) (AE e p):=by
 have w:=Ns (p:=p) h.rc h.ru h.re;have s:(p+1-t).toNat=(p-t).toNat+1:=by omega
 have q:t+((p-t).toNat:Int)=p:=by omega
 refine⟨abu h.m,w.1,w.2.1,w.2.2,by rw[E8];exact h.l,?_,?_,?_⟩
 ·rw[h.ec,h.ee];unfold duC duE;rw[s,EQ,q]
 ·rw[h.eu,h.ee];unfold duU duE;rw[s,EQ,q]
 ·rw[h.ee];unfold duE;rw[s,EQ,q]
theorem ES {l:Int}(h:GN a0 a1 a2 t p c u e)(p1:t+l<=p)(p2:p<=t+l):c=duC a0 a1 a2 t l/\u=duU a0 a1 a2 t l/\e=duE a0 a1 a2 t l:=by
 have q:p-t=l:=by omega
 exact⟨q▸h.ec,q▸h.eu,q▸h.ee⟩
theorem ze (h:GN a0 a1 a2 t p c u e):ap c<=1024/\ap u<=64/\ap e<=64:=uI h.m h.rc h.ru h.re
theorem ER (m:lM a0 a1 a2)(rc:Rw [.sl [tI]] a0)(ru:Rw [tB] a1)(re:Rw [tI,tI] a2):∀ n:Nat,GN a0 a1 a2 t (t+n) (duC a0 a1 a2 t n) (duU a0 a1 a2 t n) (duE a0 a1 a2 t n)
 |0=>by have:=HN (t:=t) m rc ru re;rw[show t+((0:Nat):Int)=t by omega];exact this
 | n+1=>by
   have h:=CY (ER m rc ru re n) (by omega);have e:((n+1:Nat):Int)=(n:Int)+1:=by omega
   rw[show t+((n+1:Nat):Int)=t+n+1 by omega];exact h
end
def ifR (b:Bool)(x y:af):af:=if b=true then x else y
theorem D3 {o o':af}{r r':Bool}(h2:o=o')(h3:r=r'):[DV.one (.s 2 o),DV.k r]=[DV.one (.s 2 o'),DV.k r']:=by rw[h2,h3]
end Go.V
namespace Go.V
structure SmR (rs:af):Prop where
 w:Rw [tI,tI] rs
 b:∀ i:Int,0<=i->i<rs.length->0<=ag rs i 0/\ag rs i 0<=64/\0<=ag rs i 1/\ag rs i 1<=64
theorem ac5 {o:af}{n:Int}{b:Bool}(h:Rw [tB] o)(h0:0<=n)(h1:n<o.length):jq (.s 1 o) [(n.toNat,0)] [.v (.bool b)]=o.set n.toNat [.v (.bool b)]:=eG (by rw[h.eta h0 h1];rfl)
theorem af2 {o:af}{n:Int}(h:Rw [tB] o)(h0:0<=n)(h1:n<o.length):∃ rec o',bQ (.s 1 o) [(n.toNat,0)]=some (rec,o')/\o'+1<=rec.length:=eS (by omega) (by rw[h.eta h0 h1];exact Ze _)
theorem acT {es:af}{p:Int}(h:Rw [tI,tI] es)(p0:0<=p)(p1:p<es.length):∃ rec o,bQ (.s 2 es) [(p.toNat,0)]=some (rec,o)/\o+2<=rec.length:=eS (by omega) (by rw[h.eta p0 p1];exact Ze _)
section
variable {n a0 l0 i: Int} {rs o: af} {d: Bool}
theorem NU (g:rngIn n a0 l0=true)(T:Km n rs):0<=a0/\1<=l0/\a0+l0<=32:=by
 unfold rngIn at g;simp only[Zc]at g;have p:=be.1 g.1;have q:=be.1 g.2;have:=T.n1;omega
structure JnQ (rs:af)(i:Int)(o:af)(n:Nat):Prop where
 p:JnP rs i o
 n:n=o.length
 w:Rw [tI,tI] o
 b:∀ k:Int,0<=k->k<o.length->0<=ag o k 0/\ag o k 0<=64/\0<=ag o k 1/\ag o k 1<=64*i
end
end Go.V
namespace Go.V
theorem P3 {a0 a1 a2 a4 a5 a6 a7 a8 a9 aA aB aD aL:af}(h0:Rw [.sl [tI]] a0)(h1:Rw [tB] a1)(h2:Rw [tI,tI] a2)(h4:Rw [tI] a4)(h5:Rw [tI,tI] a5)(h6:Rw [tI,tI,tI] a6)(h7:Rw [tI,tI,tI] a7)(h8:Rw [tI,tI,tI,tI] a8)(h9:Rw [.sl [.sl [tI]]] a9)(h10:Rw [.sl [tI,tI]] aA)(h11:Rw [.sl [tI]] aB)(h13:Rw [tI,tI,tI] aD)(h21:Rw [tI] aL)(hs:xW [a0,a1,a2,a4,a5,a6,a7,a8,a9,aA,aB,aD,aL]<=1048576):lq a0 a1 a2 a4 a5 a6 a7 a8 a9 aA aB aD aL:=by
 obtain⟨c0,c1,c2,c4,c5,c6,c7,c8,c9,c10,c11,c13,c21⟩:=MU hs;exact⟨h0,h1,h2,h4,h5,h6,h7,h8,h9,h10,h11,h13,h21,by omega,by omega,by omega,by omega,by omega,by omega,by omega,by omega,by omega,by omega,by omega,by omega,by omega⟩
end Go.V
namespace Go.V
section
variable {n a0 l0: Int} {rs: af}
theorem Rz {x y:Pr}(hx:0<=x.1/\x.1<=64/\0<=x.2/\x.2<=64)(hy:0<=y.1/\y.1<=64/\0<=y.2/\y.2<=64):Rw [tI,tI] (rowP [x,y]):=FH (fun z hz=>by
 rcases Zl.1 hz with q|q
 ·rw[q];omega
 ·rw[Z8]at q;rw[q];omega) (by unfold maxLen;simp)
theorem N0 {x:Pr}(hx:0<=x.1/\x.1<=64/\0<=x.2/\x.2<=64):Rw [tI,tI] (rowP [x]):=FH (fun z hz=>by
 rw[Z8]at hz;rw[hz];omega) (by unfold maxLen;simp)
theorem FJ (T:Km n rs)(g:rngIn n a0 l0=true)(hl:rs.length<=1073741824)(nov:∀ x∈qh rs,DJ x (a0,l0)=false):∀ i:Nat,i<=rs.length->∃ o x y d,CI rs a0 l0 i o x y d/\Rw [tI,tI] o/\o.length<=2*i
 |0,_=>⟨[],a0,l0,false,NV (NU g T),Rw.nil,Ze _⟩
 | i+1,hi=>by
   obtain⟨o,x,y,d,h,rw_,ol⟩:=FJ T g hl nov i (by omega);have e:=j4 (es:=rs) (i:=(i:Int)) (by omega) (by omega);have m:(ag rs i 0,ag rs i 1)∈(qh rs).drop (i:Int).toNat:=by rw[drop_at (by omega) e];simp
   have v:=h.v _ m;rw[nov _ (Yw m)]at v;have no:¬ (ag rs i 0<x+y/\x<ag rs i 0+ag rs i 1):=fun c=>by rw[DL.2 c]at v;cases v
   have b:=T.b _ (Yw m);have hb:=h.b;have:=T.n1;have bp:0<=ag rs i 0/\ag rs i 0<=64/\0<=ag rs i 1/\ag rs i 1<=64:=⟨b.1,by have:=b.2.1;have:=b.2.2;omega,by have:=b.2.1;omega,by have:=b.1;have:=b.2.2;omega⟩;have c:((i+1:Nat):Int)=(i:Int)+1:=by omega
   rw[c];by_cases q1:ag rs i 0+ag rs i 1=x;exact⟨o,_,_,d,NW T h (by omega) (by omega) no q1,rw_,by omega⟩
   by_cases q2:x+y=ag rs i 0;exact⟨o,_,_,d,NX T h (by omega) (by omega) no q1 q2,rw_,by omega⟩
   by_cases q3:x<ag rs i 0/\d=false;exact⟨_,_,_,true,NY T h (by omega) (by omega) no q1 q2 q3.1 q3.2,Rw.append rw_ (Rz (x:=(x,y)) (y:=(ag rs i 0,ag rs i 1)) (by simp only;omega) bp) (by unfold maxLen;show _+2<=_;omega),by rw[Zf];show _+2<=_;omega⟩;exact⟨_,_,_,d,Js T h (by omega) (by omega) no q1 q2 q3,Rw.append rw_ (N0 (x:=(ag rs i 0,ag rs i 1)) bp) (by unfold maxLen;show _+1<=_;omega),by rw[Zf];show _+1<=_;omega⟩
theorem Jq (w:Rw [tI,tI] rs)(hl:rs.length<=1073741824):Rw [tI,tI] (rpL n rs a0 l0)/\(rpL n rs a0 l0).length<=2*rs.length+1:=by
 cases h:rpB n rs a0 l0 with
 |false=>rw[Jr h];exact⟨w,by omega⟩
 | true=>
   unfold rpB at h;simp only[Zc,Z6]at h;obtain⟨h1,h2,h3⟩:=h;have T:=wB h1;have nov:∀ x∈qh rs,DJ x (a0,l0)=false:=fun x hx=>by have:=h3 x hx;simpa using this
   obtain⟨o,x,y,d,p,r,l⟩:=FJ T h2 hl nov rs.length (Ze _);have e:=uQ h1 h2 p (by omega);rw[e.2];cases d with
   |true=>rw[VT rfl];exact⟨r,by omega⟩
   | false=>
     rw[VU (by simp)];have b:=p.b;exact⟨Rw.append r (N0 (x:=(x,y)) (by simp only;omega)) (by unfold maxLen;show _+1<=_;omega),by rw[Zf];show _+1<=_;omega⟩
end
theorem O5 {c u e a0 a1 a2 a4:af}{a3:Int}(m:lM c u e)(h:kerOk a0 a1 a2 a3 a4=true)(n:a3≠100000):ccB c u e a3 a4=true:=by
 have k:=(jt h).2;unfold ccB;rw[VP n,v5 m k.1 k.2.1 k.2.2];rfl
def bsB (m:Bool)(k v p:Int):Bool:=m&&(decide (k=p)||decide (v=p))
theorem adT {m:Bool}{k v p:Int}(h:m=false):bsB m k v p=false:=by subst h;rfl
theorem adR {m:Bool}{k v p:Int}(h:m=true)(e:k=p):bsB m k v p=true:=by subst h;unfold bsB;rw[VP e];rfl
theorem adS {m:Bool}{k v p:Int}(h:m=true)(e:k≠p):bsB m k v p=decide (v=p):=by subst h;unfold bsB;rw[VQ e];rfl
def dsC (a0 a1 a2 a6:af)(i:Int):af:=duC a0 a1 a2 (ag a6 i 0) 1
def dsU (a0 a1 a2 a6:af)(i:Int):af:=duU a0 a1 a2 (ag a6 i 0) 1
def dsE (a0 a1 a2 a6:af)(i:Int):af:=duE a0 a1 a2 (ag a6 i 0) 1
def dsF (a0 a1 a2 a5 a6:af)(i:Int):af:=rpL (zlI (dsE a0 a1 a2 a6 i)) a5 (ag a6 i 0) 1
def dsS (a6:af)(i:Int):af:=delL a6 i (i+1)
theorem HM {a0 a1 a2 a6:af}{i:Int}:dsC a0 a1 a2 a6 i=Do a0 a2 (ag a6 i 0)/\dsU a0 a1 a2 a6 i=Dp a1 a2 (ag a6 i 0)/\dsE a0 a1 a2 a6 i=AE a2 (ag a6 i 0):=aea
theorem uE {fs:List Ty}{es:af}{i j:Int}(h:Rw fs es)(ij:i<=j):Rw fs (delL es i j)/\(delL es i j).length<=es.length:=by
 have l:(delL es i j).length<=es.length:=by unfold delL;rw[Zf,Zh,Zn];omega
 refine⟨⟨ZN l h.1,fun e he=>?_⟩,l⟩;unfold delL at he;rcases Zg.1 he with q|q;exact h.2 e (Xh q);exact h.2 e (Yw q)
end Go.V