/- Plain facts. -/
import Derived.Test.YtpldpilhgjpkjaaGreatW2
import Derived.Test.YtpldpilhgjpkjaaGreatW1
set_option linter.all false
open Go
open BitVec renaming ofInt->ZH,ofInt_natCast->WL,toNat_ofNat->WM
open Bool renaming and_eq_true->Zc,or_eq_true->Yc,and_false->Z4,true_and->YE,not_eq_true->YY,or_true->WI,eq_iff_iff->WJ
open Int renaming mul_nonneg->Xz,mul_le_mul_of_nonneg_right->Xc,toNat_of_nonneg->Zp,add_mul->WA,ediv_nonneg->XX,eq_ofNat_of_zero_le->ZV,mul_comm->X2,le_refl->Yd,toNat_natCast->ZE,toNat->YB,one_mul->X0,not_le->WN
open IntKind renaming i64->ZG,wrap->YC,i64->Za
open IntWalk renaming i64_in->YT
open List renaming length_map->YW,mem_append->Zg,length_append->Ze,append_assoc->Zi,length_cons->Zr,length_nil->Zt,mem_cons->Zk,mem_singleton->Yb,nodup_append->Zu,nodup_nil->ZK,mem_range->Ya,mergeSort_perm->WB,getD_eq_getElem?_getD->Zo,take_append_drop->ZI,mem_map->ZR,getElem_mem->Xl,getElem?_eq_getElem->Zs,mem_iff_getElem->X3,take->Yo,drop->YD,length_take->Zh,count_eq_zero->WE,take_length->Yp,drop_eq_getElem_cons->WF,take_of_length_le->Yj,nodup_iff_count->WG,count_pos_iff->WH,mem_of_getElem?->Zx,not_mem_nil->YL,replicate->Zl,length_set->ZS,getElem_of_mem->X1,length_drop->Zn,mem_of_mem_take->Xn,mem_of_mem_drop->Xo,getElem?_append_right->ZM
open List.Nodup renaming length_le_of_subset->WC
open List.Pairwise renaming nil->Vy,imp₂->Vz
open Nat renaming zero_le->ZF,lt_trichotomy->XA,le_refl->Zf,le_trans->ZN,not_lt_zero->XB
open Option.some renaming inj->Yv
open Value renaming int->Zq
namespace Go.V
def Ao (sp:af)(i:Int):Nat->List Int
 |0=>[]
 |n+1=>Ao sp i n++(if hsB (ag sp i 2) n then[aaI (ag sp i 0) (ag sp i 1) (ag sp i 2) n]else[])
def yS (sp:af):Nat->List Int
 |0=>[]
 |n+1=>yS sp n++Ao sp n (slN (ag sp n 1)).toNat
def BS (lg:af):Nat->List Int
 |0=>[]
 |n+1=>BS lg n++[ag lg n 0*16]
def Oq (sp lg:af):List Int:=yS sp sp.length++BS lg lg.length
def iaL (sp lg:af):af:=if layOk sp lg then srtL (hH (Oq sp lg))else[]
theorem CL {a b:Int}(h: -9223372036854775808<=a*b/\a*b<=9223372036854775807):bK .mul Za a b=a*b:=YT _ h
theorem Bn {l:af}:(srtL l).length=l.length:=by unfold srtL;rw[cn,List.length_mergeSort];unfold nG;rw[YW]
def NE (l:List Int):Prop:=∀ x∈l,-1<=x/\x<=1000
theorem Dw {a b:List Int}(h:NE a)(g:NE b):NE (a++b):=fun x hx=>by
 rcases Zg.1 hx with q|q;exact h x q;exact g x q
theorem LL {x:Int}(h: -1<=x/\x<=1000):NE [x]:=fun y hy=>by simp at hy;rw[hy];exact h
theorem acd {p k b s:Int}: -1<=aaI p k b s/\aaI p k b s<=1000:=by
 unfold aaI;by_cases h:JQ p k b s=true
 ·rw[VN h];unfold JQ at h;simp only[Zc]at h;have t:=lL h.1;have c:=jr t.2.2.1;have s1:=bz.1 h.2;have m0:0<=s*clsSz k:=Xz (by omega) (by omega);have m1:s*clsSz k<=slN k*clsSz k:=Xc (by omega) (by omega);omega
 ·rw[VO h];omega
theorem yR {sp:af}{i k:Int}(h:0<=k):Ao sp i (k+1).toNat=Ao sp i k.toNat++(if hsB (ag sp i 2) k then[aaI (ag sp i 0) (ag sp i 1) (ag sp i 2) k]else[]):=by
 rw[show(k+1).toNat=k.toNat+1 from by omega,Ao,Zp h]
theorem Hw {sp:af}{i:Int}(h:0<=i):yS sp (i+1).toNat=yS sp i.toNat++Ao sp i (slN (ag sp i 1)).toNat:=by
 rw[show(i+1).toNat=i.toNat+1 from by omega,yS,Zp h]
theorem Cp {lg:af}{i:Int}(h:0<=i):BS lg (i+1).toNat=BS lg i.toNat++[ag lg i 0*16]:=by
 rw[show(i+1).toNat=i.toNat+1 from by omega,BS,Zp h]
structure Qw (sp:af)(i:Int)(o:af):Prop where
 e:o=hH (yS sp i.toNat)
 b:NE (yS sp i.toNat)
 l:(yS sp i.toNat).length<=16*i.toNat
structure JG (sp:af)(i k:Int)(o:af):Prop where
 e:o=hH (yS sp i.toNat++Ao sp i k.toNat)
 b:NE (yS sp i.toNat++Ao sp i k.toNat)
 l:(yS sp i.toNat).length<=16*i.toNat
 k:(Ao sp i k.toNat).length<=k.toNat
structure LF (sp lg:af)(j:Int)(o:af):Prop where
 e:o=hH (yS sp sp.length++BS lg j.toNat)
 b:NE (yS sp sp.length++BS lg j.toNat)
 l:(yS sp sp.length++BS lg j.toNat).length<=16*sp.length+j.toNat
theorem acQ {sp:af}:Qw sp 0 []:=⟨rfl,(fun x hx=>by cases hx),ZF _⟩
theorem acS {sp o:af}{i:Int}(h:Qw sp i o):JG sp i 0 o:=
 ⟨by rw[h.e];simp[Ao],by simpa[Ao]using h.b,h.l,ZF _⟩
theorem Ou {sp o:af}{i k:Int}(h:JG sp i k o):o.length<=16*i.toNat+k.toNat:=by
 have l:=h.l;have m:=h.k;rw[h.e,cn,Ze];omega
theorem Ov {sp o:af}{i k:Int}(h:JG sp i k o)(k0:0<=k)(hh:hsB (ag sp i 2) k=true):JG sp i (k+1) (o++[[.i (aaI (ag sp i 0) (ag sp i 1) (ag sp i 2) k)]]):=by
 have m:=h.k;have e:=h.e;refine⟨?_,?_,h.l,?_⟩
 ·rw[yR k0,VN hh, <-Zi,gw, <-e];rfl
 ·rw[yR k0,VN hh, <-Zi];exact Dw h.b (LL acd)
 ·rw[yR k0,VN hh,Ze,Zr,Zt];omega
theorem SD {sp o:af}{i k:Int}(h:JG sp i k o)(k0:0<=k)(hh:hsB (ag sp i 2) k=false):JG sp i (k+1) o:=by
 have m:=h.k;have e:=h.e;have u:Ao sp i (k+1).toNat=Ao sp i k.toNat:=by rw[yR k0,hh];simp
 refine⟨?_,?_,h.l,?_⟩
 ·rw[u];exact e
 ·rw[u];exact h.b
 ·rw[u];omega
theorem ad4 {sp lg:af}{i:Int}(hl:layOk sp lg=true)(h0:0<=i)(h1:i<sp.length):0<=slN (ag sp i 1)/\slN (ag sp i 1)<=16:=by
 have t:=lL ((HP hl).1 i h0 h1);have c:=jr t.2.2.1;omega
theorem Ot {sp o:af}{i k:Int}(h:JG sp i k o)(i0:0<=i)(k1:k<=slN (ag sp i 1))(k2:slN (ag sp i 1)<=k)(hs:0<=slN (ag sp i 1)/\slN (ag sp i 1)<=16):Qw sp (i+1) o:=by
 have ek:k=slN (ag sp i 1):=by omega
 have e:=h.e;have b:=h.b;have l:=h.l;have m:=h.k;rw[ek, <-Hw i0]at e b;rw[ek]at m;refine⟨e,b,?_⟩;rw[Hw i0,Ze];omega
theorem acT {sp lg o:af}{i:Int}(h:Qw sp i o)(h1:i<=sp.length)(h2:(sp.length:Int)<=i):LF sp lg 0 o:=by
 have ei:i.toNat=sp.length:=by omega
 have e:=h.e;have b:=h.b;have l:=h.l;rw[ei]at e b l;exact⟨by rw[e];simp[BS],by simpa[BS]using b,by simpa[BS]using l⟩
theorem HA {sp lg o:af}{j:Int}(h:LF sp lg j o):o.length<=16*sp.length+j.toNat:=by
 have l:=h.l;rw[h.e,cn];exact l
theorem adf {sp lg:af}{j:Int}(hl:layOk sp lg=true)(h0:0<=j)(h1:j<lg.length):0<=ag lg j 0/\ag lg j 0<=32:=by
 have t:=k7 ((HP hl).2.1 j h0 h1);have b:=ku t.1;omega
theorem SF {sp lg o:af}{j:Int}(h:LF sp lg j o)(j0:0<=j)(hb:0<=ag lg j 0/\ag lg j 0<=32):LF sp lg (j+1) (o++[[.i (ag lg j 0*16)]]):=by
 have e:=h.e;have l:=h.l;refine⟨?_,?_,?_⟩
 ·rw[Cp j0, <-Zi,gw, <-e];rfl
 ·rw[Cp j0, <-Zi];exact Dw h.b (LL (by omega))
 ·rw[Cp j0, <-Zi,Ze,Zr,Zt];omega
theorem SE {sp lg o:af}{j:Int}(h:LF sp lg j o)(h1:sp.length<=1073741824)(h2:j<=1073741824):Rw [tI] o/\o.length<=70368744177664:=by
 have l:=HA h;refine⟨?_,by omega⟩;have e:=h.e;have l2:=h.l;rw[e];exact rV (fun x hx=>by have:=h.b x hx;omega) (by omega)
theorem Ow {sp lg o:af}{j:Int}(h:LF sp lg j o)(j1:j<=lg.length)(j2:(lg.length:Int)<=j)(hl:layOk sp lg=true):srtL o=iaL sp lg:=by
 have ej:j.toNat=lg.length:=by omega
 have e:=h.e;rw[ej]at e;unfold iaL Oq;rw[VN hl, <-e]
theorem acR {sp lg:af}(hl:layOk sp lg=false):([]:af)=iaL sp lg:=by unfold iaL;rw[hl];rfl
end Go.V
namespace Go.V
theorem uB:∀ {a b:List Int},a.Pairwise (· < ·)->b.Pairwise (· < ·)->(∀ x,x∈a↔x∈b)->a=b
 |[],[],_,_,_=>rfl
 |[],y::b,_,_,h=>by have:=(h y).2 (by simp);simp at this
 |x::a,[],_,_,h=>by have:=(h x).1 (by simp);simp at this
 | x::a,y::b,ha,hb,h=>by
   rw[List.pairwise_cons]at ha hb;have e:x=y:=by
    rcases Zk.1 ((h x).1 (by simp))with q|q;exact q
    ·rcases Zk.1 ((h y).2 (by simp))with r|r;exact r.symm
     ·have:=hb.1 x q;have:=ha.1 y r;omega
   subst e;rw[uB ha.2 hb.2 (fun z=>?_)]
   constructor
   ·intro m;rcases Zk.1 ((h z).1 (by simp[m]))with q|q
    ·have:=ha.1 z m;omega
    ·exact q
   ·intro m;rcases Zk.1 ((h z).2 (by simp[m]))with q|q
    ·have:=hb.1 z m;omega
    ·exact q
theorem oG {sp:af}{x:Int}:∀ {n:Nat},x∈lm sp n↔∃ i:Nat,i<n/\ag sp i 0=x
 |0=>by simp[lm]
 | n+1=>by
   rw[lm,Zg,oG,Yb]
   constructor
   ·rintro(⟨i,h,e⟩|rfl);exact⟨i,by omega,e⟩;exact⟨n,by omega,rfl⟩
   ·rintro⟨i,h,e⟩;by_cases c:i=n
    ·subst c;exact .inr e.symm
    ·exact .inl ⟨i,by omega,e⟩
theorem za {p x:Int}:∀ {n:Nat},x∈oK p n↔p<=x/\x<p+n
 |0=>⟨(fun h=>by cases h),(fun h=>absurd h (by omega))⟩
 | n+1=>by
   rw[oK,Zg,za,Yb];omega
theorem qu {lg:af}{x:Int}:∀ {n:Nat},x∈li lg n↔∃ j:Nat,j<n/\ag lg j 0<=x/\x<ag lg j 0+(ag lg j 1).toNat
 |0=>by simp[li]
 | n+1=>by
   rw[li,Zg,qu,za]
   constructor
   ·rintro(⟨i,h,e⟩|h);exact⟨i,by omega,e⟩;exact⟨n,by omega,h⟩
   ·rintro⟨i,h,e⟩;by_cases c:i=n
    ·subst c;exact .inr e
    ·exact .inl ⟨i,by omega,e⟩
theorem I4 {sp:af}:∀ {n:Nat},(lm sp n).Nodup->∀ i i':Nat,i<i'->i'<n->ag sp i 0≠ag sp i' 0
 |0,_,i,i',_,h=>by omega
 | n+1,hn,i,i',h1,h2=>by
   rw[lm,Zu]at hn;by_cases c:i'=n
   ·subst c;exact hn.2.2 _ (oG.2 ⟨i,h1,rfl⟩) _ (by simp)
   ·exact I4 hn.1 i i' h1 (by omega)
theorem HY {lg:af}:∀ {n:Nat},(li lg n).Nodup->∀ (j j':Nat) (x:Int),j<j'->j'<n->ag lg j 0<=x->x<ag lg j 0+(ag lg j 1).toNat->ag lg j' 0<=x->x<ag lg j' 0+(ag lg j' 1).toNat->False
 |0,_,j,j',x,_,h,_,_,_,_=>by omega
 | n+1,hn,j,j',x,h1,h2,a,b,c,d=>by
   rw[li,Zu]at hn;by_cases e:j'=n
   ·subst e;exact hn.2.2 x (qu.2 ⟨j,h1,a,b⟩) x (za.2 ⟨c,d⟩) rfl
   ·exact HY hn.1 j j' x h1 (by omega) a b c d
structure Qz (sp lg:af):Prop where
 s:∀ i:Nat,i<sp.length->spOk (ag sp i 0) (ag sp i 1) (ag sp i 2)=true
 l:∀ j:Nat,j<lg.length->lgOk (ag lg j 0) (ag lg j 1) (ag lg j 2)=true
 ss:∀ i i':Nat,i<sp.length->i'<sp.length->ag sp i 0=ag sp i' 0->i=i'
 sl:∀ i j:Nat,i<sp.length->j<lg.length->ag lg j 0<=ag sp i 0->ag sp i 0<ag lg j 0+ag lg j 1->False
 ll:∀ (j j':Nat) (x:Int),j<lg.length->j'<lg.length->ag lg j 0<=x->x<ag lg j 0+ag lg j 1->ag lg j' 0<=x->x<ag lg j' 0+ag lg j' 1->j=j'
theorem O4 {sp lg:af}(h:layOk sp lg=true):Qz sp lg:=by
 obtain⟨h1,h2,h3⟩:=HP h;unfold v7 at h3;rw[Zu]at h3;have n0:∀ j:Nat,j<lg.length->((ag lg j 1).toNat:Int)=ag lg j 1:=fun j hj=>by
  have t:=k7 (h2 j (by omega) (by omega));have b:=ku t.1;omega
 refine⟨fun i hi=>h1 i (by omega) (by omega),fun j hj=>h2 j (by omega) (by omega),fun i i' a b e=>?_,fun i j a b c d=>?_,fun j j' x a b c d e f=>?_⟩
 ·rcases XA i i' with q|q|q;exact absurd e (I4 h3.1 i i' q b);exact q;exact absurd e.symm (I4 h3.1 i' i q a)
 ·exact h3.2.2 _ (oG.2 ⟨i,a,rfl⟩) _ (qu.2 ⟨j,b,c,by rw[n0 j b];exact d⟩) rfl
 ·rcases XA j j' with q|q|q;exact(HY h3.2.1 j j' x q b c (by rw[n0 j a];exact d) e (by rw[n0 j' b];exact f)).elim;exact q;exact(HY h3.2.1 j' j x q a e (by rw[n0 j' b];exact f) c (by rw[n0 j a];exact d)).elim
theorem mZ {p k b s:Int}(h:spOk p k b=true)(h0:0<=s)(h1:s<slN k):aaI p k b s=p*16+s*clsSz k/\0<=s*clsSz k/\s*clsSz k+clsSz k<=16/\1<=clsSz k:=by
 have t:=lL h;have c:=jr t.2.2.1;have a:JQ p k b s=true:=by unfold JQ;rw[h,bz.2 ⟨h0,by omega⟩];rfl
 have m0:0<=s*clsSz k:=Xz h0 (by omega);have m1:(s+1)*clsSz k<=slN k*clsSz k:=Xc (by omega) (by omega);rw[WA]at m1;unfold aaI;rw[VN a];exact⟨rfl,m0,by omega,by omega⟩
theorem ui {sp:af}{i x:Int}:∀ {n:Nat},x∈Ao sp i n↔∃ k:Nat,k<n/\hsB (ag sp i 2) k=true/\x=aaI (ag sp i 0) (ag sp i 1) (ag sp i 2) k
 |0=>by simp[Ao]
 | n+1=>by
   rw[Ao,Zg,ui]
   constructor
   ·rintro(⟨k,h,e⟩|h);exact⟨k,by omega,e⟩
    ·by_cases c:hsB (ag sp i 2) n=true
     ·rw[VN c,Yb]at h;exact⟨n,by omega,c,h⟩
     ·rw[VO c]at h;simp at h
   ·rintro⟨k,h,c,e⟩;by_cases q:k=n
    ·subst q;rw[VN c];exact .inr (by simp[e])
    ·exact .inl ⟨k,by omega,c,e⟩
theorem uj {sp:af}{x:Int}:∀ {n:Nat},x∈yS sp n↔∃ i k:Nat,i<n/\k<(slN (ag sp i 1)).toNat/\hsB (ag sp i 2) k=true/\x=aaI (ag sp i 0) (ag sp i 1) (ag sp i 2) k
 |0=>by simp[yS]
 | n+1=>by
   rw[yS,Zg,uj,ui]
   constructor
   ·rintro(⟨i,k,h,e⟩|⟨k,h⟩);exact⟨i,k,by omega,e⟩;exact⟨n,k,by omega,h⟩
   ·rintro⟨i,k,h,e⟩;by_cases q:i=n
    ·subst q;exact .inr ⟨k,e⟩
    ·exact .inl ⟨i,k,by omega,e⟩
theorem uh {lg:af}{x:Int}:∀ {n:Nat},x∈BS lg n↔∃ j:Nat,j<n/\x=ag lg j 0*16
 |0=>by simp[BS]
 | n+1=>by
   rw[BS,Zg,uh,Yb]
   constructor
   ·rintro(⟨i,h,e⟩|h);exact⟨i,by omega,e⟩;exact⟨n,by omega,h⟩
   ·rintro⟨i,h,e⟩;by_cases q:i=n
    ·subst q;exact .inr e
    ·exact .inl ⟨i,by omega,e⟩
theorem Cq {sp:af}{i:Nat}(h:spOk (ag sp i 0) (ag sp i 1) (ag sp i 2)=true):∀ {n:Nat},n<=(slN (ag sp i 1)).toNat->(Ao sp i n).Nodup
 |0,_=>ZK
 | n+1,hn=>by
   rw[Ao];by_cases c:hsB (ag sp i 2) n=true
   ·rw[VN c];refine kG (Cq h (by omega)) (fun m=>?_);obtain⟨k,k1,_,k3⟩:=ui.1 m;have a:=mZ (s:=(n:Int)) h (by omega) (by omega);have b:=mZ (s:=(k:Int)) h (by omega) (by omega);have q:((k:Int)+1)*clsSz (ag sp i 1)<=(n:Int)*clsSz (ag sp i 1):=Xc (by omega) (by omega);rw[WA]at q;omega
   ·rw[VO c,List.append_nil];exact Cq h (by omega)
theorem Hu {sp lg:af}(F:Qz sp lg):∀ {n:Nat},n<=sp.length->(yS sp n).Nodup
 |0,_=>ZK
 | n+1,hn=>by
   rw[yS,Zu];refine⟨Hu F (by omega),Cq (F.s n (by omega)) (Zf _),fun x hx y hy e=>?_⟩;subst e;obtain⟨i,k,i1,k1,_,e1⟩:=uj.1 hx;obtain⟨k',k2,_,e2⟩:=ui.1 hy;have a:=mZ (s:=(k:Int)) (F.s i (by omega)) (by omega) (by omega);have b:=mZ (s:=(k':Int)) (F.s n (by omega)) (by omega) (by omega);have:=F.ss i n (by omega) (by omega) (by omega);omega
theorem Ht {sp lg:af}(F:Qz sp lg):∀ {n:Nat},n<=lg.length->(BS lg n).Nodup
 |0,_=>ZK
 | n+1,hn=>by
   rw[BS];refine kG (Ht F (by omega)) (fun m=>?_);obtain⟨j,j1,e⟩:=uh.1 m;have t:=k7 (F.l j (by omega));have b:=ku t.1;have t':=k7 (F.l n (by omega));have b':=ku t'.1;have:=F.ll j n (ag lg j 0) (by omega) (by omega) (by omega) (by omega) (by omega) (by omega);omega
theorem Or {sp lg:af}(F:Qz sp lg):(Oq sp lg).Nodup:=by
 unfold Oq;rw[Zu];refine⟨Hu F (Zf _),Ht F (Zf _),fun x hx y hy e=>?_⟩;subst e;obtain⟨i,k,i1,k1,_,e1⟩:=uj.1 hx;obtain⟨j,j1,e2⟩:=uh.1 hy;have a:=mZ (s:=(k:Int)) (F.s i (by omega)) (by omega) (by omega);have t:=k7 (F.l j (by omega));have b:=ku t.1;exact F.sl i j i1 j1 (by omega) (by omega)
end Go.V
namespace Go.V
theorem kF {p:Int->Bool}{n:Nat}(h:0<=cR p n):cR p n<n/\p (cR p n)=true:=by
 refine⟨by rcases nD (p:=p) (n:=n)with q|q<;>omega,?_⟩;unfold cR at h ⊢;split at h
 ·rename_i j e;have q:=List.find?_some e;exact q
 ·omega
theorem qj {p:Int->Bool}{n i:Nat}(h:i<n)(hp:p i=true):0<=cR p n:=by
 unfold cR;split;omega
 ·rename_i e;rw[List.find?_eq_none]at e;exact absurd hp (e i (Ya.2 h))
theorem IU {sp:af}{a i:Int}:zA sp a i=true↔BV (ag sp i 0) (ag sp i 1) (ag sp i 2) a=true:=by
 unfold zA;rw[VM]
 constructor
 ·intro h;cases c:BV (ag sp i 0) (ag sp i 1) (ag sp i 2) a with
  |true=>rfl
  |false=>rw[(yh c).1]at h;omega
 ·intro h;obtain⟨h1,h2,h3⟩:=Bi.1 h;have cb:=jr (lL h1).2.2.1;rw[(wq h).1];exact XX (by omega) (by omega)
def lvP (sp lg:af)(x:Int):Prop:=(∃ i k:Nat,i<sp.length/\k<(slN (ag sp i 1)).toNat/\hsB (ag sp i 2) k=true/\x=aaI (ag sp i 0) (ag sp i 1) (ag sp i 2) k)\/∃ j:Nat,j<lg.length/\x=ag lg j 0*16
theorem Em {sp lg:af}{x:Int}:x∈Oq sp lg↔lvP sp lg x:=by
 unfold Oq lvP;rw[Zg,uj,uh]
theorem Ru {sp lg:af}{a:Int}(h:0<=lO sp a):dnK sp lg a=(if hsB (ag sp (lO sp a) 2) (JB sp a (lO sp a))then 1 else 2)/\dnO sp lg a=QO sp a (lO sp a):=by
 unfold dnK dnO;rw[VN h,VN h];exact⟨rfl,rfl⟩
theorem Rt {sp lg:af}{a:Int}(h:¬ 0<=lO sp a)(g:0<=xx lg a):dnK sp lg a=3/\dnO sp lg a=loA lg a (xx lg a):=by
 unfold dnK dnO;rw[VO h,VO h,VN g,VN g];exact⟨rfl,rfl⟩
theorem acr {sp lg:af}{a:Int}(h:¬ 0<=lO sp a)(g:¬ 0<=xx lg a):dnK sp lg a=0/\dnO sp lg a=0:=by
 unfold dnK dnO;rw[VO h,VO h,VO g,VO g];exact⟨rfl,rfl⟩
theorem Eg {sp lg:af}{a:Int}(hl:layOk sp lg=true):tP sp lg a=true↔dnO sp lg a=0/\(dnK sp lg a=1\/dnK sp lg a=3):=by
 unfold tP dzO dzK;rw[VN hl,VN hl];simp only[Zc,Yc,VM]
theorem MD {sp lg:af}{x:Int}(F:Qz sp lg)(hl:layOk sp lg=true)(h:tP sp lg x=true):lvP sp lg x:=by
 obtain⟨h1,h2⟩:=(Eg hl).1 h;by_cases c:0<=lO sp x
 ·obtain⟨d1,d2⟩:=Ru (lg:=lg) c;obtain⟨b,q⟩:=kF c;change lO sp x<sp.length at b;change zA sp x (lO sp x)=true at q;rw[d1]at h2;rw[d2]at h1;generalize hF:lO sp x=f at*;obtain⟨f,rfl⟩:=ZV c;have bf:f<sp.length:=by omega
  have q':=IU.1 q;obtain⟨a1,a2,a3⟩:=Bi.1 q';obtain⟨e1,e2⟩:=wq q';have cb:=jr (lL a1).2.2.1;have hh:hsB (ag sp f 2) (JB sp x f)=true:=by
   cases c:hsB (ag sp f 2) (JB sp x f)with
   |true=>rfl
   |false=>rw[c]at h2;simp at h2
  unfold QO at h1;rw[e2]at h1;unfold JB at hh;rw[e1]at hh;have dv:clsSz (ag sp f 1)*((x-ag sp f 0*16)/clsSz (ag sp f 1))=x-ag sp f 0*16:=Int.mul_ediv_cancel_of_emod_eq_zero h1;have nn:0<=(x-ag sp f 0*16)/clsSz (ag sp f 1):=XX (by omega) (by omega);generalize hs:(x-ag sp f 0*16)/clsSz (ag sp f 1)=s at*;have lt:s<slN (ag sp f 1):=by
   by_cases w:s<slN (ag sp f 1);exact w
   ·have m:slN (ag sp f 1)*clsSz (ag sp f 1)<=s*clsSz (ag sp f 1):=Xc (by omega) (by omega);rw[X2 s]at m;omega
  obtain⟨s,rfl⟩:=ZV nn;have ae:=mZ a1 nn lt;refine .inl ⟨f,s,bf,by omega,hh,?_⟩;have ae1:=ae.1;rw[X2 (s:Int)]at ae1;show x=aaI (ag sp f 0) (ag sp f 1) (ag sp f 2) s;rw[ae1];omega
 ·by_cases g:0<=xx lg x
  ·obtain⟨d1,d2⟩:=Rt c g;obtain⟨b,q⟩:=kF g;change xx lg x<lg.length at b;change A0 lg x (xx lg x)=true at q;rw[d2]at h1;generalize hF:xx lg x=f at*;obtain⟨f,rfl⟩:=ZV g;refine .inr ⟨f,by omega,?_⟩;unfold loA loI at h1;unfold A0 at q;rw[VN q]at h1;show x=ag lg f 0*16;omega
  ·obtain⟨d1,d2⟩:=acr c g;rw[d1]at h2;omega
theorem Mj {sp lg:af}{x:Int}(h:0<=lO sp x):∃ f:Nat,lO sp x=f/\f<sp.length/\BV (ag sp f 0) (ag sp f 1) (ag sp f 2) x=true:=by
 obtain⟨b,q⟩:=kF h;obtain⟨f,e⟩:=ZV h;refine⟨f,e,?_,?_⟩
 ·have:lO sp x<sp.length:=b;rw[e]at this;exact Int.ofNat_lt.1 this
 ·have:zA sp x (lO sp x)=true:=q;rw[e]at this;exact IU.1 this
theorem Tp {sp lg:af}{x:Int}(F:Qz sp lg)(hl:layOk sp lg=true)(h:lvP sp lg x):tP sp lg x=true:=by
 rw[Eg hl];rcases h with⟨i,k,i1,k1,hh,e⟩|⟨j,j1,e⟩
 ·have a1:=F.s i i1;have cb:=jr (lL a1).2.2.1;have ae:=mZ (s:=(k:Int)) a1 (by omega) (by omega);have sb:BV (ag sp i 0) (ag sp i 1) (ag sp i 2) x=true:=Bi.2 ⟨a1,by omega,by omega⟩;have c:0<=lO sp x:=qj i1 (IU.2 sb);obtain⟨f,e1,f1,f2⟩:=Mj (lg:=lg) c;obtain⟨_,g2,g3⟩:=Bi.1 f2;have:f=i:=F.ss f i f1 i1 (by omega);subst this;obtain⟨d1,d2⟩:=Ru (lg:=lg) c;rw[d1,d2,e1];obtain⟨y1,y2⟩:=wq sb;have xe:x-ag sp f 0*16=k*clsSz (ag sp f 1):=by omega
  unfold JB QO;rw[y1,y2,xe,Int.mul_ediv_cancel _ (by omega),VN hh];exact⟨Int.mul_emod_left _ _,.inl rfl⟩
 ·have t:=k7 (F.l j j1);have b:=ku t.1;have r:=bz.1 t.1;have c:¬ 0<=lO sp x:=fun c=>by
   obtain⟨f,e1,f1,f2⟩:=Mj (lg:=lg) c;obtain⟨_,g2,g3⟩:=Bi.1 f2;exact F.sl f j f1 j1 (by omega) (by omega)
  have lb:lhB (ag lg j 0) (ag lg j 1) (ag lg j 2) x=true:=OW.2 ⟨F.l j j1,by omega,by omega⟩;have g:0<=xx lg x:=qj j1 (show A0 lg x j=true from lb);obtain⟨d1,d2⟩:=Rt c g;obtain⟨b1,q⟩:=kF g;change xx lg x<lg.length at b1;change A0 lg x (xx lg x)=true at q;rw[d1,d2];generalize hF:xx lg x=f at*;obtain⟨f,rfl⟩:=ZV g;have f1:f<lg.length:=by omega
  have q':lhB (ag lg f 0) (ag lg f 1) (ag lg f 2) x=true:=q;obtain⟨_,u1,u2⟩:=OW.1 q';have t2:=k7 (F.l f f1);have b2:=ku t2.1;have:f=j:=F.ll f j (ag lg j 0) f1 j1 (by omega) (by omega) (by omega) (by omega);subst this;refine⟨?_,.inr rfl⟩;show loI (ag lg f 0) (ag lg f 1) (ag lg f 2) x=0;unfold loI;rw[VN lb];omega
def MC (sp lg:af):Nat->List Int
 |0=>[]
 |n+1=>MC sp lg n++(if tP sp lg n then[(n:Int)]else[])
theorem vN {sp lg:af}:∀ n:Nat,Jy sp lg n=hH (MC sp lg n)
 |0=>rfl
 | n+1=>by
   rw[Jy,MC,gw,vN n];by_cases c:tP sp lg n=true
   ·rw[VN c,VN c];rfl
   ·rw[VO c,VO c];rfl
theorem qv {sp lg:af}{x:Int}:∀ {n:Nat},x∈MC sp lg n↔0<=x/\x<n/\tP sp lg x=true
 |0=>⟨(fun h=>by cases h),(fun h=>absurd h.2.1 (by omega))⟩
 | n+1=>by
   rw[MC,Zg,qv]
   constructor
   ·rintro(h|h);exact⟨h.1,by omega,h.2.2⟩
    ·by_cases c:tP sp lg n=true
     ·rw[VN c,Yb]at h;subst h;exact⟨by omega,by omega,c⟩
     ·rw[VO c]at h;cases h
   ·rintro⟨h1,h2,h3⟩;by_cases q:x=n
    ·subst q;rw[VN h3];exact .inr (by simp)
    ·exact .inl ⟨h1,by omega,h3⟩
theorem CZ {sp lg:af}:∀ n:Nat,(MC sp lg n).Pairwise (· < ·)
 |0=>Vy
 | n+1=>by
   rw[MC,List.pairwise_append];refine⟨CZ n,?_,fun a ha b hb=>?_⟩
   ·by_cases c:tP sp lg n=true
    ·rw[VN c];simp
    ·rw[VO c];simp
   ·have m:=qv.1 ha;by_cases c:tP sp lg n=true
    ·rw[VN c,Yb]at hb;omega
    ·rw[VO c]at hb;cases hb
theorem K0 {l:List Int}(h:l.Nodup):(l.mergeSort fun x y=>decide (x<=y)).Pairwise (· < ·):=by
 have p:=List.pairwise_mergeSort (le:=fun x y:Int=>decide (x<=y)) (fun a b c h1 h2=>by simp only[VM]at*;omega) (fun a b=>by simp only[Yc,VM];omega) l;have n:(l.mergeSort fun x y=>decide (x<=y)).Nodup:=(WB l _).nodup_iff.2 h;refine Vz (R:=fun a b=>decide (a<=b)=true) (S:=(· ≠ ·)) (T:=(· < ·)) (fun a b h1 h2=>?_) p n;simp only[VM]at h1;omega
theorem KJ {sp lg:af}:iaL sp lg=laL sp lg:=by
 unfold iaL laL;by_cases hl:layOk sp lg=true
 ·rw[VN hl,VN hl];have F:=O4 hl;unfold srtL;rw[Cz,vN];refine congrArg hH (uB (K0 (Or F)) (CZ 512) (fun x=>?_));rw[(WB _ _).mem_iff,Em,qv]
  constructor
  ·intro h;have v:=Tp F hl h;refine⟨?_,?_,v⟩
   ·rcases h with⟨i,k,i1,k1,_,e⟩|⟨j,j1,e⟩
    ·have ae:=mZ (s:=(k:Int)) (F.s i i1) (by omega) (by omega);have t:=lL (F.s i i1);omega
    ·have t:=k7 (F.l j j1);omega
   ·rcases h with⟨i,k,i1,k1,_,e⟩|⟨j,j1,e⟩
    ·have ae:=mZ (s:=(k:Int)) (F.s i i1) (by omega) (by omega);have t:=lL (F.s i i1);omega
    ·have t:=k7 (F.l j j1);have b:=ku t.1;omega
  ·rintro⟨_,_,h⟩;exact MD F hl h
 ·rw[VO hl,VO hl]
end Go.V
namespace Go.V
def xy (qs:af)(a j:Int):Bool:=eqB (ag qs j 0) a
def qtI (qs:af)(a:Int):Int:=cR (xy qs a) qs.length
def qtB (qs:af)(a:Int):Bool:=decide (0<=qtI qs a)
theorem PL {qs:af}{a i:Int}(h:upto (bR (xy qs a)) i)(h0:0<=i)(h1:i<qs.length)(e:ag qs i 0=a):qtB qs a=true:=by
 unfold qtB qtI;rw[dE h h0 h1 (sK e)];exact VK h0
theorem aaA {qs:af}{a i:Int}(h:upto (bR (xy qs a)) i)(h1:(qs.length:Int)<=i):qtB qs a=false:=by
 unfold qtB qtI;rw[dF h h1];rfl
end Go.V
namespace Go.V
structure Ns (ls:af):Prop where
 w:Rw [.sl [tI]] ls
 l:ls.length<=1099511627776
 n:∀ i:Int,(ax ls i 0).length<=1099511627776
theorem Ns.el {ls:af}(h:Ns ls){i:Int}(h0:0<=i)(h1:i<ls.length):Rw [tI] (ax ls i 0)/\(ax ls i 0).length<=1099511627776:=
 ⟨Rw.sub (fs:=[.sl [tI]]) h.w (by omega) rfl,h.n i⟩
end Go.V
namespace Go.V
def FM (b:af)(i k:Int):Bool:=inR (ag (ax b i 0) k 0) 0 ((b.length:Int)-1)&&decide (0<=ag (ax b i 0) k 1)
def Gs (x:af)(i k:Int):Bool:=decide (0<=ag (ax x i 0) k 0)
def QN (b x:af)(i:Int):Bool:=cH (FM b i) (ax b i 0).length&&cH (Gs x i) (ax x i 0).length
def KP (b x:af):Nat->Int
 |0=>0
 |n+1=>KP b x n+((ax b n 0).length+(ax x n 0).length)
def mailOk (b x:af):Bool:=inR b.length 1 4&&(decide (x.length=b.length)&&(cH (QN b x) b.length&&decide (KP b x b.length<=30)))
structure Ju (b x:af):Prop where
 bw:Rw [.sl [tI,tI]] b
 xw:Rw [.sl [tI]] x
 bl:b.length<=1099511627776
 xl:x.length<=1099511627776
 bn:∀ i:Int,(ax b i 0).length<=1099511627776
 xn:∀ i:Int,(ax x i 0).length<=1099511627776
theorem MG {b x:af}(h:Ju b x):∀ n:Nat,0<=KP b x n/\KP b x n<=2199023255552*n
 |0=>⟨Yd _,Yd _⟩
 | n+1=>by
   have q:=MG h n;have p1:=h.bn n;have p2:=h.xn n;rw[KP];omega
structure JL (b x:af)(i t:Int):Prop where
 ok:upto (QN b x) i
 t:t=KP b x i.toNat
theorem adk {b x:af}:JL b x 0 0:=⟨bD,rfl⟩
theorem Tz {b x:af}{i t:Int}(N:Ju b x)(h:JL b x i t)(i0:0<=i)(i1:i<=4):0<=t/\t<=8796093022208:=by
 have q:=MG N i.toNat;have e:=h.t;omega
theorem TA {b x:af}{i t k j:Int}(h:JL b x i t)(i0:0<=i)(hp:upto (FM b i) k)(k1:((ax b i 0).length:Int)<=k)(ha:upto (Gs x i) j)(j1:((ax x i 0).length:Int)<=j):JL b x (i+1) (t+((ax b i 0).length+(ax x i 0).length)):=by
 refine⟨aU h.ok ?_,?_⟩
 ·unfold QN;rw[bJ hp k1,bJ ha j1];rfl
 ·rw[show(i+1).toNat=i.toNat+1 from by omega,KP, <-h.t,Zp i0]
theorem O9 {b x:af}(h:inR b.length 1 4=false):mailOk b x=false:=by unfold mailOk;rw[h];rfl
theorem Pb {b x:af}(h:(x.length:Int)≠b.length):mailOk b x=false:=by
 unfold mailOk;rw[VL (p:=x.length=b.length) (by omega)];simp
theorem MF {b x:af}{i:Int}(i0:0<=i)(i1:i<b.length)(h:QN b x i=false):mailOk b x=false:=by
 unfold mailOk;rw[bP i0 i1 h];simp
theorem Ia {b x:af}{i k:Int}(i0:0<=i)(i1:i<b.length)(k0:0<=k)(k1:k<(ax b i 0).length)(h:FM b i k=false):mailOk b x=false:=
 MF i0 i1 (by unfold QN;rw[bP k0 k1 h];rfl)
theorem Pd {b x:af}{i k:Int}(i0:0<=i)(i1:i<b.length)(k0:0<=k)(k1:k<(ax x i 0).length)(h:Gs x i k=false):mailOk b x=false:=
 MF i0 i1 (by unfold QN;rw[bP k0 k1 h,Z4])
theorem O8 {b x:af}{i t:Int}(h:JL b x i t)(h1:inR b.length 1 4=true)(h2:(x.length:Int)=b.length)(i1:i<=b.length)(i2:(b.length:Int)<=i):mailOk b x=decide (t<=30):=by
 have e:i.toNat=b.length:=by omega
 have q:=h.t;rw[e]at q;unfold mailOk;rw[h1,VK (p:=x.length=b.length) (by omega),bJ h.ok i2, <-q];rfl
theorem T7 {b:af}{i k:Int}(h:inR (ag (ax b i 0) k 0) 0 ((b.length:Int)-1)=false):FM b i k=false:=by unfold FM;rw[h];rfl
theorem T8 {b:af}{i k:Int}(h:ag (ax b i 0) k 1<0):FM b i k=false:=by unfold FM;rw[VL (by omega),Z4]
theorem T9 {b:af}{i k:Int}(h:inR (ag (ax b i 0) k 0) 0 ((b.length:Int)-1)=true)(g:0<=ag (ax b i 0) k 1):FM b i k=true:=by unfold FM;rw[h,VK g];rfl
theorem acb {x:af}{i k:Int}(h:ag (ax x i 0) k 0<0):Gs x i k=false:=by unfold Gs;rw[VL (by omega)]
theorem QY {x:af}{i k:Int}(h:0<=ag (ax x i 0) k 0):Gs x i k=true:=by unfold Gs;rw[VK h]
end Go.V
namespace Go.V
def Mf (b:af)(i:Int):Nat->af
 |0=>[]
 |n+1=>Mf b i n++[[.i (ag (ax b i 0) n 1)]]
def Ha (b:af):Nat->af
 |0=>[]
 |n+1=>Ha b n++Mf b n (ax b n 0).length
def Jx (x:af):Nat->af
 |0=>[]
 |n+1=>Jx x n++ax x n 0
def ifL (b x:af):af:=if mailOk b x then Ha b b.length++Jx x x.length else[]
theorem Pe {b x:af}(h:mailOk b x=true):b.length<=4/\x.length=b.length:=by
 unfold mailOk at h;simp only[Zc,VM,bz]at h;omega
structure LA (b:af)(i:Int)(o:af):Prop where
 e:o=Ha b i.toNat
 l:o.length<=1099511627776*i.toNat
structure LB (b:af)(i k:Int)(o:af):Prop where
 e:o=Ha b i.toNat++Mf b i k.toNat
 l:o.length<=1099511627776*i.toNat+k.toNat
structure LC (b x:af)(j:Int)(o:af):Prop where
 e:o=Ha b b.length++Jx x j.toNat
 l:o.length<=1099511627776*b.length+1099511627776*j.toNat
theorem acu {b:af}:LA b 0 []:=⟨rfl,ZF _⟩
theorem acv {b o:af}{i:Int}(h:LA b i o):LB b i 0 o:=⟨by rw[h.e];simp[Mf],by have:=h.l;omega⟩
theorem RE {b o:af}{i k:Int}(h:LB b i k o)(k0:0<=k):LB b i (k+1) (o++[[.i (ag (ax b i 0) k 1)]]):=by
 have l:=h.l;have e:=h.e;refine⟨?_,?_⟩
 ·rw[show(k+1).toNat=k.toNat+1 from by omega,Mf,Zp k0, <-Zi, <-e]
 ·rw[Ze,Zr,Zt];omega
theorem NX {b o:af}{i k:Int}(h:LB b i k o)(i0:0<=i)(hn:(ax b i 0).length<=1099511627776)(k1:k<=((ax b i 0).length:Int))(k2:((ax b i 0).length:Int)<=k):LA b (i+1) o:=by
 have l:=h.l;have e:=h.e;have ek:k.toNat=(ax b i 0).length:=by omega
 refine⟨?_,by omega⟩;rw[show(i+1).toNat=i.toNat+1 from by omega,Ha,Zp i0, <-ek];exact e
theorem acx {b x o:af}{i:Int}(h:LA b i o)(i1:i<=b.length)(i2:(b.length:Int)<=i):LC b x 0 o:=by
 have l:=h.l;have e:=h.e;have ei:i.toNat=b.length:=by omega
 rw[ei]at e l;exact⟨by rw[e];simp[Jx],by omega⟩
theorem RQ {b x o:af}{j:Int}(h:LC b x j o)(j0:0<=j)(hn:(ax x j 0).length<=1099511627776):LC b x (j+1) (o++ax x j 0):=by
 have l:=h.l;have e:=h.e;refine⟨?_,?_⟩
 ·rw[show(j+1).toNat=j.toNat+1 from by omega,Jx,Zp j0, <-Zi, <-e]
 ·rw[Ze];omega
theorem N8 {b x o:af}{j:Int}(h:LC b x j o)(hm:mailOk b x=true)(j1:j<=x.length)(j2:(x.length:Int)<=j):o=ifL b x:=by
 have e:=h.e;rw[show j.toNat=x.length from by omega]at e;unfold ifL;rw[VN hm];exact e
theorem acU {b x:af}(hm:mailOk b x=false):([]:af)=ifL b x:=by unfold ifL;rw[hm];rfl
end Go.V
namespace Go.V
structure NsC (cs:af):Prop where
 w:Rw [.sl [.sl [tI]]] cs
 l:cs.length<=1099511627776
 n:∀ i:Int,0<=i->i<cs.length->Ns (ax cs i 0)
end Go.V
namespace Go.V
theorem xL:∀ {fs:List Ty} {e:aO} {j:Nat},cy fs e->fs[j]?=some tI->∃ n,e[j]?=some (.i n)/\ -9223372036854775808<=n/\n<=9223372036854775807
 |[],_,j,_,h=>by simp at h
 |_::_,[],j,h,_=>h.elim
 | t::ts,l::ls,0,h,e=>by
   simp at e;subst e;have h1:=h.1;cases l with
   | v x=>cases x with
     |int k n=>simp only[dz]at h1;exact⟨n,by simp[h1.1],acV h1.2⟩
     |_=>simp[dz]at h1
   |_=>simp[dz]at h1
 | t::ts,l::ls,j+1,h,e=>by
   simp at e;obtain⟨n,h1,h2⟩:=xL h.2 e;exact⟨n,by simpa using h1,h2⟩
theorem qn {fs:List Ty}{es:af}{i:Int}{j:Nat}(h:Rw fs es)(hj:fs[j]?=some tI)(h1:i.toNat<es.length): -9223372036854775808<=ag es i j/\ag es i j<=9223372036854775807:=by
 obtain⟨n,e,b⟩:=xL (h.at h1) hj;unfold ag;rw[Zo (l:=es.getD i.toNat []),e];exact b
theorem aaF {x:Int}(h: -9223372036854775808<=x/\x<=9223372036854775807):Rw [tI] [[.i x]]:=Rw.one (fs:=[tI]) ⟨⟨rfl,h⟩,trivial⟩
def QJ (os:af)(f:Nat):Nat->af
 |0=>[]
 |n+1=>QJ os f n++[[.i (ag os n f)]]
def clR (ls:af):Nat->af
 |0=>[]
 |n+1=>clR ls n++ax ls n 0
def ccR (cs:af):Nat->af
 |0=>[]
 |n+1=>ccR cs n++clR (ax cs n 0) (ax cs n 0).length
theorem vH {es:af}{n j:Nat}(h:n<es.length):bj (ax es n j)<=mW (es.getD n []):=by
 unfold ax;rw[ZE];generalize es.getD n []=r;cases e:r[j]? with
 |none=>rw[Zo,e];exact ZF _
 | some l=>
   rw[Zo,e];have q:=DF e;cases l with
   |s sz es=>exact q
   |_=>exact ZF _
theorem lU {es:af}{n:Nat}(h:n<es.length):dy (es.take (n+1))=dy (es.take n)+mW (es.getD n []):=by
 rw[j7 (d:=[]) h,fK];simp[dy]
theorem AE {es:af}{n:Nat}:dy (es.take n)<=dy es:=by
 conv=>rhs;rw[<-ZI n es,fK]
 omega
theorem qk {b:af}{i:Int}:∀ n,(Mf b i n).length=n
 |0=>rfl
 |n+1=>by rw[Mf,Ze,qk n];rfl
theorem aez {b x:af}:∀ n:Nat,(((Ha b n).length+(Jx x n).length:Nat):Int)=KP b x n
 |0=>rfl
 | n+1=>by
   have q:=aez (b:=b) (x:=x) n;rw[KP,Ha,Jx,Ze,Ze,qk, <-q];omega
theorem Cr {b x:af}:(ifL b x).length<=30:=by
 unfold ifL;by_cases c:mailOk b x=true
 ·rw[VN c,Ze];have t:=Pe c;unfold mailOk at c;simp only[Zc,VM]at c;have q:=aez (b:=b) (x:=x) b.length;rw[t.2];omega
 ·rw[VO c];exact ZF _
theorem Hd {b x:af}{i:Int}(h:Ju b x)(i0:0<=i)(i1:i<b.length):∀ n,n<=(ax b i 0).length->Rw [tI] (Mf b i n)
 |0,_=>Rw.nil
 | n+1,hn=>Rw.append (Hd h i0 i1 n (by omega)) (aaF (qn (fs:=[tI,tI]) (Rw.sub (fs:=[.sl [tI,tI]]) h.bw (by omega) rfl) rfl (by omega))) (by
    have:=h.bn i;rw[qk];unfold maxLen;simp only[Zr,Zt];omega)
theorem Hb {b x:af}(h:Ju b x)(hb:b.length<=4):∀ n,n<=b.length->Rw [tI] (Ha b n)/\(Ha b n).length<=n*1099511627776
 |0,_=>⟨Rw.nil,ZF _⟩
 | n+1,hn=>by
   obtain⟨q1,q2⟩:=Hb h hb n (by omega);have l:=h.bn n;refine⟨Rw.append q1 (Hd h (by omega) (by omega) _ (Zf _)) (by rw[qk];unfold maxLen;omega),?_⟩;rw[Ha,Ze,qk];omega
theorem Hk {b x:af}(h:Ju b x)(hb:x.length<=4):∀ n,n<=x.length->Rw [tI] (Jx x n)/\(Jx x n).length<=n*1099511627776
 |0,_=>⟨Rw.nil,ZF _⟩
 | n+1,hn=>by
   obtain⟨q1,q2⟩:=Hk h hb n (by omega);have l:=h.xn n;refine⟨Rw.append q1 (Rw.sub (fs:=[.sl [tI]]) h.xw (by omega) rfl) (by unfold maxLen;omega),?_⟩;rw[Jx,Ze];omega
theorem HB {b x:af}(h:Ju b x):Rw [tI] (ifL b x):=by
 unfold ifL;by_cases c:mailOk b x=true
 ·rw[VN c];have t:=Pe c;obtain⟨q1,l1⟩:=Hb h t.1 b.length (Zf _);obtain⟨q2,l2⟩:=Hk h (by omega) x.length (Zf _);exact Rw.append q1 q2 (by unfold maxLen;omega)
 ·rw[VO c];exact Rw.nil
structure JM (sp lg os cs b x qs:af):Prop where
 sw:Rw [tI,tI,tI] sp
 lw:Rw [tI,tI,tI] lg
 ow:Rw [tI,tI,tI,tI] os
 cw:Rw [.sl [.sl [tI]]] cs
 qw:Rw [tI,tI,tI] qs
 m:Ju b x
 c:NsC cs
 sl:sp.length<=1073741824
 ll:lg.length<=1073741824
 ol:os.length<=1073741824
 ql:qs.length<=1073741824
 cl:bj cs<=1073741824
structure O1P (os:af)(i:Int)(o:af):Prop where
 e:o=QJ os 1 i.toNat
structure O2P (os cs:af)(i:Int)(o:af):Prop where
 e:o=QJ os 1 os.length++ccR cs i.toNat
structure O3P (os cs:af)(i k:Int)(o:af):Prop where
 e:o=QJ os 1 os.length++ccR cs i.toNat++clR (ax cs i 0) k.toNat
structure O4P (os cs qs:af)(j:Int)(o:af):Prop where
 e:o=QJ os 1 os.length++ccR cs cs.length++QJ qs 0 j.toNat
section
variable {sp lg os cs b x qs o: af} {i k j: Int}
end
def Kr (e:aO):Int:=KH (e.getD 0 .g)
theorem xX {l:af}{a:Int}:hasB l a=true↔a∈l.map Kr:=by
 rw[DU,ZR]
 constructor
 ·rintro⟨k,hk,e⟩;refine⟨l[k],Xl _,?_⟩;rw[<-e];unfold ag Kr;rw[ZE,Zo (l:=l),Zs hk];rfl
 ·rintro⟨e,he,q⟩;obtain⟨k,hk,rfl⟩:=X3.1 he;refine⟨k,hk,?_⟩;rw[<-q];unfold ag Kr;rw[ZE,Zo (l:=l),Zs hk];rfl
theorem Kp {l m:af}{a:Int}:hasB (l++m) a=(hasB l a||hasB m a):=by
 refine fU ?_;rw[Yc,xX,xX,xX,List.map_append,Zg]
theorem Kq {x a:Int}:hasB [[.i x]] a=true↔x=a:=by
 rw[xX];show a∈[x]↔x=a;rw[Yb];exact⟨Eq.symm,Eq.symm⟩
theorem xS {p:Int->Bool}{n:Nat}:0<=cR p n↔∃ k:Nat,k<n/\p k=true:=by
 constructor
 ·intro h;obtain⟨h1,h2⟩:=kF h;obtain⟨k,e⟩:=ZV h;rw[e]at h1 h2;exact⟨k,by omega,h2⟩
 ·rintro⟨k,h1,h2⟩;exact qj h1 h2
def flN (p:Int->Bool)(l:af):Nat->af
 |0=>[]
 |n+1=>flN p l n++(if p (ag l n 0)then[[.i (ag l n 0)]]else[])
structure aeq (p:Int->Bool)(l:af)(i:Int)(o:af):Prop where
 e:o=flN p l i.toNat
 l:o.length<=i.toNat
section
variable {p: Int -> Bool} {l o: af} {i: Int}
end
theorem HN {sp lg:af}:(laL sp lg).length<=512:=by
 have k:∀ n,(Jy sp lg n).length<=n:=by
  intro n
  induction n with
  |zero=>exact Zf _
  |succ n ih=>rw[Jy,Ze];split<;>simp<;>omega
 unfold laL;split;exact k 512;exact ZF _
theorem SZ {sp lg:af}:Rw [tI] (laL sp lg):=by
 unfold laL;by_cases c:layOk sp lg=true
 ·rw[VN c,vN];refine rV (fun x hx=>?_) ?_
  ·have:=qv.1 hx;omega
  ·have q:=HN (sp:=sp) (lg:=lg);unfold laL at q;rw[VN c,vN,cn]at q;omega
 ·rw[VO c];exact Rw.nil
theorem ya {l:af}{i:Int}(h:Rw [tI] l)(h0:0<=i)(h1:i<l.length):∃ rec o,bQ (L.s 1 l) [(i.toNat,0)]=some (rec,o)/\o+[L.v (Zq ZG 0)].length<=rec.length/\Yo [L.v (Zq ZG 0)].length (YD o rec)=j5 am (L.s 1 l) [(i.toNat,0)] 0 [L.v (Zq ZG 0)]:=
 eU (z0:=[.i 0]) (z:=[.i 0]) h.wf (by omega) rfl (by decide)
theorem pF {es:af}{i:Int}{j:Nat}:bj (ax es i j)<=bj es:=by
 by_cases c:i.toNat<es.length
 ·have q:=vH (j:=j) c;rw[show ax es (i.toNat:Nat) j=ax es i j from by unfold ax;rw[ZE]]at q;have d:=lU c;have e:=AE (es:=es) (n:=i.toNat+1);unfold bj at q ⊢;omega
 ·have e:ax es i j=[]:=by
   unfold ax;rw[Zo (l:=es),List.getElem?_eq_none (by omega)];simp[MB]
  rw[e];exact ZF _
theorem Ps {ls:af}(h:Rw [.sl [tI]] ls)(hc:bj ls<=1073741824):Ns ls:=by
 refine⟨h,by unfold bj at hc;omega,fun i=>?_⟩;have:=pF (es:=ls) (i:=i) (j:=0);unfold bj at this hc;omega
theorem Pq {cs:af}(h:Rw [.sl [.sl [tI]]] cs)(hc:bj cs<=1073741824):NsC cs:=by
 refine⟨h,by unfold bj at hc;omega,fun i i0 i1=>Ps (Rw.sub (fs:=[.sl [.sl [tI]]]) h (by omega) rfl) ?_⟩;exact ZN pF hc
theorem Pu {b x:af}(hb:Rw [.sl [tI,tI]] b)(hx:Rw [.sl [tI]] x)(cb:bj b<=1073741824)(cx:bj x<=1073741824):Ju b x:=by
 refine⟨hb,hx,by unfold bj at cb;omega,by unfold bj at cx;omega,fun i=>?_,fun i=>?_⟩
 ·have:=pF (es:=b) (i:=i) (j:=0);unfold bj at this cb;omega
 ·have:=pF (es:=x) (i:=i) (j:=0);unfold bj at this cx;omega
end Go.V
namespace Go.V
theorem xA {i:Int}(h:0<=i)(h1:i<=9223372036854775807):bK .sub Za i 1=i-1:=fG (by omega)
theorem ww {es:af}{i:Int}:oY es (YB 0) (Gb i 0)=es.take i.toNat:=by simp[oY,Gb]
theorem cmp_eq {a b:Int}:cU .eql a b=decide (a=b):=by unfold cU;by_cases c:a=b<;>simp[c]
theorem yF {a b:Int}:cU .neq a b=decide (a≠b):=by unfold cU;by_cases c:a=b<;>simp[c]
def rngIn (n a l:Int):Bool:=inR l 1 n&&inR a 0 (n-l)
def rS (n:Int)(rs:af)(i:Int):Bool:=rngIn n (ag rs i 0) (ag rs i 1)&& !(decide (0<i)&&decide (ag rs i 0<=bK .add Za (ag rs (i-1) 0) (ag rs (i-1) 1)))
def rgOk (n:Int)(rs:af):Bool:=cH (rS n rs) rs.length&&inR n 1 32
section
variable {n i: Int} {rs: af}
theorem PO (i0:0<=i)(i1:i<rs.length)(h:rngIn n (ag rs i 0) (ag rs i 1)=false):rgOk n rs=false:=by
 unfold rgOk;rw[bP i0 i1 (by unfold rS;rw[h];rfl)];rfl
theorem PP (i0:0<=i)(i1:i<rs.length)(h:0<i)(g:ag rs i 0<=bK .add Za (ag rs (i-1) 0) (ag rs (i-1) 1)):rgOk n rs=false:=by
 unfold rgOk;rw[bP i0 i1 (by unfold rS;rw[VK h,VK g];simp)];rfl
theorem K8 (h:rngIn n (ag rs i 0) (ag rs i 1)=true)(g:i<=0):rS n rs i=true:=by
 unfold rS;rw[h,VL (by omega)];rfl
theorem K9 (h:rngIn n (ag rs i 0) (ag rs i 1)=true)(g:bK .add Za (ag rs (i-1) 0) (ag rs (i-1) 1)<ag rs i 0):rS n rs i=true:=by
 unfold rS;rw[h,VL (p:=ag rs i 0<=_) (by omega)];simp
theorem PN (h:upto (rS n rs) i)(g:(rs.length:Int)<=i):inR n 1 32=rgOk n rs:=by unfold rgOk;rw[bJ h g];rfl
end
def qo (rs:af)(p j:Int):Bool:=decide (ag rs j 0<=p)&&decide (p<bK .add Za (ag rs j 0) (ag rs j 1))
def rhI (rs:af)(p:Int):Int:=cR (qo rs p) rs.length
def rhB (rs:af)(p:Int):Bool:=decide (0<=rhI rs p)
def rh1 (a l p:Int):Bool:=decide (a<=p)&&decide (p<bK .add Za a l)
theorem PQ {rs:af}{p i:Int}(h:upto (bR (qo rs p)) i)(h0:0<=i)(h1:i<rs.length)(a:ag rs i 0<=p)(b:p<bK .add Za (ag rs i 0) (ag rs i 1)):rhB rs p=true:=by
 unfold rhB rhI;rw[dE h h0 h1 (by unfold qo;rw[VK a,VK b];rfl)];exact VK h0
theorem aaE {rs:af}{p i:Int}(h:upto (bR (qo rs p)) i)(h1:(rs.length:Int)<=i):rhB rs p=false:=by
 unfold rhB rhI;rw[dF h h1];rfl
theorem aaC {rs:af}{p i:Int}(a:p<ag rs i 0):bR (qo rs p) i=true:=by unfold bR qo;rw[VL (by omega)];rfl
theorem aaD {rs:af}{p i:Int}(b:bK .add Za (ag rs i 0) (ag rs i 1)<=p):bR (qo rs p) i=true:=by unfold bR qo;rw[VL (p:=p<_) (by omega)];simp
def mshB (p1 k1 b1 p2 k2 b2:Int):Bool:=spOk p1 k1 b1&&(spOk p2 k2 b2&&(decide (k1=k2)&&(decide (p1≠p2)&&decide (bK .and Za b1 b2=0))))
def PG (qs:af):Nat->Int
 |0=>0
 |n+1=>PG qs n+clsSz (ag qs n 1)
def qcI (qs:af):Int:=PG qs qs.length
theorem DC {k:Int}:0<=clsSz k/\clsSz k<=8:=by
 unfold clsSz;repeat' split
 all_goals omega
theorem MX {qs:af}:∀ n:Nat,0<=PG qs n/\PG qs n<=8*n
 |0=>⟨Yd _,Yd _⟩
 |n+1=>by have q:=MX (qs:=qs) n;have c:=DC (k:=ag qs n 1);rw[PG];omega
structure JN (qs:af)(i t:Int):Prop where
 e:t=PG qs i.toNat
theorem adz {qs:af}:JN qs 0 0:=⟨rfl⟩
theorem adA {qs:af}{i t:Int}(h:JN qs i t)(i0:0<=i):0<=t/\t<=8*i:=by have q:=MX (qs:=qs) i.toNat;rw[<-h.e]at q;omega
theorem aas {qs:af}{i t:Int}(h:JN qs i t)(i0:0<=i)(i1:i<=1099511627776):JN qs (i+1) (bK .add Za t (clsSz (ag qs i 1))):=by
 have b:=adA h i0;have c:=DC (k:=ag qs i 1);refine⟨?_⟩;rw[show bK .add Za t (clsSz (ag qs i 1))=t+clsSz (ag qs i 1)from bT (by omega),show(i+1).toNat=i.toNat+1 from by omega,PG, <-h.e,Zp i0]
theorem PH {qs:af}{i t:Int}(h:JN qs i t)(i1:i<=qs.length)(i2:(qs.length:Int)<=i):t=qcI qs:=by unfold qcI;rw[h.e,show i.toNat=qs.length from by omega]
def stlOk (b:af)(a c s:Int):Bool:=inR c 0 3&&(decide (0<=a)&&(decide (0<=s)&&(!qtB b a&&(decide (b.length=0)||decide (ag b (b.length-1:Int) 2<=s)))))
def Bc (qs:af)(i:Int):Bool:=stlOk (qs.take i.toNat) (ag qs i 0) (ag qs i 1) (ag qs i 2)
def quarOk (rm:Int)(qs:af):Bool:=cH (Bc qs) qs.length&&(inR rm 0 500&&decide (qcI qs<=rm))
def staB (a c s:Int):Bool:=inR c 0 3&&(decide (0<=a)&&decide (0<=s))
theorem ue {es:af}{n:Nat}{i:Int}{j:Nat}(h:i.toNat<n):ag (es.take n) i j=ag es i j:=by
 unfold ag;rw[Zo (l:=es.take n),List.getElem?_take,VN h,Zo (l:=es)]
section
variable {rm i: Int} {qs: af}
theorem EH (i0:0<=i)(i1:i<qs.length)(h:Bc qs i=false):quarOk rm qs=false:=by unfold quarOk;rw[bP i0 i1 h];rfl
theorem IG (h:upto (Bc qs) i)(g:(qs.length:Int)<=i):quarOk rm qs=(inR rm 0 500&&decide (qcI qs<=rm)):=by unfold quarOk;rw[bJ h g];rfl
theorem aan (h:staB (ag qs i 0) (ag qs i 1) (ag qs i 2)=false):Bc qs i=false:=by
 unfold Bc stlOk;unfold staB at h
 revert h
 cases inR (ag qs i 1) 0 3<;>cases decide (0<=ag qs i 0)<;>cases decide (0<=ag qs i 2)<;>simp
theorem EG (i0:0<i)(i1:i<qs.length):(decide ((qs.take i.toNat).length=0)||decide (ag (qs.take i.toNat) ((qs.take i.toNat).length-1:Int) 2<=ag qs i 2))=decide (ag qs (i-1) 2<=ag qs i 2):=by
 have e:(qs.take i.toNat).length=i.toNat:=by rw[Zh];omega
 rw[e,ue (by omega),VL (p:=i.toNat=0) (by omega),show((i.toNat:Nat):Int)-1=i-1 from by omega];rfl
theorem aao (i0:0<i)(i1:i<qs.length)(h:ag qs i 2<ag qs (i-1) 2):Bc qs i=false:=by
 unfold Bc stlOk;rw[EG i0 i1,VL (p:=ag qs (i-1) 2<=ag qs i 2) (by omega)];simp
theorem aap (h:qtB (qs.take i.toNat) (ag qs i 0)=true):Bc qs i=false:=by unfold Bc stlOk;rw[h];simp
theorem aaq (h:staB (ag qs i 0) (ag qs i 1) (ag qs i 2)=true)(g:qtB (qs.take i.toNat) (ag qs i 0)=false)(i0:0<=i)(z:i<=0):Bc qs i=true:=by
 unfold Bc stlOk;unfold staB at h;simp only[Zc]at h;have e:i=0:=by omega
 subst e;rw[h.1,h.2.1,h.2.2,g];rfl
theorem aar (h:staB (ag qs i 0) (ag qs i 1) (ag qs i 2)=true)(g:qtB (qs.take i.toNat) (ag qs i 0)=false)(i0:0<i)(i1:i<qs.length)(z:ag qs (i-1) 2<=ag qs i 2):Bc qs i=true:=by
 unfold Bc stlOk;unfold staB at h;simp only[Zc]at h;rw[EG i0 i1,h.1,h.2.1,h.2.2,g,VK z];rfl
end
def t6 (ls:af)(i:Int):Nat->List Int
 |0=>[]
 |n+1=>t6 ls i n++[ag (ax ls i 0) n 0]
def t8 (ls:af):Nat->List Int
 |0=>[]
 |n+1=>t8 ls n++t6 ls n (ax ls n 0).length
def J7 (ls:af)(i k:Int):Bool:=inR (ag (ax ls i 0) k 0) 0 511&&decide (bK .rem Za (ag (ax ls i 0) k 0) (clsSz i)=0)
def J6 (ls:af)(i:Int):Bool:=decide ((ax ls i 0).length<=8)&&cH (J7 ls i) (ax ls i 0).length
def caOk (ls:af):Bool:=decide (ls.length=4)&&(cH (J6 ls) 4&&decide ((t8 ls 4).Nodup))
theorem t7 {ls:af}{i:Int}:∀ n,(t6 ls i n).length=n
 |0=>rfl
 |n+1=>by rw[t6,Ze,t7 n];rfl
theorem Dx {ls:af}{i:Int}:∀ (m n:Nat),n<=m->∃ r,t6 ls i m=t6 ls i n++r
 |0,n,h=>⟨[],by rw[show n=0 from by omega];rfl⟩
 | m+1,n,h=>by
   by_cases c:n=m+1
   ·subst c;exact⟨[],by simp⟩
   ·obtain⟨r,e⟩:=Dx (ls:=ls) (i:=i) m n (by omega);exact⟨r++[ag (ax ls i 0) m 0],by rw[t6,e,Zi]⟩
theorem Dy {ls:af}:∀ (m n:Nat),n<=m->∃ r,t8 ls m=t8 ls n++r
 |0,n,h=>⟨[],by rw[show n=0 from by omega];rfl⟩
 | m+1,n,h=>by
   by_cases c:n=m+1
   ·subst c;exact⟨[],by simp⟩
   ·obtain⟨r,e⟩:=Dy (ls:=ls) m n (by omega);exact⟨r++t6 ls m (ax ls m 0).length,by rw[t8,e,Zi]⟩
theorem vq {ls:af}{i k:Int}(h:0<=k):t6 ls i (k+1).toNat=t6 ls i k.toNat++[ag (ax ls i 0) k 0]:=by
 rw[show(k+1).toNat=k.toNat+1 from by omega,t6,Zp h]
theorem vt {ls:af}{i:Int}(h:0<=i):t8 ls (i+1).toNat=t8 ls i.toNat++t6 ls i (ax ls i 0).length:=by
 rw[show(i+1).toNat=i.toNat+1 from by omega,t8,Zp h]
structure Nl (ls:af)(i:Int):Prop where
 ok:upto (J6 ls) i
 nd:(t8 ls i.toNat).Nodup
 l:i<=4
 b:∀ x∈t8 ls i.toNat,0<=x/\x<=511
 n:(t8 ls i.toNat).length<=8*i.toNat
structure Qq (ls:af)(i k:Int):Prop where
 ok:upto (J6 ls) i
 nd:(t8 ls i.toNat++t6 ls i k.toNat).Nodup
 l:i<=3
 s:(ax ls i 0).length<=8
 bk:upto (J7 ls i) k
 b:∀ x∈t8 ls i.toNat++t6 ls i k.toNat,0<=x/\x<=511
 n:(t8 ls i.toNat).length<=8*i.toNat
section
variable {ls: af} {i k: Int}
theorem Q7:Nl ls 0:=⟨bD,ZK,by omega,(fun x hx=>by cases hx),ZF _⟩
theorem Q9 (h:Nl ls i)(i0:0<=i)(c:inR i 0 3=true)(s:(ax ls i 0).length<=8):Qq ls i 0:=
 ⟨h.ok,by simpa[t6]using h.nd,(bz.1 c).2,s,bD,by simpa[t6]using h.b,h.n⟩
theorem LS (h:Qq ls i k)(k0:0<=k)(h1:inR (ag (ax ls i 0) k 0) 0 511=true)(h2:bK .rem Za (ag (ax ls i 0) k 0) (clsSz i)=0)(h3:ag (ax ls i 0) k 0∉t8 ls i.toNat++t6 ls i k.toNat):Qq ls i (k+1):=by
 refine⟨h.ok,?_,h.l,h.s,aU h.bk (by unfold J7;rw[h1,VK h2];rfl),?_,h.n⟩
 ·rw[vq k0, <-Zi];exact kG h.nd h3
 ·rw[vq k0, <-Zi];intro x hx;rcases Zg.1 hx with q|q;exact h.b x q
  ·simp at q;subst q;exact bz.1 h1
theorem LP (h:Qq ls i k)(i0:0<=i)(k1:k<=((ax ls i 0).length:Int))(k2:((ax ls i 0).length:Int)<=k):Nl ls (i+1):=by
 have e:k.toNat=(ax ls i 0).length:=by omega
 have nd:=h.nd;have b:=h.b;have n:=h.n;have s:=h.s;have l:=h.l;rw[e, <-vt i0]at nd b;refine⟨aU h.ok (by unfold J6;rw[VK h.s,bJ h.bk k2];rfl),nd,by omega,b,?_⟩;rw[vt i0,Ze,t7];omega
theorem yC (h:(ls.length:Int)≠4):caOk ls=false:=by unfold caOk;rw[VL (by omega)];rfl
theorem LO (i0:0<=i)(l:i<=3)(h:J6 ls i=false):caOk ls=false:=by unfold caOk;rw[bP (n:=4) i0 (by omega) h];simp
theorem GL (i0:0<=i)(h:8<(ax ls i 0).length)(l:i<=3):caOk ls=false:=LO i0 l (by unfold J6;rw[VL (by omega)];rfl)
theorem yD (i0:0<=i)(l:i<=3)(k0:0<=k)(k1:k<(ax ls i 0).length)(h:J7 ls i k=false):caOk ls=false:=LO i0 l (by unfold J6;rw[bP k0 k1 h,Z4])
theorem LQ (h:inR (ag (ax ls i 0) k 0) 0 511=false):J7 ls i k=false:=by unfold J7;rw[h];rfl
theorem LR (h:bK .rem Za (ag (ax ls i 0) k 0) (clsSz i)≠0):J7 ls i k=false:=by unfold J7;rw[VL h,Z4]
theorem GK (i0:0<=i)(l:i<=3)(k0:0<=k)(k1:k<(ax ls i 0).length)(h:ag (ax ls i 0) k 0∈t8 ls i.toNat++t6 ls i k.toNat):caOk ls=false:=by
 obtain⟨r,e⟩:=Dy (ls:=ls) 4 (i+1).toNat (by omega);obtain⟨r2,e2⟩:=Dx (ls:=ls) (i:=i) (ax ls i 0).length (k+1).toNat (by omega);rw[vt i0,e2,vq k0]at e;have:¬ (t8 ls 4).Nodup:=dup (a:=t8 ls i.toNat++t6 ls i k.toNat) (b:=r2++r) (x:=ag (ax ls i 0) k 0) (by rw[e];simp only[Zi];rfl) h;unfold caOk;rw[VL this];simp
theorem GM (h:Nl ls i)(h1:(ls.length:Int)=4)(i2:4<=i):caOk ls=true:=by
 have l:=h.l;have e:i=4:=by omega
 subst e;unfold caOk;rw[VK (by omega),bJ h.ok (by omega),VK (p:=(t8 ls 4).Nodup) h.nd];rfl
theorem NG (h:Nl ls i)(i1:i<=ls.length)(i2:(ls.length:Int)<=i):decide ((ls.length:Int)=4)=caOk ls:=by
 by_cases c:(ls.length:Int)=4
 ·rw[GM h c (by omega)];exact VK c
 ·rw[yC c];exact VL c
end
structure QX (ls:af)(i:Int)(o:af):Prop where
 p:Nl ls i
 e:o=hH (t8 ls i.toNat)
structure LI (ls:af)(i k:Int)(o:af):Prop where
 p:Qq ls i k
 e:o=hH (t8 ls i.toNat++t6 ls i k.toNat)
structure aey (ls:af)(i:Int)(es:af):Prop where
 p:Nl ls i
 s:o6 es (t8 ls i.toNat)
structure BZ (ls:af)(i k:Int)(es:af):Prop where
 p:Qq ls i k
 s:o6 es (t8 ls i.toNat++t6 ls i k.toNat)
section
variable {ls o es: af} {i k: Int}
theorem ad2:QX ls 0 []:=⟨Q7,rfl⟩
theorem ad3 (h:QX ls i o)(i0:0<=i)(i1:i<4)(s:(ax ls i 0).length<=8):LI ls i 0 o:=⟨Q9 h.p i0 (bz.2 (by omega)) s,by rw[h.e];simp[t6]⟩
theorem aaT (h:LI ls i k o)(k0:0<=k)(h1:inR (ag (ax ls i 0) k 0) 0 511=true)(h2:bK .rem Za (ag (ax ls i 0) k 0) (clsSz i)=0)(h3:hasB o (ag (ax ls i 0) k 0)=false):LI ls i (k+1) (o++[[.i (ag (ax ls i 0) k 0)]]):=by
 have e:=h.e;rw[e]at h3;refine⟨LS h.p k0 h1 h2 (uf h3),?_⟩;rw[vq k0, <-Zi,gw, <-e];rfl
theorem aaS (h:LI ls i k o)(i0:0<=i)(k1:k<=((ax ls i 0).length:Int))(k2:((ax ls i 0).length:Int)<=k):QX ls (i+1) o:=
 ⟨LP h.p i0 k1 k2,by rw[vt i0,h.e,show k.toNat=(ax ls i 0).length from by omega]⟩
theorem PX (h:LI ls i k o)(i0:0<=i)(k0:0<=k)(k1:k<(ax ls i 0).length)(h3:hasB o (ag (ax ls i 0) k 0)=true):caOk ls=false:=by
 rw[h.e,oD]at h3;exact GK i0 h.p.l k0 k1 h3
theorem PY (h:LI ls i k o)(k0:0<=k):o.length<=40+k.toNat/\Rw [tI] o:=by
 have n:=h.p.n;have l:=h.p.l;have s:=h.p.s;have q:o.length<=40+k.toNat:=by rw[h.e,cn,Ze,t7];omega
 refine⟨q,?_⟩;rw[h.e];have nd:=h.p.nd;refine rV (fun x hx=>by have:=h.p.b x hx;omega) ?_;rw[<-cn, <-h.e];have bd:k.toNat<=512\/512<k.toNat:=by omega
 rcases bd with bd|bd;omega
 ·exfalso;have c:=WC (l₁:=t8 ls i.toNat++t6 ls i k.toNat) (l₂:=(List.range 512).map fun j:Nat=>(j:Int)) nd (fun x hx=>by
   have b:=h.p.b x hx;rw[ZR];exact⟨x.toNat,Ya.2 (by omega),by omega⟩)
  rw[Ze,t7,YW,List.length_range]at c;omega
theorem SG:aey ls 0 []:=⟨Q7,C6⟩
theorem SH (h:aey ls i es)(i0:0<=i)(c:inR i 0 3=true)(s:(ax ls i 0).length<=8):BZ ls i 0 es:=⟨Q9 h.p i0 c s,by simpa[t6]using h.s⟩
theorem Oy (h:BZ ls i k es)(k0:0<=k)(h1:inR (ag (ax ls i 0) k 0) 0 511=true)(h2:bK .rem Za (ag (ax ls i 0) k 0) (clsSz i)=0)(h3:mgbI es (ag (ax ls i 0) k 0)=false):BZ ls i (k+1) (lP es (ag (ax ls i 0) k 0) (.v (.bool true))):=by
 refine⟨LS h.p k0 h1 h2 (fun m=>by rw[(h.s.at_ _).2 m]at h3;cases h3),?_⟩;rw[vq k0, <-Zi];exact uu h.s
theorem Ox (h:BZ ls i k es)(i0:0<=i)(k1:k<=((ax ls i 0).length:Int))(k2:((ax ls i 0).length:Int)<=k):aey ls (i+1) es:=
 ⟨LP h.p i0 k1 k2,by have s:=h.s;rw[show k.toNat=(ax ls i 0).length from by omega]at s;rw[vt i0];exact s⟩
theorem Kv (h:BZ ls i k es)(i0:0<=i)(k0:0<=k)(k1:k<(ax ls i 0).length)(h3:mgbI es (ag (ax ls i 0) k 0)=true):caOk ls=false:=GK i0 h.p.l k0 k1 ((h.s.at_ _).1 h3)
theorem Kt (h:aey ls i es)(i0:0<=i)(s:8<(ax ls i 0).length)(i1:i<ls.length):caOk ls=false:=by
 by_cases c:(ls.length:Int)=4;exact GL i0 s (by omega);exact yC c
theorem Ku (h:aey ls i es)(i0:0<=i)(c:inR i 0 3=false)(i1:i<ls.length):caOk ls=false:=by
 have:=vK.1 c;exact yC (by omega)
end
def Gf (cs:af)(i:Int):Bool:=inR (ag cs i 0) 0 15&& !(decide (0<i)&&decide (ag cs i 0<=ag cs (i-1) 0))
def plOk (k m:Int)(cs:af):Bool:=cH (Gf cs) cs.length&&(inR k 0 31&&(inR m 0 31&&decide (k≠m)))
def jbOk (k m:Int)(cs:af)(ph nx:Int):Bool:=plOk k m cs&&(inR ph 0 5&&inR nx 0 cs.length)
section
variable {k m i: Int} {cs: af}
theorem ID (i0:0<=i)(i1:i<cs.length)(h:inR (ag cs i 0) 0 15=false):plOk k m cs=false:=by
 unfold plOk;rw[bP i0 i1 (by unfold Gf;rw[h];rfl)];rfl
theorem IE (i0:0<=i)(i1:i<cs.length)(h:0<i)(g:ag cs i 0<=ag cs (i-1) 0):plOk k m cs=false:=by
 unfold plOk;rw[bP i0 i1 (by unfold Gf;rw[VK h,VK g];simp)];rfl
theorem EB (h:inR (ag cs i 0) 0 15=true)(g:i<=0):Gf cs i=true:=by unfold Gf;rw[h,VL (by omega)];rfl
theorem ED (h:inR (ag cs i 0) 0 15=true)(g:ag cs (i-1) 0<ag cs i 0):Gf cs i=true:=by
 unfold Gf;rw[h,VL (p:=ag cs i 0<=_) (by omega)];simp
theorem zo (h:upto (Gf cs) i)(g:(cs.length:Int)<=i):plOk k m cs=(inR k 0 31&&(inR m 0 31&&decide (k≠m))):=by unfold plOk;rw[bJ h g];rfl
end
end Go.V
namespace Go.V
theorem L6 {sp lg:af}{a:Int}(h:layOk sp lg=true):dzK sp lg a=dnK sp lg a:=by unfold dzK;rw[VN h]
theorem L8 {sp lg:af}{a:Int}(h:layOk sp lg=true):dzI sp lg a=dnI sp lg a:=by unfold dzI;rw[VN h]
theorem L9 {sp lg:af}{a:Int}(h:layOk sp lg=true):dzO sp lg a=dnO sp lg a:=by unfold dzO;rw[VN h]
theorem DI {sp lg:af}{a:Int}(h:dnK sp lg a=1):0<=dnI sp lg a/\dnI sp lg a<sp.length:=by
 unfold dnK at h;by_cases c:0<=lO sp a
 ·unfold dnI;rw[VN c];rcases nD (p:=zA sp a) (n:=sp.length)with q|q
  ·have:lO sp a= -1:=q;omega
  ·exact q
 ·rw[VO c]at h;by_cases d:0<=xx lg a
  ·rw[VN d]at h;omega
  ·rw[VO d]at h;omega
theorem L4 {sp lg:af}{a:Int}(h:dnK sp lg a=3):0<=dnI sp lg a/\dnI sp lg a<lg.length:=by
 unfold dnK at h;by_cases c:0<=lO sp a
 ·rw[VN c]at h;split at h<;>omega
 ·rw[VO c]at h;by_cases d:0<=xx lg a
  ·unfold dnI;rw[VO c,VN d];rcases nD (p:=A0 lg a) (n:=lg.length)with q|q
   ·have:xx lg a= -1:=q;omega
   ·exact q
  ·rw[VO d]at h;omega
def CC (os:af)(x j:Int):Bool:=eqB (ag os j 0) x
def oiI (os:af)(x:Int):Int:=cR (CC os x) os.length
def oiB (os:af)(x:Int):Bool:=decide (0<=oiI os x)
def okO (sp lg:af)(a s:Int):Bool:=decide (dnO sp lg a=0)&&((decide (dnK sp lg a=1)&&decide (ag sp (dnI sp lg a) 1=clsOf s))||(decide (dnK sp lg a=3)&&decide (ag lg (dnI sp lg a) 2=s)))
def x7 (sp lg os cs:af)(nx i:Int):Bool:=
 !(decide (0<i)&&decide (ag os i 1<=ag os (i-1) 1))&&(inR (ag os i 0) 1 (bK .sub Za nx 1)&&(inR (ag os i 3) 0 (cs.length-1:Int)&&(!oiB (os.take i.toNat) (ag os i 0)&&okO sp lg (ag os i 1) (ag os i 2))))
def objOk (sp lg os cs:af)(nx:Int):Bool:=cH (x7 sp lg os cs nx) os.length
section
variable {sp lg os cs: af} {nx i k: Int}
theorem mQ (i0:0<=i)(i1:i<os.length)(h:x7 sp lg os cs nx i=false):objOk sp lg os cs nx=false:=bP i0 i1 h
theorem Ir (h:upto (x7 sp lg os cs nx) i)(g:(os.length:Int)<=i):objOk sp lg os cs nx=true:=bJ h g
theorem MH (h:0<i)(g:ag os i 1<=ag os (i-1) 1):x7 sp lg os cs nx i=false:=by unfold x7;rw[VK h,VK g];rfl
theorem MI (h:inR (ag os i 0) 1 (bK .sub Za nx 1)=false):x7 sp lg os cs nx i=false:=by unfold x7;rw[h];simp
theorem MJ (h:inR (ag os i 3) 0 (cs.length-1:Int)=false):x7 sp lg os cs nx i=false:=by unfold x7;rw[h];simp
theorem ML (h:oiB (os.take i.toNat) (ag os i 0)=true):x7 sp lg os cs nx i=false:=by unfold x7;rw[h];simp
theorem Et (h:okO sp lg (ag os i 1) (ag os i 2)=false):x7 sp lg os cs nx i=false:=by unfold x7;rw[h];simp
theorem KV (h1:i<=0\/ag os (i-1) 1<ag os i 1)(h2:inR (ag os i 0) 1 (bK .sub Za nx 1)=true)(h3:inR (ag os i 3) 0 (cs.length-1:Int)=true)(h4:oiB (os.take i.toNat) (ag os i 0)=false)(h5:okO sp lg (ag os i 1) (ag os i 2)=true):x7 sp lg os cs nx i=true:=by
 unfold x7;rw[h2,h3,h4,h5];rcases h1 with h|h
 ·rw[VL (p:=0<i) (by omega)];rfl
 ·rw[VL (p:=ag os i 1<=ag os (i-1) 1) (by omega)];simp
theorem MM {a s:Int}(h:dnO sp lg a≠0):okO sp lg a s=false:=by unfold okO;rw[VL h];rfl
theorem TW {a s:Int}(h1:dnK sp lg a≠1\/ag sp (dnI sp lg a) 1≠clsOf s)(h2:dnK sp lg a≠3\/ag lg (dnI sp lg a) 2≠s):okO sp lg a s=false:=by
 unfold okO;rcases h1 with h|h<;>rcases h2 with g|g<;>simp[h,g]
theorem MN {a s:Int}(h0:dnO sp lg a=0)(h1:dnK sp lg a=1)(h2:ag sp (dnI sp lg a) 1=clsOf s):okO sp lg a s=true:=by unfold okO;rw[VK h0,VK h1,VK h2];rfl
theorem MO {a s:Int}(h0:dnO sp lg a=0)(h1:dnK sp lg a=3)(h2:ag lg (dnI sp lg a) 2=s):okO sp lg a s=true:=by unfold okO;rw[VK h0,VK h1,VK h2];simp
theorem Pw (k0:0<=k)(k1:k<i)(i1:i<os.length)(h:ag os k 0=ag os i 0):oiB (os.take i.toNat) (ag os i 0)=true:=by
 unfold oiB oiI;rw[VM,xS];refine⟨k.toNat,by rw[Zh];omega,?_⟩;unfold CC;rw[Zp k0,ue (by omega)];exact sK h
theorem TV {x:Int}(h:upto (fun j=> !eqB (ag os j 0) x) k)(k1:i<=k)(i0:0<=i):oiB (os.take i.toNat) x=false:=by
 unfold oiB oiI;refine VL (fun c=>?_);obtain⟨m,m1,m2⟩:=xS.1 c;rw[Zh]at m1;have q:=h m (by omega) (by omega);unfold CC at m2;rw[ue (by omega)]at m2;simp only at q;rw[m2]at q;cases q
end
end Go.V
namespace Go.V
def WfI (es:af):Prop:=∀ e∈es,∃ k b:Int,e=[.i k,.i b]
theorem sT {k b:Int}{es:af}{n:Int}:ed ([.i k,.i b]::es) n=if k=n then some (0,.int Za b)else(ed es n).map fun p=>(p.1+1,p.2):=rfl
theorem nL {k b:Int}{es:af}{n:Int}:iM ([.i k,.i b]::es) n=if k=n then b else iM es n:=by
 unfold iM;rw[sT];by_cases c:k=n
 ·rw[VN c,VN c]
 ·rw[VO c,VO c];cases ed es n with
  |none=>rfl
  |some p=>obtain⟨j,v⟩:=p;cases v<;>rfl
theorem Ig {k b x:Int}{es:af}{n:Int}:lP ([.i k,.i b]::es) n (.i x)=if k=n then[.i n,.i x]::es else[.i k,.i b]::lP es n (.i x):=by
 unfold lP;rw[sT];by_cases c:k=n
 ·rw[VN c,VN c];rfl
 ·rw[VO c,VO c];cases ed es n with
  |none=>rfl
  |some p=>rfl
theorem TG {x n:Int}:∀ {es:af},WfI es->WfI (lP es n (.i x))/\∀ m,iM (lP es n (.i x)) m=if m=n then x else iM es m
 | [],_=>by
   refine⟨fun e he=>?_,fun m=>?_⟩
   ·have:e=[.i n,.i x]:=by simpa[lP,ed]using he
    exact⟨n,x,this⟩
   ·show iM [[.i n,.i x]] m=_;rw[nL];by_cases c:m=n
    ·rw[VN c.symm,VN c]
    ·rw[VO (fun e=>c e.symm),VO c]
 | e::es,h=>by
   obtain⟨k,b,rfl⟩:=h e (by simp);have h':WfI es:=fun e he=>h e (by simp[he])
   obtain⟨a1,a2⟩:=TG (x:=x) (n:=n) h';rw[Ig];by_cases c:k=n
   ·rw[VN c];refine⟨fun e he=>?_,fun m=>?_⟩
    ·rcases Zk.1 he with rfl|he;exact⟨n,x,rfl⟩;exact h' e he
    ·rw[nL,nL];by_cases d:m=n
     ·rw[VN d.symm,VN d]
     ·rw[VO (fun e=>d e.symm),VO d,VO (fun e=>d (by rw[<-e,c]))]
   ·rw[VO c];refine⟨fun e he=>?_,fun m=>?_⟩
    ·rcases Zk.1 he with rfl|he;exact⟨k,b,rfl⟩;exact a1 e he
    ·rw[nL,nL,a2 m];by_cases d:k=m
     ·rw[VN d,VN d,VO (fun e=>c (d.trans e))]
     ·rw[VO d,VO d]
def huI (es:af)(a:Int):af:=lP es a (.i (bK .add Za (iM es a) 1))
structure yp (es:af)(l:List Int):Prop where
 wf:WfI es
 c:∀ m,iM es m=(l.count m:Int)
theorem acl:yp [] []:=⟨(fun e he=>by cases he),fun m=>rfl⟩
theorem DD {es:af}{l:List Int}{a:Int}(h:yp es l)(hl:l.length<=1099511627776):yp (huI es a) (l++[a]):=by
 have q:=TG (x:=bK .add Za (iM es a) 1) (n:=a) h.wf;refine⟨q.1,fun m=>?_⟩;show iM (lP es a _) m=_;have b:l.count a<=l.length:=List.count_le_length;have e:=h.c a;rw[q.2 m,List.count_append,show bK .add Za (iM es a) 1=iM es a+1 from bT (by omega)];by_cases c:m=a
 ·subst c;rw[VN rfl,e];simp
 ·rw[VO c,h.c m];have:[a].count m=0:=WE.2 (by simpa using c);rw[this];rfl
def j9 (l:af)(f:Nat):Nat->List Int
 |0=>[]
 |n+1=>j9 l f n++[ag l n f]
def xq (ls:af):Nat->List Int
 |0=>[]
 |n+1=>xq ls n++j9 (ax ls n 0) 0 (ax ls n 0).length
def qT (cs:af):Nat->List Int
 |0=>[]
 |n+1=>qT cs n++xq (ax cs n 0) (ax cs n 0).length
theorem dH {l:af}{f:Nat}:∀ n,(j9 l f n).length=n
 |0=>rfl
 |n+1=>by rw[j9,Ze,dH n];rfl
theorem nI {l:af}{f:Nat}{i:Int}(h:0<=i):j9 l f (i+1).toNat=j9 l f i.toNat++[ag l i f]:=by
 rw[show(i+1).toNat=i.toNat+1 from by omega,j9,Zp h]
theorem GT {l:af}{i:Int}(h:0<=i):xq l (i+1).toNat=xq l i.toNat++j9 (ax l i 0) 0 (ax l i 0).length:=by
 rw[show(i+1).toNat=i.toNat+1 from by omega,xq,Zp h]
theorem GP {l:af}{i:Int}(h:0<=i):qT l (i+1).toNat=qT l i.toNat++xq (ax l i 0) (ax l i 0).length:=by
 rw[show(i+1).toNat=i.toNat+1 from by omega,qT,Zp h]
theorem oF {l:af}{f:Nat}{x:Int}:∀ {n},x∈j9 l f n↔∃ k:Nat,k<n/\x=ag l k f
 |0=>⟨(fun h=>by cases h),fun⟨k,h,_⟩=>absurd h (XB _)⟩
 | n+1=>by
   rw[j9,Zg,oF,Yb]
   constructor
   ·rintro(⟨k,h,e⟩|e);exact⟨k,by omega,e⟩;exact⟨n,by omega,e⟩
   ·rintro⟨k,h,e⟩;by_cases c:k=n
    ·subst c;exact .inr e
    ·exact .inl ⟨k,by omega,e⟩
theorem y9 {ls:af}{x:Int}:∀ {n},x∈xq ls n↔∃ k:Nat,k<n/\x∈j9 (ax ls k 0) 0 (ax ls k 0).length
 |0=>⟨(fun h=>by cases h),fun⟨k,h,_⟩=>absurd h (XB _)⟩
 | n+1=>by
   rw[xq,Zg,y9]
   constructor
   ·rintro(⟨k,h,e⟩|e);exact⟨k,by omega,e⟩;exact⟨n,by omega,e⟩
   ·rintro⟨k,h,e⟩;by_cases c:k=n
    ·subst c;exact .inr e
    ·exact .inl ⟨k,by omega,e⟩
theorem y8 {cs:af}{x:Int}:∀ {n},x∈qT cs n↔∃ k:Nat,k<n/\x∈xq (ax cs k 0) (ax cs k 0).length
 |0=>⟨(fun h=>by cases h),fun⟨k,h,_⟩=>absurd h (XB _)⟩
 | n+1=>by
   rw[qT,Zg,y8]
   constructor
   ·rintro(⟨k,h,e⟩|e);exact⟨k,by omega,e⟩;exact⟨n,by omega,e⟩
   ·rintro⟨k,h,e⟩;by_cases c:k=n
    ·subst c;exact .inr e
    ·exact .inl ⟨k,by omega,e⟩
theorem yE {ls:af}:∀ n,n<=ls.length->(xq ls n).length<=dy (ls.take n)
 |0,_=>ZF _
 | n+1,h=>by
   have q:=yE n (by omega:n<=ls.length);have c:=vH (es:=ls) (n:=n) (j:=0) (by omega);unfold bj at c;rw[xq,Ze,dH,lU (by omega)];omega
theorem kD {cs:af}:∀ n,n<=cs.length->(qT cs n).length<=dy (cs.take n)
 |0,_=>ZF _
 | n+1,h=>by
   have q:=kD n (by omega:n<=cs.length);have c:=vH (es:=cs) (n:=n) (j:=0) (by omega);have d:=yE (ls:=ax cs n 0) (ax cs n 0).length (Zf _);rw[Yp]at d;unfold bj at c;rw[qT,Ze,lU (by omega)];omega
theorem J9 {cs:af}{i k:Int}(i0:0<=i)(i1:i<cs.length)(k1:k<=(ax cs i 0).length):(qT cs i.toNat++xq (ax cs i 0) k.toNat).length+dy ((ax cs i 0).drop k.toNat)<=dy cs:=by
 have q:=kD (cs:=cs) i.toNat (by omega);have c:=AE (es:=cs) (n:=i.toNat+1);have d:=lU (es:=cs) (n:=i.toNat) (by omega);have e:=vH (es:=cs) (n:=i.toNat) (j:=0) (by omega);rw[Zp i0]at e;have f:=yE (ls:=ax cs i 0) k.toNat (by omega);have g:dy (ax cs i 0)=dy ((ax cs i 0).take k.toNat)+dy ((ax cs i 0).drop k.toNat):=by rw[<-fK,ZI]
 rw[Ze];unfold bj at e;omega
theorem Dz {cs:af}{i k j:Int}(i0:0<=i)(i1:i<cs.length)(k0:0<=k)(k1:k<(ax cs i 0).length)(j0:0<=j)(j1:j<=(ax (ax cs i 0) k 0).length):(qT cs i.toNat++xq (ax cs i 0) k.toNat++j9 (ax (ax cs i 0) k 0) 0 j.toNat).length<=dy cs:=by
 have q:=J9 i0 i1 (by omega:k<=(ax cs i 0).length);have e:=vH (es:=ax cs i 0) (n:=k.toNat) (j:=0) (by omega);rw[Zp k0]at e;have d:mW ((ax cs i 0).getD k.toNat [])<=dy ((ax cs i 0).drop k.toNat):=by
  rw[WF (by omega)];rw[Zo,Zs (by omega)];simp[dy]
 rw[Ze,dH];unfold bj at e;omega
def hlB (sp lg:af)(a k:Int):Bool:=decide (dnK sp lg a=1)&&(decide (dnO sp lg a=0)&&(decide (k<0)||decide (ag sp (dnI sp lg a) 1=k)))
def jA (sp lg l:af)(k j:Int):Bool:=hlB sp lg (ag l j 0) k
def kA (sp lg ls:af)(k:Int):Bool:=cH (jA sp lg (ax ls k 0) k) (ax ls k 0).length
def iA (sp lg cs:af)(i:Int):Bool:=cH (kA sp lg (ax cs i 0)) (ax cs i 0).length
def qA (sp lg qs:af)(i:Int):Bool:=hlB sp lg (ag qs i 0) (ag qs i 1)
def sA (qs:af)(c i:Int):Bool:=decide (ag qs i 2<=c)
def EI (sp lg qs:af)(c i:Int):Bool:=qA sp lg qs i&&sA qs c i
def Ks (os cs qs fl:af):List Int:=qT cs cs.length++j9 qs 0 qs.length++j9 fl 0 fl.length++j9 os 1 os.length
def Cn (os cs qs fl:af):List Int:=j9 os 1 os.length++qT cs cs.length++j9 qs 0 qs.length++j9 fl 0 fl.length
def LN (l:List Int)(lv:af)(i:Int):Bool:=decide (l.count (ag lv i 0)=1)
def hoI (sp lg os cs b x qs:af)(c:Int):Bool:=cH (iA sp lg cs) cs.length&&(cH (EI sp lg qs c) qs.length&&(cH (jA sp lg (ifL b x) (-1)) (ifL b x).length&&cH (LN (Ks os cs qs (ifL b x)) (laL sp lg)) (laL sp lg).length))
def hoS (sp lg os cs b x qs:af):Bool:=cH (iA sp lg cs) cs.length&&(cH (qA sp lg qs) qs.length&&(cH (jA sp lg (ifL b x) (-1)) (ifL b x).length&&(decide ((Cn os cs qs (ifL b x)).Nodup)&&decide ((Cn os cs qs (ifL b x)).length=(laL sp lg).length))))
section
variable {sp lg os cs b x qs fl es: af} {i k j c: Int}
theorem SC (k0:0<=k)(k1:k<(ax cs i 0).length)(j0:0<=j)(j1:j<(ax (ax cs i 0) k 0).length)(h:hlB sp lg (ag (ax (ax cs i 0) k 0) j 0) k=false):iA sp lg cs i=false:=
 bP k0 k1 (bP (p:=jA sp lg (ax (ax cs i 0) k 0) k) j0 j1 h)
theorem Of (i0:0<=i)(i1:i<cs.length)(h:iA sp lg cs i=false):hoI sp lg os cs b x qs c=false:=by unfold hoI;rw[bP i0 i1 h];rfl
theorem Hp (i0:0<=i)(i1:i<qs.length)(h:EI sp lg qs c i=false):hoI sp lg os cs b x qs c=false:=by unfold hoI;rw[bP i0 i1 h];simp
theorem Og (i0:0<=i)(i1:i<(ifL b x).length)(h:hlB sp lg (ag (ifL b x) i 0) (-1)=false):hoI sp lg os cs b x qs c=false:=by unfold hoI;rw[bP (p:=jA sp lg (ifL b x) (-1)) i0 i1 h];simp
theorem Oh (i0:0<=i)(i1:i<(laL sp lg).length)(h:LN (Ks os cs qs (ifL b x)) (laL sp lg) i=false):hoI sp lg os cs b x qs c=false:=by unfold hoI;rw[bP i0 i1 h];simp
theorem Oi (i0:0<=i)(i1:i<cs.length)(h:iA sp lg cs i=false):hoS sp lg os cs b x qs=false:=by unfold hoS;rw[bP i0 i1 h];rfl
theorem Oj (i0:0<=i)(i1:i<qs.length)(h:qA sp lg qs i=false):hoS sp lg os cs b x qs=false:=by unfold hoS;rw[bP i0 i1 h];simp
theorem Ol (i0:0<=i)(i1:i<(ifL b x).length)(h:hlB sp lg (ag (ifL b x) i 0) (-1)=false):hoS sp lg os cs b x qs=false:=by unfold hoS;rw[bP (p:=jA sp lg (ifL b x) (-1)) i0 i1 h];simp
theorem aay (h:hlB sp lg (ag qs i 0) (ag qs i 1)=false):EI sp lg qs c i=false:=by unfold EI qA;rw[h];rfl
theorem aaz (h:c<ag qs i 2):EI sp lg qs c i=false:=by unfold EI sA;rw[VL (by omega),Z4]
theorem adJ (h:hlB sp lg (ag qs i 0) (ag qs i 1)=true)(g:ag qs i 2<=c):EI sp lg qs c i=true:=by unfold EI qA sA;rw[h,VK g];rfl
structure Qs (sp lg cs:af)(i:Int)(es:af):Prop where
 ok:upto (iA sp lg cs) i
 c:yp es (qT cs i.toNat)
structure Qu (sp lg cs:af)(i k:Int)(es:af):Prop where
 ok:upto (iA sp lg cs) i
 ok2:upto (kA sp lg (ax cs i 0)) k
 c:yp es (qT cs i.toNat++xq (ax cs i 0) k.toNat)
structure Qt (sp lg cs:af)(i k j:Int)(es:af):Prop where
 ok:upto (iA sp lg cs) i
 ok2:upto (kA sp lg (ax cs i 0)) k
 ok3:upto (jA sp lg (ax (ax cs i 0) k 0) k) j
 c:yp es (qT cs i.toNat++xq (ax cs i 0) k.toNat++j9 (ax (ax cs i 0) k 0) 0 j.toNat)
structure Qv (sp lg cs qs:af)(t j:Int)(es:af):Prop where
 ok:cH (iA sp lg cs) cs.length=true
 ok2:upto (EI sp lg qs t) j
 c:yp es (qT cs cs.length++j9 qs 0 j.toNat)
structure Qr (sp lg cs qs fl:af)(t j:Int)(es:af):Prop where
 ok:cH (iA sp lg cs) cs.length=true
 ok2:cH (EI sp lg qs t) qs.length=true
 ok3:upto (jA sp lg fl (-1)) j
 c:yp es (qT cs cs.length++j9 qs 0 qs.length++j9 fl 0 j.toNat)
structure Nn (sp lg os cs qs fl:af)(t j:Int)(es:af):Prop where
 ok:cH (iA sp lg cs) cs.length=true
 ok2:cH (EI sp lg qs t) qs.length=true
 ok3:cH (jA sp lg fl (-1)) fl.length=true
 c:yp es (qT cs cs.length++j9 qs 0 qs.length++j9 fl 0 fl.length++j9 os 1 j.toNat)
theorem acA:Qs sp lg cs 0 []:=⟨bD,acl⟩
theorem acC (h:Qs sp lg cs i es):Qu sp lg cs i 0 es:=⟨h.ok,bD,by simpa[xq]using h.c⟩
theorem acB (h:Qu sp lg cs i k es):Qt sp lg cs i k 0 es:=⟨h.ok,h.ok2,bD,by simpa[j9]using h.c⟩
theorem R1 (h:Qt sp lg cs i k j es)(i0:0<=i)(i1:i<cs.length)(k0:0<=k)(k1:k<(ax cs i 0).length)(j0:0<=j)(j1:j<(ax (ax cs i 0) k 0).length)(hc:bj cs<=1073741824)(hh:hlB sp lg (ag (ax (ax cs i 0) k 0) j 0) k=true):
 Qt sp lg cs i k (j+1) (huI es (ag (ax (ax cs i 0) k 0) j 0)):=by
 have l:=Dz (cs:=cs) i0 i1 k0 k1 j0 (by omega);unfold bj at hc;exact⟨h.ok,h.ok2,aU h.ok3 hh,by rw[nI j0, <-Zi];exact DD h.c (by omega)⟩
theorem R2 (h:Qt sp lg cs i k j es)(k0:0<=k)(j1:j<=((ax (ax cs i 0) k 0).length:Int))(j2:((ax (ax cs i 0) k 0).length:Int)<=j):Qu sp lg cs i (k+1) es:=by
 refine⟨h.ok,aU h.ok2 (bJ h.ok3 j2),?_⟩;have c:=h.c;rw[show j.toNat=(ax (ax cs i 0) k 0).length from by omega,Zi, <-GT k0]at c;exact c
theorem R0 (h:Qu sp lg cs i k es)(i0:0<=i)(k1:k<=((ax cs i 0).length:Int))(k2:((ax cs i 0).length:Int)<=k):Qs sp lg cs (i+1) es:=by
 refine⟨aU h.ok (bJ h.ok2 k2),?_⟩;have c:=h.c;rw[show k.toNat=(ax cs i 0).length from by omega, <-GP i0]at c;exact c
theorem acL (h:Qs sp lg cs i es)(i1:i<=cs.length)(i2:(cs.length:Int)<=i):Qv sp lg cs qs c 0 es:=
 ⟨bJ h.ok i2,bD,by have c:=h.c;rw[show i.toNat=cs.length from by omega]at c;simpa[j9]using c⟩
theorem Sw (h:Qv sp lg cs qs c j es)(j0:0<=j)(j1:j<qs.length)(hc:bj cs<=1073741824)(hq:qs.length<=1073741824)(hh:EI sp lg qs c j=true):Qv sp lg cs qs c (j+1) (huI es (ag qs j 0)):=by
 have l:=kD (cs:=cs) cs.length (Zf _);rw[Yp]at l;unfold bj at hc;refine⟨h.ok,aU h.ok2 hh,?_⟩;rw[nI j0, <-Zi];refine DD h.c ?_;rw[Ze,dH];omega
theorem acz (h:Qv sp lg cs qs c i es)(i1:i<=qs.length)(i2:(qs.length:Int)<=i):Qr sp lg cs qs fl c 0 es:=
 ⟨h.ok,bJ h.ok2 i2,bD,by have c:=h.c;rw[show i.toNat=qs.length from by omega]at c;simpa[j9]using c⟩
theorem RZ (h:Qr sp lg cs qs fl c j es)(j0:0<=j)(j1:j<fl.length)(hc:bj cs<=1073741824)(hq:qs.length<=1073741824)(hf:fl.length<=30)(hh:hlB sp lg (ag fl j 0) (-1)=true):Qr sp lg cs qs fl c (j+1) (huI es (ag fl j 0)):=by
 have l:=kD (cs:=cs) cs.length (Zf _);rw[Yp]at l;unfold bj at hc;refine⟨h.ok,h.ok2,aU h.ok3 hh,?_⟩;rw[nI j0, <-Zi];refine DD h.c ?_;rw[Ze,Ze,dH,dH];omega
theorem acH (h:Qr sp lg cs qs fl c i es)(i1:i<=fl.length)(i2:(fl.length:Int)<=i):Nn sp lg os cs qs fl c 0 es:=
 ⟨h.ok,h.ok2,bJ h.ok3 i2,by have c:=h.c;rw[show i.toNat=fl.length from by omega]at c;simpa[j9]using c⟩
theorem R6 (h:Nn sp lg os cs qs fl c j es)(j0:0<=j)(j1:j<os.length)(hc:bj cs<=1073741824)(hq:qs.length<=1073741824)(ho:os.length<=1073741824)(hf:fl.length<=30):Nn sp lg os cs qs fl c (j+1) (huI es (ag os j 1)):=by
 have l:=kD (cs:=cs) cs.length (Zf _);rw[Yp]at l;unfold bj at hc;refine⟨h.ok,h.ok2,h.ok3,?_⟩;rw[nI j0, <-Zi];refine DD h.c ?_;rw[Ze,Ze,Ze,dH,dH,dH];omega
structure LD (sp lg os cs qs fl:af)(t i:Int)(es:af):Prop where
 p:Nn sp lg os cs qs fl t os.length es
 ok:upto (LN (Ks os cs qs fl) (laL sp lg)) i
theorem acD (h:Nn sp lg os cs qs fl c i es)(i1:i<=os.length)(i2:(os.length:Int)<=i):LD sp lg os cs qs fl c 0 es:=⟨by rw[show(os.length:Int)=i from by omega];exact h,bD⟩
theorem R3 (h:LD sp lg os cs qs fl c i es)(m:Int):iM es m=((Ks os cs qs fl).count m:Int):=by
 have q:=h.p.c.c m;rw[ZE]at q;exact q
theorem R4 (h:LD sp lg os cs qs fl c i es)(e:iM es (ag (laL sp lg) i 0)=1):LD sp lg os cs qs fl c (i+1) es:=
 ⟨h.p,aU h.ok (by unfold LN;rw[R3 h]at e;exact VK (by omega))⟩
theorem acE (h:LD sp lg os cs qs (ifL b x) c i es)(i0:0<=i)(i1:i<(laL sp lg).length)(e:iM es (ag (laL sp lg) i 0)≠1):hoI sp lg os cs b x qs c=false:=
 Oh i0 i1 (by unfold LN;rw[R3 h]at e;exact VL (by omega))
theorem Oc (h:LD sp lg os cs qs (ifL b x) c i es)(i2:((laL sp lg).length:Int)<=i):hoI sp lg os cs b x qs c=true:=by
 unfold hoI;rw[h.p.ok,h.p.ok2,h.p.ok3,bJ h.ok i2];rfl
end
end Go.V
namespace Go.V
structure Nx (os:af)(i:Int)(o:af):Prop where
 e:o=hH (j9 os 1 i.toNat)
structure QD (sp lg os cs:af)(i:Int)(o:af):Prop where
 ok:upto (iA sp lg cs) i
 e:o=hH (j9 os 1 os.length++qT cs i.toNat)
structure QE (sp lg os cs:af)(i k:Int)(o:af):Prop where
 ok:upto (iA sp lg cs) i
 ok2:upto (kA sp lg (ax cs i 0)) k
 e:o=hH (j9 os 1 os.length++(qT cs i.toNat++xq (ax cs i 0) k.toNat))
structure Ny (sp lg os cs:af)(i k j:Int)(o:af):Prop where
 ok:upto (iA sp lg cs) i
 ok2:upto (kA sp lg (ax cs i 0)) k
 ok3:upto (jA sp lg (ax (ax cs i 0) k 0) k) j
 e:o=hH (j9 os 1 os.length++(qT cs i.toNat++xq (ax cs i 0) k.toNat++j9 (ax (ax cs i 0) k 0) 0 j.toNat))
structure Nz (sp lg os cs qs:af)(j:Int)(o:af):Prop where
 ok:cH (iA sp lg cs) cs.length=true
 ok2:upto (qA sp lg qs) j
 e:o=hH (j9 os 1 os.length++qT cs cs.length++j9 qs 0 j.toNat)
structure NA (sp lg os cs qs fl:af)(j:Int)(o:af):Prop where
 ok:cH (iA sp lg cs) cs.length=true
 ok2:cH (qA sp lg qs) qs.length=true
 ok3:upto (jA sp lg fl (-1)) j
 e:o=hH (j9 os 1 os.length++qT cs cs.length++j9 qs 0 qs.length++j9 fl 0 j.toNat)
structure JO (sp lg os cs qs fl:af)(j:Int)(o:af):Prop where
 ok:cH (iA sp lg cs) cs.length=true
 ok2:cH (qA sp lg qs) qs.length=true
 ok3:cH (jA sp lg fl (-1)) fl.length=true
 e:o=hH (Cn os cs qs fl)
 nd:((Cn os cs qs fl).take j.toNat).Nodup
section
variable {sp lg os cs b x qs fl o: af} {i k j: Int}
theorem adN:Nx os 0 []:=⟨rfl⟩
theorem adO (h:Nx os i o):o.length=i.toNat:=by rw[h.e,cn,dH]
theorem aaG (h:Nx os i o)(i0:0<=i):Nx os (i+1) (o++[[.i (ag os i 1)]]):=⟨by rw[nI i0,gw, <-h.e];rfl⟩
theorem adP (h:Nx os i o)(i1:i<=os.length)(i2:(os.length:Int)<=i):QD sp lg os cs 0 o:=⟨bD,by rw[h.e,show i.toNat=os.length from by omega];simp[qT]⟩
theorem adQ (h:QD sp lg os cs i o):QE sp lg os cs i 0 o:=⟨h.ok,bD,by rw[h.e];simp[xq]⟩
theorem adR (h:QE sp lg os cs i k o):Ny sp lg os cs i k 0 o:=⟨h.ok,h.ok2,bD,by rw[h.e];simp[j9]⟩
theorem adS (h:Ny sp lg os cs i k j o)(i0:0<=i)(i1:i<cs.length)(k0:0<=k)(k1:k<(ax cs i 0).length)(j0:0<=j)(j1:j<=(ax (ax cs i 0) k 0).length)(hc:bj cs<=1073741824)(ho:os.length<=1073741824):o.length<=2147483648:=by
 have l:=Dz (cs:=cs) i0 i1 k0 k1 j0 j1;unfold bj at hc;rw[h.e,cn,Ze,dH];omega
theorem aaK (h:Ny sp lg os cs i k j o)(j0:0<=j)(hh:hlB sp lg (ag (ax (ax cs i 0) k 0) j 0) k=true):Ny sp lg os cs i k (j+1) (o++[[.i (ag (ax (ax cs i 0) k 0) j 0)]]):=
 ⟨h.ok,h.ok2,aU h.ok3 hh,by rw[nI j0, <-Zi (qT cs i.toNat++xq (ax cs i 0) k.toNat), <-Zi (j9 os 1 os.length),gw, <-h.e];rfl⟩
theorem aaJ (h:Ny sp lg os cs i k j o)(k0:0<=k)(j1:j<=((ax (ax cs i 0) k 0).length:Int))(j2:((ax (ax cs i 0) k 0).length:Int)<=j):QE sp lg os cs i (k+1) o:=by
 refine⟨h.ok,aU h.ok2 (bJ h.ok3 j2),?_⟩;rw[h.e,show j.toNat=(ax (ax cs i 0) k 0).length from by omega,Zi (qT cs i.toNat), <-GT k0]
theorem aaH (h:QE sp lg os cs i k o)(i0:0<=i)(k1:k<=((ax cs i 0).length:Int))(k2:((ax cs i 0).length:Int)<=k):QD sp lg os cs (i+1) o:=by
 refine⟨aU h.ok (bJ h.ok2 k2),?_⟩;rw[h.e,show k.toNat=(ax cs i 0).length from by omega, <-GP i0]
theorem adT (h:QD sp lg os cs i o)(i1:i<=cs.length)(i2:(cs.length:Int)<=i):Nz sp lg os cs qs 0 o:=⟨bJ h.ok i2,bD,by rw[h.e,show i.toNat=cs.length from by omega];simp[j9]⟩
theorem adU (h:Nz sp lg os cs qs j o)(j1:j<=qs.length)(hc:bj cs<=1073741824)(ho:os.length<=1073741824)(hq:qs.length<=1073741824):o.length<=4294967296:=by
 have l:=kD (cs:=cs) cs.length (Zf _);rw[Yp]at l;unfold bj at hc;rw[h.e,cn,Ze,Ze,dH,dH];omega
theorem aaL (h:Nz sp lg os cs qs j o)(j0:0<=j)(hh:hlB sp lg (ag qs j 0) (ag qs j 1)=true):Nz sp lg os cs qs (j+1) (o++[[.i (ag qs j 0)]]):=
 ⟨h.ok,aU h.ok2 hh,by rw[nI j0, <-Zi,gw, <-h.e];rfl⟩
theorem adV (h:Nz sp lg os cs qs i o)(i1:i<=qs.length)(i2:(qs.length:Int)<=i):NA sp lg os cs qs fl 0 o:=⟨h.ok,bJ h.ok2 i2,bD,by rw[h.e,show i.toNat=qs.length from by omega];simp[j9]⟩
theorem adW (h:NA sp lg os cs qs fl j o)(j1:j<=fl.length)(hc:bj cs<=1073741824)(ho:os.length<=1073741824)(hq:qs.length<=1073741824)(hf:fl.length<=30):o.length<=4294967400:=by
 have l:=kD (cs:=cs) cs.length (Zf _);rw[Yp]at l;unfold bj at hc;rw[h.e,cn,Ze,Ze,Ze,dH,dH,dH];omega
theorem aaM (h:NA sp lg os cs qs fl j o)(j0:0<=j)(hh:hlB sp lg (ag fl j 0) (-1)=true):NA sp lg os cs qs fl (j+1) (o++[[.i (ag fl j 0)]]):=
 ⟨h.ok,h.ok2,aU h.ok3 hh,by rw[nI j0, <-Zi,gw, <-h.e];rfl⟩
theorem adX (h:NA sp lg os cs qs fl i o)(i1:i<=fl.length)(i2:(fl.length:Int)<=i):JO sp lg os cs qs fl 0 o:=
 ⟨h.ok,h.ok2,bJ h.ok3 i2,by rw[h.e,show i.toNat=fl.length from by omega];rfl,ZK⟩
theorem aaN (h:JO sp lg os cs qs fl j o)(hc:bj cs<=1073741824)(ho:os.length<=1073741824)(hq:qs.length<=1073741824)(hf:fl.length<=30):o.length<=4294967400:=by
 have l:=kD (cs:=cs) cs.length (Zf _);rw[Yp]at l;unfold bj at hc;rw[h.e,cn];unfold Cn;rw[Ze,Ze,Ze,dH,dH,dH];omega
theorem Bh {l:List Int}{n:Nat}:(hH l).take n=hH (l.take n):=by unfold hH;rw[List.map_take]
theorem zz {l:List Int}{i:Int}(h0:0<=i)(h:i<(hH l).length):∃ x,l[i.toNat]?=some x/\ag (hH l) i 0=x:=by
 rw[cn]at h;have q:=rU (l:=l) (k:=i.toNat) (by omega);rw[Zp h0]at q;exact⟨_,Zs (by omega),q⟩
theorem aaP (h:JO sp lg os cs qs fl j o)(j0:0<=j)(j1:j<o.length)(hh:hasB (o.take j.toNat) (ag o j 0)=false):JO sp lg os cs qs fl (j+1) o:=by
 refine⟨h.ok,h.ok2,h.ok3,h.e,?_⟩;have e:=h.e;rw[e]at j1 hh;obtain⟨v,q1,q2⟩:=zz j0 j1;rw[Bh,q2]at hh;have nm:=uf hh;rw[show(j+1).toNat=j.toNat+1 from by omega,List.take_succ,q1];exact kG h.nd nm
theorem adY (h:JO sp lg os cs qs (ifL b x) j o)(j0:0<=j)(j1:j<o.length)(hh:hasB (o.take j.toNat) (ag o j 0)=true):hoS sp lg os cs b x qs=false:=by
 have e:=h.e;rw[e]at j1 hh;obtain⟨v,q1,q2⟩:=zz j0 j1;rw[Bh,q2,oD]at hh;have:¬ (Cn os cs qs (ifL b x)).Nodup:=fun nd=>by
  have lt:j.toNat<(Cn os cs qs (ifL b x)).length:=by rw[cn]at j1;omega
  have sp:=ZI j.toNat (Cn os cs qs (ifL b x));rw[WF lt]at sp;have gv:(Cn os cs qs (ifL b x))[j.toNat]=v:=by rw[Zs lt]at q1;exact Yv q1
  rw[gv]at sp;exact dup sp.symm hh nd
 unfold hoS;rw[VL this];simp
theorem PV (h:JO sp lg os cs qs (ifL b x) j o)(j2:(o.length:Int)<=j):decide ((o.length:Int)=(laL sp lg).length)=hoS sp lg os cs b x qs:=by
 have e:=h.e;have nd:=h.nd;have l:(Cn os cs qs (ifL b x)).length=o.length:=by rw[e,cn]
 rw[Yj (by omega)]at nd;unfold hoS;rw[h.ok,h.ok2,h.ok3,VK nd,l];simp only[YE];exact fU (by rw[VM,VM];omega)
def QH (l:List Int):Prop:=∀ v∈l,-9223372036854775808<=v/\v<=9223372036854775807
theorem yT {l m:List Int}(h:QH l)(g:QH m):QH (l++m):=fun v hv=>by
 rcases Zg.1 hv with q|q;exact h v q;exact g v q
theorem yU {fs:List Ty}{l:af}{f:Nat}(h:Rw fs l)(hf:fs[f]?=some tI):QH (j9 l f l.length):=fun v hv=>by
 obtain⟨n,n1,rfl⟩:=oF.1 hv;exact qn h hf (by omega)
theorem OE {ls:af}(h:Rw [.sl [tI]] ls):QH (xq ls ls.length):=fun v hv=>by
 obtain⟨n,n1,q⟩:=y9.1 hv;exact yU (fs:=[tI]) (Rw.sub (fs:=[.sl [tI]]) h (by omega) rfl) rfl v q
theorem OD {cs:af}(h:Rw [.sl [.sl [tI]]] cs):QH (qT cs cs.length):=fun v hv=>by
 obtain⟨n,n1,q⟩:=y8.1 hv;exact OE (Rw.sub (fs:=[.sl [.sl [tI]]]) h (by omega) rfl) v q
theorem aaO (N:JM sp lg os cs b x qs)(h:JO sp lg os cs qs (ifL b x) j o)(n:Nat):Rw [tI] (o.take n):=by
 have l:=aaN h N.cl N.ol N.ql Cr;refine Rw.take ?_ n;rw[h.e]at l ⊢;rw[cn]at l;refine rV ?_ (by omega);unfold Cn;exact yT (yT (yT (yU N.ow rfl) (OD N.cw)) (yU N.qw rfl)) (yU (HB N.m) rfl)
theorem Hn {a k:Int}(hl:layOk sp lg=true)(h:hlB sp lg a k=true):tP sp lg a=true:=by
 unfold hlB at h;simp only[Zc,VM]at h;exact(Eg hl).2 ⟨h.2.1,.inl h.1⟩
theorem TX {a s:Int}(hl:layOk sp lg=true)(h:okO sp lg a s=true):tP sp lg a=true:=by
 unfold okO at h;simp only[Zc,Yc,VM]at h;exact(Eg hl).2 ⟨h.1,h.2.elim (fun q=>.inl q.1) (fun q=>.inr q.1)⟩
def O3 (sp lg:af):List Int:=MC sp lg 512
theorem SY (hl:layOk sp lg=true):laL sp lg=hH (O3 sp lg):=by unfold laL O3;rw[VN hl,vN]
theorem KN (hl:layOk sp lg=true){a:Int}:a∈O3 sp lg↔tP sp lg a=true:=by
 unfold O3;rw[qv]
 constructor;exact fun h=>h.2.2
 ·intro h;have F:=O4 hl;have v:=MD F hl h;have r:a∈Oq sp lg:=Em.2 v;refine⟨?_,?_,h⟩
  ·rcases v with⟨i,k,i1,k1,_,e⟩|⟨j,j1,e⟩
   ·have ae:=mZ (s:=(k:Int)) (F.s i i1) (by omega) (by omega);have t:=lL (F.s i i1);omega
   ·have t:=k7 (F.l j j1);omega
  ·rcases v with⟨i,k,i1,k1,_,e⟩|⟨j,j1,e⟩
   ·have ae:=mZ (s:=(k:Int)) (F.s i i1) (by omega) (by omega);have t:=lL (F.s i i1);omega
   ·have t:=k7 (F.l j j1);have b:=ku t.1;omega
theorem Po:(O3 sp lg).Nodup:=(CZ 512).imp (fun h=>by omega)
theorem Ey:(Ks os cs qs fl).Perm (Cn os cs qs fl):=by
 unfold Ks Cn;have q:=List.perm_append_comm (l₁:=qT cs cs.length++j9 qs 0 qs.length++j9 fl 0 fl.length) (l₂:=j9 os 1 os.length);refine q.trans ?_;rw[Zi,Zi,Zi]
theorem Iq {l m:List Int}(hm:m.Nodup)(hs:∀ v∈l,v∈m):(∀ v∈m,l.count v=1)↔l.Nodup/\l.length=m.length:=by
 constructor
 ·intro h;have nd:l.Nodup:=WG.2 (fun v=>by
   by_cases c:v∈l
   ·rw[h v (hs v c)];exact Zf _
   ·rw[WE.2 c];omega)
  refine⟨nd,?_⟩;have p:l.Perm m:=by
   rw[List.perm_ext_iff_of_nodup nd hm];intro v;refine⟨hs v,fun hv=>?_⟩;have:=h v hv;exact WH.1 (by omega)
  exact p.length_eq
 ·rintro⟨nd,len⟩ v hv;have hv':v∈l:=by
   by_cases c:v∈l;exact c
   ·exfalso;have q:=WC (l₁:=v::l) (l₂:=m) (List.nodup_cons.2 ⟨c,nd⟩) (fun y hy=>by
     rcases Zk.1 hy with rfl|hy;exact hv
     ·exact hs y hy)
    rw[Zr]at q;omega
  have p1:=WG.1 nd v;have p2:=WH.2 hv';omega
theorem fS {p:Int->Bool}{n:Nat}(h:cH p n=true):∀ k:Nat,k<n->p k=true:=fun k hk=>dp.1 h k (by omega) (by omega)
theorem K2 {c:Int}:cH (EI sp lg qs c) qs.length=(cH (qA sp lg qs) qs.length&&cH (sA qs c) qs.length):=by
 refine fU ?_;rw[Zc,dp,dp,dp];unfold upto EI
 constructor
 ·intro h;refine⟨fun j h0 h1=>?_,fun j h0 h1=>?_⟩
  ·have:=h j h0 h1;rw[Zc]at this;exact this.1
  ·have:=h j h0 h1;rw[Zc]at this;exact this.2
 ·rintro⟨h,g⟩ j h0 h1;rw[h j h0 h1,g j h0 h1];rfl
theorem Hq {nx c:Int}(hl:layOk sp lg=true)(ho:objOk sp lg os cs nx=true):hoI sp lg os cs b x qs c=(hoS sp lg os cs b x qs&&cH (sA qs c) qs.length):=by
 unfold hoI hoS;rw[K2];by_cases h1:cH (iA sp lg cs) cs.length=true
 case neg=>rw[YY]at h1;rw[h1];rfl
 by_cases h2:cH (qA sp lg qs) qs.length=true
 case neg=>rw[YY]at h2;rw[h2];simp
 by_cases h3:cH (jA sp lg (ifL b x) (-1)) (ifL b x).length=true
 case neg=>rw[YY]at h3;rw[h3];simp
 have sub:∀ v∈Ks os cs qs (ifL b x),v∈O3 sp lg:=by
  intro v hv;rw[KN hl];unfold Ks at hv;rw[Zg,Zg,Zg]at hv;rcases hv with((hv|hv)|hv)|hv
  ·obtain⟨i,i1,hv⟩:=y8.1 hv;obtain⟨k,k1,hv⟩:=y9.1 hv;obtain⟨j,j1,rfl⟩:=oF.1 hv;have q1:=fS h1 i i1;have q2:=fS q1 k k1;have q3:=fS q2 j j1;exact Hn hl q3
  ·obtain⟨j,j1,rfl⟩:=oF.1 hv;exact Hn hl (fS h2 j j1)
  ·obtain⟨j,j1,rfl⟩:=oF.1 hv;exact Hn hl (fS h3 j j1)
  ·obtain⟨j,j1,rfl⟩:=oF.1 hv;have q:=fS ho j j1;unfold x7 at q;simp only[Zc]at q;exact TX hl q.2.2.2.2
 have key:=Iq Po sub;have e1:cH (LN (Ks os cs qs (ifL b x)) (laL sp lg)) (laL sp lg).length=(decide (Cn os cs qs (ifL b x)).Nodup&&decide ((Cn os cs qs (ifL b x)).length=(laL sp lg).length)):=by
  refine fU ?_;rw[Zc,VM,VM, <-Ey.nodup_iff, <-Ey.length_eq,SY hl,cn, <-key]
  constructor
  ·intro h v hv;obtain⟨n,n1,rfl⟩:=X3.1 hv;have q:=fS h n n1;unfold LN at q;rw[rU n1,VM]at q;exact q
  ·intro h;rw[dp];intro j h0 h1;have n1:j.toNat<(O3 sp lg).length:=by omega
   have q:=rU n1;rw[Zp h0]at q;unfold LN;rw[q,VM];exact h _ (Xl n1)
 rw[h1,h2,h3,e1];simp only[YE];exact Bool.and_comm _ _
end
end Go.V
namespace Go.V
theorem D4 {n:Int}:∀ {es:af},QF es->∀ m,m∈ma (lP es n (.v (.bool true)))↔m∈ma es\/m=n
 | [],_,m=>by
   show m∈ma [[.i n,.v (.bool true)]]↔_;simp[ma,kOf]
 | e::es,h,m=>by
   obtain⟨k,b,rfl⟩:=h e (by simp);have h':QF es:=fun e he=>h e (by simp[he])
   have ih:=D4 (n:=n) h' m;rw[En];by_cases c:k=n
   ·rw[VN c];subst c;show m∈k::ma es↔m∈k::ma es\/m=k;simp only[Zk]
    constructor;exact fun h=>.inl h
    ·rintro(h|h);exact h;exact .inl h
   ·rw[VO c];show m∈k::ma (lP es n (.v (.bool true)))↔m∈k::ma es\/m=n;simp only[Zk,ih,or_assoc]
structure ux (es:af)(l:List Int):Prop where
 s:o6 es l
 k:∀ m,m∈ma es↔m∈l
theorem T0:ux [] []:=⟨C6,fun m=>Iff.rfl⟩
theorem Iw {es:af}{l:List Int}{n:Int}(h:ux es l):ux (lP es n (.v (.bool true))) (l++[n]):=
 ⟨uu h.s,fun m=>by rw[D4 h.s.wf,h.k,Zg,Yb]⟩
def ut (sp:af)(i:Int):Bool:= !(decide (0<i)&&decide (ag sp i 0<=ag sp (i-1) 0))
def NV (es:af)(p:Int):Bool:=decide ((fpg es p).length=1)
def yY (es lg:af)(i:Int):Bool:=ut lg i&&cH (fun k=>NV es (ag lg i 0+k)) (ag lg i 1).toNat
def ownB (sp lg:af)(p:Int):Bool:=decide (p∈v7 sp lg)
def mapB (es:af)(p:Int):Bool:=decide (peM es p≠0)
def xP (es fr sp lg:af)(p:Int):Bool:=(mapB es p==ownB sp lg p)&& !(rhB fr p==ownB sp lg p)
def Io (es sp lg:af):Bool:=decide (∀ p∈v7 sp lg,p<es.length)
def vT (sp:af)(i j:Int):Bool:=mshB (ag sp i 0) (ag sp i 1) (ag sp i 2) (ag sp j 0) (ag sp j 1) (ag sp j 2)
def Gd (es sp:af)(i j:Int):Bool:= !decide (peF es (ag sp i 0)=peF es (ag sp j 0))||vT sp i j
def JA (es sp:af)(i:Int):Bool:=cH (Gd es sp i) i.toNat
def H6 (es sp:af)(i k:Int):Bool:=decide (spI sp (ag (fpg es (ag sp i 0)) k 0)=i)||(decide (0<=spI sp (ag (fpg es (ag sp i 0)) k 0))&&vT sp i (spI sp (ag (fpg es (ag sp i 0)) k 0)))
def msA (es sp:af)(i:Int):Bool:=cH (H6 es sp i) (fpg es (ag sp i 0)).length
def pgI (es fr sp lg:af):Bool:=cH (ut sp) sp.length&&(cH (yY es lg) lg.length&&(cH (xP es fr sp lg) es.length&&(Io es sp lg&&cH (JA es sp) sp.length)))
def pgS (es fr sp lg:af):Bool:=cH (ut sp) sp.length&&(cH (yY es lg) lg.length&&(Io es sp lg&&cH (xP es fr sp lg) es.length))
def smS (es sp:af):Bool:=cH (msA es sp) sp.length
section
variable {es fr sp lg m: af} {i j k p: Int} {vs: List Int}
theorem EV (h:0<i)(g:ag sp i 0<=ag sp (i-1) 0):ut sp i=false:=by unfold ut;rw[VK h,VK g];rfl
theorem EW (h:i<=0):ut sp i=true:=by unfold ut;rw[VL (by omega)];rfl
theorem EX (h:ag sp (i-1) 0<ag sp i 0):ut sp i=true:=by unfold ut;rw[VL (p:=ag sp i 0<=_) (by omega)];simp
theorem aad (i0:0<=i)(i1:i<sp.length)(h:ut sp i=false):pgI es fr sp lg=false:=by unfold pgI;rw[bP i0 i1 h];rfl
theorem MR (i0:0<=i)(i1:i<lg.length)(h:yY es lg i=false):pgI es fr sp lg=false:=by unfold pgI;rw[bP i0 i1 h];simp
theorem MS (i0:0<=i)(i1:i<es.length)(h:xP es fr sp lg i=false):pgI es fr sp lg=false:=by unfold pgI;rw[bP i0 i1 h];simp
theorem aae (h:Io es sp lg=false):pgI es fr sp lg=false:=by unfold pgI;rw[h];simp
theorem aaf (i0:0<=i)(i1:i<sp.length)(h:JA es sp i=false):pgI es fr sp lg=false:=by unfold pgI;rw[bP i0 i1 h];simp
theorem adw {a b c d:Int}(h1:upto (ut sp) a)(g1:(sp.length:Int)<=a)(h2:upto (yY es lg) b)(g2:(lg.length:Int)<=b)(h3:upto (xP es fr sp lg) c)(g3:(es.length:Int)<=c)(h4:Io es sp lg=true)(h5:upto (JA es sp) d)(g5:(sp.length:Int)<=d):pgI es fr sp lg=true:=by
 unfold pgI;rw[bJ h1 g1,bJ h2 g2,bJ h3 g3,h4,bJ h5 g5];rfl
theorem aal (i0:0<=i)(i1:i<sp.length)(h:ut sp i=false):pgS es fr sp lg=false:=by unfold pgS;rw[bP i0 i1 h];rfl
theorem MU (i0:0<=i)(i1:i<lg.length)(h:yY es lg i=false):pgS es fr sp lg=false:=by unfold pgS;rw[bP i0 i1 h];simp
theorem MV (i0:0<=i)(i1:i<es.length)(h:xP es fr sp lg i=false):pgS es fr sp lg=false:=by unfold pgS;rw[bP i0 i1 h];simp
theorem aam (h:Io es sp lg=false):pgS es fr sp lg=false:=by unfold pgS;rw[h];simp
theorem ady {a b c:Int}(h1:upto (ut sp) a)(g1:(sp.length:Int)<=a)(h2:upto (yY es lg) b)(g2:(lg.length:Int)<=b)(h3:upto (xP es fr sp lg) c)(g3:(es.length:Int)<=c)(h4:Io es sp lg=true):pgS es fr sp lg=true:=by
 unfold pgS;rw[bJ h1 g1,bJ h2 g2,bJ h3 g3,h4];rfl
theorem Mx (h:ut lg i=false):yY es lg i=false:=by unfold yY;rw[h];rfl
theorem My (k0:0<=k)(k1:k<ag lg i 1)(h:(fpg es (ag lg i 0+k)).length≠1):yY es lg i=false:=by
 unfold yY;rw[bP (i:=k) (n:=(ag lg i 1).toNat) k0 (by omega) (show NV es (ag lg i 0+k)=false from VL h),Z4]
theorem S7 (h:ut lg i=true)(g:upto (fun k=>NV es (ag lg i 0+k)) k)(k1:ag lg i 1<=k)(n0:0<=ag lg i 1):yY es lg i=true:=by
 unfold yY;rw[h,bJ g (by omega)];rfl
theorem Md (g:upto (fun k=>NV es (ag lg i 0+k)) k)(h:(fpg es (ag lg i 0+k)).length=1):upto (fun k=>NV es (ag lg i 0+k)) (k+1):=aU g (VK h)
structure QB (es sp lg:af)(j:Int)(m:af):Prop where
 ok:upto (yY es lg) j
 o:ux m (lm sp sp.length++li lg j.toNat)
structure QA (es sp lg:af)(j k:Int)(m:af):Prop where
 ok:upto (yY es lg) j
 h:ut lg j=true
 g:upto (fun k=>NV es (ag lg j 0+k)) k
 o:ux m (lm sp sp.length++li lg j.toNat++oK (ag lg j 0) k.toNat)
theorem adx (h:ux m (lm sp i.toNat))(i1:i<=sp.length)(i2:(sp.length:Int)<=i):QB es sp lg 0 m:=⟨bD,by rw[show i.toNat=sp.length from by omega]at h;simpa[li]using h⟩
theorem aag (h:QB es sp lg j m)(g:ut lg j=true):QA es sp lg j (ag lg j 0-ag lg j 0) m:=by
 rw[Int.sub_self];exact⟨h.ok,g,bD,by simpa[oK]using h.o⟩
theorem aai (h:QA es sp lg j (p-ag lg j 0) m)(p0:ag lg j 0<=p)(g:(fpg es p).length=1):QA es sp lg j (p+1-ag lg j 0) (lP m p (.v (.bool true))):=by
 have e:ag lg j 0+(p-ag lg j 0)=p:=by omega
 rw[show p+1-ag lg j 0=(p-ag lg j 0)+1 from by omega];refine⟨h.ok,h.h,Md h.g (by rw[e];exact g),?_⟩;rw[v8 (by omega),e, <-Zi];exact Iw h.o
theorem aah (p0:ag lg j 0<=p)(p1:p<ag lg j 0+ag lg j 1)(h:(fpg es p).length≠1):yY es lg j=false:=
 My (k:=p-ag lg j 0) (by omega) (by omega) (by rw[show ag lg j 0+(p-ag lg j 0)=p from by omega];exact h)
theorem aaj (h:QA es sp lg j (p-ag lg j 0) m)(j0:0<=j)(n0:0<=ag lg j 1)(p1:p<=ag lg j 0+ag lg j 1)(p2:ag lg j 0+ag lg j 1<=p):QB es sp lg (j+1) m:=by
 refine⟨aU h.ok (S7 h.h h.g (by omega) n0),?_⟩;have o:=h.o;rw[show(p-ag lg j 0).toNat=(ag lg j 1).toNat from by omega,Zi, <-pI j0]at o;exact o
theorem PD (h:QB es sp lg j m)(j1:j<=lg.length)(j2:(lg.length:Int)<=j):ux m (v7 sp lg):=by
 have o:=h.o;rw[show j.toNat=lg.length from by omega]at o;exact o
theorem T6 (h:ux m (v7 sp lg))(p:Int):mgbI m p=ownB sp lg p:=by
 refine fU ?_;unfold ownB;rw[h.s.at_,VM]
theorem Ma (h:mapB es p≠ownB sp lg p):xP es fr sp lg p=false:=by unfold xP;rw[beq_eq_false_iff_ne.2 h];rfl
theorem Mb (h:rhB fr p=ownB sp lg p):xP es fr sp lg p=false:=by unfold xP;rw[h];simp
theorem Ry (h:mapB es p=ownB sp lg p)(g:rhB fr p≠ownB sp lg p):xP es fr sp lg p=true:=by unfold xP;rw[h,beq_eq_false_iff_ne.2 g];simp
theorem NQ (h:mapB es p=rhB fr p)(g:mapB es p=ownB sp lg p):xP es fr sp lg p=false:=Mb (by rw[<-h,g])
theorem Rz (h:mapB es p≠rhB fr p)(g:mapB es p=ownB sp lg p):xP es fr sp lg p=true:=Ry g (fun e=>h (by rw[g,e]))
theorem Tx (p0:0<=p)(p1:p<es.length):cU .neq (ag es p 0) 0=mapB es p:=by rw[yF];unfold mapB peM;rw[VN (by omega)]
theorem TU (h:p∈v7 sp lg)(g:(es.length:Int)<=p):Io es sp lg=false:=VL (fun c=>by have:=c p h;omega)
theorem adp (o:ux m (v7 sp lg))(h:∀ k∈vs,k<es.length)(g:∀ k∈ma m,k∈vs):Io es sp lg=true:=VK (fun p hp=>h p (g p ((o.k p).2 hp)))
theorem abi {q:Int}(h:∀ k∈vs,k<(es.length:Int))(g:q<es.length):∀ k∈q::vs,k<(es.length:Int):=fun k hk=>by
 rcases Zk.1 hk with rfl|hk;exact g;exact h k hk
theorem adi (j0:0<=j)(j1:j<i)(h:peF es (ag sp i 0)=peF es (ag sp j 0))(g:vT sp i j=false):JA es sp i=false:=by
 unfold JA;exact bP j0 (by omega) (by unfold Gd;rw[g,VK h];rfl)
theorem Tt (h:peF es (ag sp i 0)≠peF es (ag sp j 0)):Gd es sp i j=true:=by unfold Gd;rw[VL h];rfl
theorem Tu (h:vT sp i j=true):Gd es sp i j=true:=by unfold Gd;rw[h,WI]
theorem adj (h:upto (Gd es sp i) j)(g:i<=j)(i0:0<=i):JA es sp i=true:=by unfold JA;exact bJ h (by omega)
structure Jv (es sp lg:af)(j:Int)(o:af):Prop where
 ok:upto (yY es lg) j
 e:o=hH (lm sp sp.length++li lg j.toNat)
 l:(li lg j.toNat).length<=64*j.toNat
structure Nv (es sp lg:af)(j k:Int)(o:af):Prop where
 ok:upto (yY es lg) j
 h:ut lg j=true
 g:upto (fun k=>NV es (ag lg j 0+k)) k
 e:o=hH (lm sp sp.length++li lg j.toNat++oK (ag lg j 0) k.toNat)
 l:(li lg j.toNat).length<=64*j.toNat
structure Nw (sp:af)(i:Int)(o:af):Prop where
 ok:upto (ut sp) i
 e:o=hH (lm sp i.toNat)
variable {o: af}
theorem adG:Nw sp 0 []:=⟨bD,rfl⟩
theorem adH (h:Nw sp i o):o.length=i.toNat:=by rw[h.e,cn,oN]
theorem MY (h:Nw sp i o)(i0:0<=i)(g:ut sp i=true):Nw sp (i+1) (o++[[.i (ag sp i 0)]]):=⟨aU h.ok g,by rw[oc i0,gw, <-h.e];rfl⟩
theorem adC (h:Nw sp i o)(i1:i<=sp.length)(i2:(sp.length:Int)<=i):Jv es sp lg 0 o:=⟨bD,by rw[h.e,show i.toNat=sp.length from by omega];simp[li],ZF _⟩
theorem aat (h:Jv es sp lg j o)(g:ut lg j=true):Nv es sp lg j 0 o:=⟨h.ok,g,bD,by rw[h.e];simp[oK],h.l⟩
theorem aau (h:Nv es sp lg j k o)(k0:0<=k)(g:(fpg es (ag lg j 0+k)).length=1):Nv es sp lg j (k+1) (o++[[.i (ag lg j 0+k)]]):=
 ⟨h.ok,h.h,Md h.g g,by rw[v8 k0, <-Zi,gw, <-h.e];rfl,h.l⟩
theorem aaw (h:Nv es sp lg j k o)(j0:0<=j)(n0:0<=ag lg j 1)(n1:ag lg j 1<=64)(k1:k<=ag lg j 1)(k2:ag lg j 1<=k):Jv es sp lg (j+1) o:=by
 have l:=h.l;refine⟨aU h.ok (S7 h.h h.g k2 n0),?_,?_⟩
 ·rw[h.e,show k.toNat=(ag lg j 1).toNat from by omega,Zi, <-pI j0]
 ·rw[pI j0,Ze,qG];omega
theorem adB (h:Nv es sp lg j k o)(k1:k<=64):o.length<=sp.length+64*j.toNat+64:=by
 have l:=h.l;rw[h.e,cn,Ze,Ze,oN,qG];omega
theorem K1 (h:Jv es sp lg j o)(j1:j<=lg.length)(j2:(lg.length:Int)<=j):o=hH (v7 sp lg):=by
 have e:=h.e;rw[show j.toNat=lg.length from by omega]at e;exact e
theorem MQ (hl:layOk sp lg=true){x:Int}(h:x∈v7 sp lg):0<=x/\x<=31:=by
 have F:=O4 hl;unfold v7 at h;rw[Zg,oG,qu]at h;rcases h with⟨i,i1,e⟩|⟨j,j1,e1,e2⟩
 ·have t:=lL (F.s i i1);omega
 ·have t:=k7 (F.l j j1);have b:=ku t.1;omega
theorem aav (hl:layOk sp lg=true)(h:Jv es sp lg j o)(j1:j<=lg.length)(j2:(lg.length:Int)<=j)(hs:sp.length<=1073741824)(hg:lg.length<=1073741824):Rw [tI] o:=by
 have l:=h.l;rw[K1 h j1 j2];refine rV (fun x hx=>by have:=MQ hl hx;omega) ?_;unfold v7;rw[Ze,oN];rw[show j.toNat=lg.length from by omega]at l;omega
theorem adD (h:Jv es sp lg j o)(j1:j<=lg.length)(j2:(lg.length:Int)<=j)(i0:0<=i)(i1:i<o.length)(g:(es.length:Int)<=ag o i 0):Io es sp lg=false:=by
 have e:=K1 h j1 j2;rw[e]at i1 g;obtain⟨v,q1,q2⟩:=zz i0 i1;rw[q2]at g;exact TU (Zx q1) g
theorem adF (h:Jv es sp lg j o)(j1:j<=lg.length)(j2:(lg.length:Int)<=j)(g:upto (fun t=>decide (ag o t 0<es.length)) i)(i2:(o.length:Int)<=i):Io es sp lg=true:=by
 have e:=K1 h j1 j2;refine VK (fun p hp=>?_);obtain⟨n,n1,rfl⟩:=X3.1 hp;have n2:n<o.length:=by rw[e,cn];exact n1
 have q:=g n (by omega) (by omega);rw[VM,e,rU n1]at q;exact q
theorem adE (h:Jv es sp lg j o)(j1:j<=lg.length)(j2:(lg.length:Int)<=j)(p:Int):hasB o p=ownB sp lg p:=by
 refine fU ?_;rw[K1 h j1 j2,oD];unfold ownB;rw[VM]
theorem TE (k0:0<=k)(k1:k<(fpg es (ag sp i 0)).length)(h:spI sp (ag (fpg es (ag sp i 0)) k 0)≠i)(g:spI sp (ag (fpg es (ag sp i 0)) k 0)<0):msA es sp i=false:=by
 unfold msA;exact bP k0 k1 (by unfold H6;rw[VL h,VL (by omega)];rfl)
theorem TF (k0:0<=k)(k1:k<(fpg es (ag sp i 0)).length)(h:spI sp (ag (fpg es (ag sp i 0)) k 0)≠i)(g:vT sp i (spI sp (ag (fpg es (ag sp i 0)) k 0))=false):msA es sp i=false:=by
 unfold msA;exact bP k0 k1 (by unfold H6;rw[VL h,g];simp)
theorem Tv (h:spI sp (ag (fpg es (ag sp i 0)) k 0)=i):H6 es sp i k=true:=by unfold H6;rw[VK h];rfl
theorem Tw (h:0<=spI sp (ag (fpg es (ag sp i 0)) k 0))(g:vT sp i (spI sp (ag (fpg es (ag sp i 0)) k 0))=true):H6 es sp i k=true:=by unfold H6;rw[VK h,g];simp
theorem aa0 {p:Int}(h:0<=spI sp p):spI sp p<sp.length:=by
 obtain⟨b,_⟩:=kF h;exact b
theorem B7 {a b:Int}:bK .and Za a b=bK .and Za b a:=by
 show YC Za ((ZH _ a&&&ZH _ b).toNat)=YC Za ((ZH _ b&&&ZH _ a).toNat);rw[BitVec.and_comm]
theorem Ie:vT sp i j=vT sp j i:=by
 refine fU ?_;unfold vT mshB;simp only[Zc,VM];rw[B7 (a:=ag sp i 2)]
 constructor
 ·rintro⟨a,b,c,d,e⟩;exact⟨b,a,c.symm,fun h=>d h.symm,e⟩
 ·rintro⟨a,b,c,d,e⟩;exact⟨b,a,c.symm,fun h=>d h.symm,e⟩
theorem zh {es:af}{f:Int}:∀ {n:Nat} {x:Int},hasB (s8 es f n) x=true↔∃ k:Nat,k<n/\x=k/\ag es k 0≠0/\ag es k 1=f
 |0,x=>⟨fun h=>absurd (xX.1 h) (YL),fun⟨k,h,_⟩=>absurd h (XB _)⟩
 | n+1,x=>by
   by_cases c:ag es n 0≠0/\ag es n 1=f
   ·rw[Ez c.1 c.2,Kp,Yc,zh,Kq]
    constructor
    ·rintro(⟨k,h,e⟩|e);exact⟨k,by omega,e⟩;exact⟨n,by omega,e.symm,c⟩
    ·rintro⟨k,h,e,q⟩;by_cases d:k=n
     ·subst d;exact .inr e.symm
     ·exact .inl ⟨k,by omega,e,q⟩
   ·have c':ag es n 0=0\/ag es n 1≠f:=by
     by_cases z:ag es n 0=0;exact .inl z;exact .inr (fun e=>c ⟨z,e⟩)
    rw[CW c',zh]
    constructor
    ·rintro⟨k,h,e⟩;exact⟨k,by omega,e⟩
    ·rintro⟨k,h,e,q⟩;by_cases d:k=n
     ·subst d;exact absurd q c
     ·exact⟨k,by omega,e,q⟩
theorem t9 {p x:Int}:hasB (fpg es p) x=true↔peM es p≠0/\0<=x/\x<es.length/\peM es x≠0/\peF es x=peF es p:=by
 by_cases c:peM es p=0
 ·rw[He c];exact⟨fun h=>absurd (xX.1 h) (YL),fun h=>absurd c h.1⟩
 ·rw[DO c];unfold pagesOn;rw[zh]
  constructor
  ·rintro⟨k,h,rfl,q1,q2⟩;refine⟨c,by omega,by omega,?_,?_⟩
   ·unfold peM;rw[VN (by omega)];exact q1
   ·rw[show peF es k=ag es k 1 from by unfold peF;rw[VN (by omega)]];exact q2
  ·rintro⟨_,h0,h1,q1,q2⟩;refine⟨x.toNat,by omega,by omega,?_,?_⟩
   ·rw[Zp h0];unfold peM at q1;rw[VN (by omega)]at q1;exact q1
   ·rw[Zp h0];unfold peF at q2;rw[VN (c:=0<=x/\x<_) (by omega)]at q2;rw[q2];rfl
theorem yQ {l:af}{x:Int}:hasB l x=true↔∃ k:Nat,k<l.length/\ag l k 0=x:=DU
theorem IC (hl:layOk sp lg=true):pgI es fr sp lg=(pgS es fr sp lg&&smS es sp):=by
 have F:=O4 hl;unfold pgI pgS;by_cases h1:cH (ut sp) sp.length=true
 case neg=>rw[YY]at h1;rw[h1];rfl
 by_cases h2:cH (yY es lg) lg.length=true
 case neg=>rw[YY]at h2;rw[h2];simp
 by_cases h3:cH (xP es fr sp lg) es.length=true
 case neg=>rw[YY]at h3;rw[h3];simp
 by_cases h4:Io es sp lg=true
 case neg=>rw[YY]at h4;rw[h4];simp
 rw[h1,h2,h3,h4];simp only[YE];have h4':=VP h4;have mp:∀ q:Int,0<=q->q<es.length->(peM es q≠0↔q∈v7 sp lg):=by
  intro q q0 q1;have e:=dp.1 h3 q q0 q1;unfold xP at e;simp only[Zc,beq_iff_eq]at e;have e:=e.1;unfold mapB ownB at e
  constructor
  ·intro h;rw[VK h]at e;exact VP e.symm
  ·intro h;rw[VK h]at e;exact VP e
 have spg:∀ n:Nat,n<sp.length->ag sp n 0∈v7 sp lg:=fun n hn=>Zg.2 (.inl (oG.2 ⟨n,hn,rfl⟩))
 have spm:∀ n:Nat,n<sp.length->0<=ag sp n 0/\ag sp n 0<es.length/\peM es (ag sp n 0)≠0:=by
  intro n hn;have b:=MQ hl (spg n hn);have c:=h4' _ (spg n hn);exact⟨b.1,c,(mp _ b.1 c).2 (spg n hn)⟩
 have sat:∀ n:Nat,n<sp.length->spI sp (ag sp n 0)=n:=by
  intro n hn;have q:=qj (p:=isSp sp (ag sp n 0)) hn (sK rfl);obtain⟨q1,q2⟩:=kF q;obtain⟨m,e⟩:=ZV q;have e':spI sp (ag sp n 0)=m:=e;rw[e]at q1 q2;have:=F.ss m n (by omega) hn (VP q2);rw[e',this]
 refine fU ?_;unfold smS;rw[dp,dp]
 constructor
 ·intro h i i0 i1;unfold msA;rw[dp];intro k k0 k1;obtain⟨ii,rfl⟩:=ZV i0;obtain⟨kk,rfl⟩:=ZV k0;have hx:hasB (fpg es (ag sp ii 0)) (ag (fpg es (ag sp ii 0)) kk 0)=true:=yQ.2 ⟨kk,by omega,rfl⟩;generalize hX:ag (fpg es (ag sp ii 0)) kk 0=x at hx;obtain⟨c1,c2,c3,c4,c5⟩:=t9.1 hx;have hp:=(mp x c2 c3).1 c4;unfold v7 at hp;rw[Zg,oG,qu]at hp;unfold H6;rw[hX];rcases hp with⟨n,n1,rfl⟩|⟨j,j1,e1,e2⟩
  ·rw[sat n n1];rcases XA n ii with c|c|c
   ·have q:=dp.1 (h ii (by omega) i1) n (by omega) (by omega);unfold Gd at q;rw[c5,VK rfl]at q;rw[show vT sp ii n=true from by simpa using q,VK (p:=(0:Int)<=n) (by omega)];simp
   ·rw[c,VK rfl];rfl
   ·have q:=dp.1 (h n (by omega) (by omega)) ii (by omega) (by omega);unfold Gd at q;rw[c5,VK rfl]at q;have q':vT sp n ii=true:=by simpa using q
    rw[Ie,q',VK (p:=(0:Int)<=n) (by omega)];simp
  ·exfalso;have t:=k7 (F.l j j1);have b:=ku t.1;have q:=fS h2 j j1;unfold yY at q;simp only[Zc]at q;have q2:=dp.1 q.2 (x-ag lg j 0) (by omega) (by omega);rw[show ag lg j 0+(x-ag lg j 0)=x from by omega]at q2;have q3:=VP q2;have s1:=spm ii (by omega);have a1:hasB (fpg es x) x=true:=t9.2 ⟨c4,c2,c3,c4,rfl⟩;have a2:hasB (fpg es x) (ag sp ii 0)=true:=t9.2 ⟨c4,s1.1,s1.2.1,s1.2.2,c5.symm⟩;obtain⟨u,u1,u2⟩:=yQ.1 a1;obtain⟨v,v1,v2⟩:=yQ.1 a2;have:u=v:=by omega
   subst this;rw[u2]at v2;exact F.sl ii j (by omega) j1 (by omega) (by omega)
 ·intro h i i0 i1;unfold JA;rw[dp];intro j j0 j1;obtain⟨ii,rfl⟩:=ZV i0;obtain⟨jj,rfl⟩:=ZV j0;unfold Gd;by_cases c:peF es (ag sp ii 0)=peF es (ag sp jj 0)
  case neg=>rw[VL c];rfl
  have s1:=spm ii (by omega);have s2:=spm jj (by omega);have a:hasB (fpg es (ag sp ii 0)) (ag sp jj 0)=true:=t9.2 ⟨s1.2.2,s2.1,s2.2.1,s2.2.2,c.symm⟩;obtain⟨k,k1,k2⟩:=yQ.1 a;have q:=h ii (by omega) i1;unfold msA at q;have q:=fS q k k1;unfold H6 at q;rw[k2,sat jj (by omega),VL (p:=(jj:Int)=ii) (by omega)]at q;simp only[Bool.false_or,Zc]at q;rw[q.2,WI]
end
end Go.V
namespace Go.V
def jobZ (k m:Int)(cs:af)(ph nx:Int):Bool:=decide (ph=0)&&(decide (nx=0)&&(decide (k=0)&&(decide (m=0)&&decide (cs.length=0))))
def vM (sp:af)(me:Bool)(k m:Int)(cs:af)(ph nx:Int):Bool:=
 bif me then(jbOk k m cs ph nx&&(decide (0<=spI sp k)&&decide (0<=spI sp m)))else jobZ k m cs ph nx
def LU (cs:af)(i:Int):Bool:=caOk (ax cs i 0)
def hpI (a0 a1 a2:af)(a3:Int)(a4 a5 a6 a7 a8 a9 aA aB:af)(aC:Int)(aD:af)(aE aF aG aH:Int)(aI:Bool)(aJ aK:Int)(aL:af)(aM aN:Int):Bool:=
 kerOk a0 a1 a2 a3 a4&&(rgOk a2.length a5&&(layOk a6 a7&&(pgI a2 a5 a6 a7&&(mailOk aA aB&&(decide (a9.length=aA.length)&&(quarOk aC aD&&(cH (LU a9) a9.length&&
  (objOk a6 a7 a8 a9 aH&&(hoI a6 a7 a8 a9 aA aB aD aF&&(inR aE 0 1073741823&&(inR aF 0 1000000&&(inR aG 0 1000&&(inR aH 1 1000000&&vM a6 aI aJ aK aL aM aN)))))))))))))
structure HpN (a0 a1 a2 a4 a5 a6 a7 a8 a9 aA aB aD aL:af):Prop where
 n:JM a6 a7 a8 a9 aA aB aD
 c:Rw [.sl [tI]] a0
 u:Rw [tB] a1
 e:Rw [tI,tI] a2
 el:a2.length<=1073741824
 r:Rw [tI] a4
 f:Rw [tI,tI] a5
 fl:a5.length<=1073741824
 j:Rw [tI] aL
 jl:aL.length<=1073741824
section
variable {a0 a1 a2: af} {a3: Int} {a4 a5 a6 a7 a8 a9 aA aB: af} {aC: Int} {aD: af} {aE aF aG aH: Int} {aI: Bool} {aJ aK: Int} {aL: af} {aM aN: Int} {i: Int}
theorem R9 (h:kerOk a0 a1 a2 a3 a4=false):hpI a0 a1 a2 a3 a4 a5 a6 a7 a8 a9 aA aB aC aD aE aF aG aH aI aJ aK aL aM aN=false:=by unfold hpI;rw[h];simp
theorem Si (h:rgOk a2.length a5=false):hpI a0 a1 a2 a3 a4 a5 a6 a7 a8 a9 aA aB aC aD aE aF aG aH aI aJ aK aL aM aN=false:=by unfold hpI;rw[h];simp
theorem Sc (h:layOk a6 a7=false):hpI a0 a1 a2 a3 a4 a5 a6 a7 a8 a9 aA aB aC aD aE aF aG aH aI aJ aK aL aM aN=false:=by unfold hpI;rw[h];simp
theorem Oo (h:pgI a2 a5 a6 a7=false):hpI a0 a1 a2 a3 a4 a5 a6 a7 a8 a9 aA aB aC aD aE aF aG aH aI aJ aK aL aM aN=false:=by unfold hpI;rw[h];simp
theorem Sd (h:mailOk aA aB=false):hpI a0 a1 a2 a3 a4 a5 a6 a7 a8 a9 aA aB aC aD aE aF aG aH aI aJ aK aL aM aN=false:=by unfold hpI;rw[h];simp
theorem acK (h:decide (a9.length=aA.length)=false):hpI a0 a1 a2 a3 a4 a5 a6 a7 a8 a9 aA aB aC aD aE aF aG aH aI aJ aK aL aM aN=false:=by unfold hpI;rw[h];simp
theorem Sg (h:quarOk aC aD=false):hpI a0 a1 a2 a3 a4 a5 a6 a7 a8 a9 aA aB aC aD aE aF aG aH aI aJ aK aL aM aN=false:=by unfold hpI;rw[h];simp
theorem acJ (h:cH (LU a9) a9.length=false):hpI a0 a1 a2 a3 a4 a5 a6 a7 a8 a9 aA aB aC aD aE aF aG aH aI aJ aK aL aM aN=false:=by unfold hpI;rw[h];simp
theorem On (h:objOk a6 a7 a8 a9 aH=false):hpI a0 a1 a2 a3 a4 a5 a6 a7 a8 a9 aA aB aC aD aE aF aG aH aI aJ aK aL aM aN=false:=by unfold hpI;rw[h];simp
theorem Om (h:hoI a6 a7 a8 a9 aA aB aD aF=false):hpI a0 a1 a2 a3 a4 a5 a6 a7 a8 a9 aA aB aC aD aE aF aG aH aI aJ aK aL aM aN=false:=by unfold hpI;rw[h];simp
theorem Sj (h:inR aE 0 1073741823=false):hpI a0 a1 a2 a3 a4 a5 a6 a7 a8 a9 aA aB aC aD aE aF aG aH aI aJ aK aL aM aN=false:=by unfold hpI;rw[h];simp
theorem Sl (h:inR aF 0 1000000=false):hpI a0 a1 a2 a3 a4 a5 a6 a7 a8 a9 aA aB aC aD aE aF aG aH aI aJ aK aL aM aN=false:=by unfold hpI;rw[h];simp
theorem Sn (h:inR aG 0 1000=false):hpI a0 a1 a2 a3 a4 a5 a6 a7 a8 a9 aA aB aC aD aE aF aG aH aI aJ aK aL aM aN=false:=by unfold hpI;rw[h];simp
theorem Sv (h:inR aH 1 1000000=false):hpI a0 a1 a2 a3 a4 a5 a6 a7 a8 a9 aA aB aC aD aE aF aG aH aI aJ aK aL aM aN=false:=by unfold hpI;rw[h];simp
theorem Mp (h:(a9.length:Int)≠aA.length):hpI a0 a1 a2 a3 a4 a5 a6 a7 a8 a9 aA aB aC aD aE aF aG aH aI aJ aK aL aM aN=false:=acK (VL (by omega))
theorem Mn (i0:0<=i)(i1:i<a9.length)(h:caOk (ax a9 i 0)=false):hpI a0 a1 a2 a3 a4 a5 a6 a7 a8 a9 aA aB aC aD aE aF aG aH aI aJ aK aL aM aN=false:=acJ (bP i0 i1 h)
theorem Hs (hk:kerOk a0 a1 a2 a3 a4=true)(hr:rgOk a2.length a5=true)(hl:layOk a6 a7=true)(hp:pgI a2 a5 a6 a7=true)(hm:mailOk aA aB=true)(hn:decide (a9.length=aA.length)=true)(hq:quarOk aC aD=true)(hc:cH (LU a9) a9.length=true)(ho:objOk a6 a7 a8 a9 aH=true)(hh:hoI a6 a7 a8 a9 aA aB aD aF=true)(hs:inR aE 0 1073741823=true)(ht:inR aF 0 1000000=true)(hw:inR aG 0 1000=true)(hx:inR aH 1 1000000=true):hpI a0 a1 a2 a3 a4 a5 a6 a7 a8 a9 aA aB aC aD aE aF aG aH aI aJ aK aL aM aN=vM a6 aI aJ aK aL aM aN:=by unfold hpI;rw[hk,hr,hl,hp,hm,hn,hq,hc,ho,hh,hs,ht,hw,hx];rfl
structure HpT (a0 a1 a2:af)(a3:Int)(a4 a5 a6 a7 a8 a9 aA aB:af)(aC:Int)(aD:af)(aE aF aG aH:Int)(aI:Bool)(aJ aK:Int)(aL:af)(aM aN:Int):Prop where
 k:kerOk a0 a1 a2 a3 a4=true
 r:rgOk a2.length a5=true
 l:layOk a6 a7=true
 p:pgI a2 a5 a6 a7=true
 m:mailOk aA aB=true
 n:decide (a9.length=aA.length)=true
 q:quarOk aC aD=true
 c:cH (LU a9) a9.length=true
 o:objOk a6 a7 a8 a9 aH=true
 h:hoI a6 a7 a8 a9 aA aB aD aF=true
 s:inR aE 0 1073741823=true
 t:inR aF 0 1000000=true
 w:inR aG 0 1000=true
 x:inR aH 1 1000000=true
 j:vM a6 aI aJ aK aL aM aN=true
theorem DW (h:hpI a0 a1 a2 a3 a4 a5 a6 a7 a8 a9 aA aB aC aD aE aF aG aH aI aJ aK aL aM aN=true):HpT a0 a1 a2 a3 a4 a5 a6 a7 a8 a9 aA aB aC aD aE aF aG aH aI aJ aK aL aM aN:=by
 unfold hpI at h;simp only[Zc]at h;obtain⟨hk,hr,hl,hp,hm,hn,hq,hc,ho,hh,hs,ht,hw,hx,hj⟩:=h;exact⟨hk,hr,hl,hp,hm,hn,hq,hc,ho,hh,hs,ht,hw,hx,hj⟩
theorem Mr (h:jbOk aJ aK aL aM aN=false):false=vM a6 true aJ aK aL aM aN:=by unfold vM;rw[h];rfl
theorem Ms (h:spI a6 aJ<0):false=vM a6 true aJ aK aL aM aN:=by unfold vM;rw[VL (p:=0<=spI a6 aJ) (by omega)];simp
theorem Mt (h:jbOk aJ aK aL aM aN=true)(g:0<=spI a6 aJ):cU .geq (spI a6 aK) 0=vM a6 true aJ aK aL aM aN:=by unfold vM;rw[h,VK g];rfl
theorem aa7 (h:cH (sA aD aF) aD.length=false)(hl:layOk a6 a7=true)(ho:objOk a6 a7 a8 a9 aH=true):hoI a6 a7 a8 a9 aA aB aD aF=false:=by rw[Hq hl ho,h,Z4]
theorem Sk (i0:0<=i)(i1:i<aD.length)(h:aF<ag aD i 2)(hl:layOk a6 a7=true):hpI a0 a1 a2 a3 a4 a5 a6 a7 a8 a9 aA aB aC aD aE aF aG aH aI aJ aK aL aM aN=false:=by
 by_cases ho:objOk a6 a7 a8 a9 aH=true;exact Om (aa7 (bP i0 i1 (by unfold sA;exact VL (by omega))) hl ho);exact On (by simpa using ho)
theorem Sf (hl:layOk a6 a7=true)(h:pgS a2 a5 a6 a7=false):hpI a0 a1 a2 a3 a4 a5 a6 a7 a8 a9 aA aB aC aD aE aF aG aH aI aJ aK aL aM aN=false:=Oo (by rw[IC hl,h];rfl)
theorem Se (hl:layOk a6 a7=true)(h:smS a2 a6=false):hpI a0 a1 a2 a3 a4 a5 a6 a7 a8 a9 aA aB aC aD aE aF aG aH aI aJ aK aL aM aN=false:=Oo (by rw[IC hl,h,Z4])
theorem R8 (hl:layOk a6 a7=true)(ho:objOk a6 a7 a8 a9 aH=true)(h:hoS a6 a7 a8 a9 aA aB aD=false):hpI a0 a1 a2 a3 a4 a5 a6 a7 a8 a9 aA aB aC aD aE aF aG aH aI aJ aK aL aM aN=false:=Om (by rw[Hq hl ho,h];rfl)
theorem adu (hl:layOk a6 a7=true)(h:pgS a2 a5 a6 a7=true)(g:smS a2 a6=true):pgI a2 a5 a6 a7=true:=by rw[IC hl,h,g];rfl
theorem acI (hl:layOk a6 a7=true)(ho:objOk a6 a7 a8 a9 aH=true)(h:hoS a6 a7 a8 a9 aA aB aD=true)(i2:(aD.length:Int)<=i)(g:upto (sA aD aF) i):hoI a6 a7 a8 a9 aA aB aD aF=true:=by rw[Hq hl ho,h,bJ g i2];rfl
theorem adZ (h:ag aD i 2<=aF):sA aD aF i=true:=VK h
end
end Go.V
namespace Go.V
def obD (a s ad:Int):Bool:=inR ad a (bK .sub Za (bK .add Za a s) 1)
def TT (os:af)(ad j:Int):Bool:=obD (ag os j 1) (ag os j 2) ad
def ofI (os:af)(ad:Int):Int:=cR (TT os ad) os.length
def ooI (b:Bool)(os:af)(ad:Int):Int:=if b=true then ofI os ad else-1
theorem adq {b:Bool}{os:af}{ad:Int}(h:b=false):ooI b os ad= -1:=by subst h;rfl
theorem adr {b:Bool}{os:af}{ad:Int}(h:b=true):ooI b os ad=ofI os ad:=by subst h;rfl
structure ObB (os:af):Prop where
 w:Rw [tI,tI,tI,tI] os
 l:os.length<=1099511627776
 b:∀ i:Int,0<=i->i<os.length->0<=ag os i 1/\ag os i 1<=2000/\1<=ag os i 2/\ag os i 2<=1000
end Go.V
namespace Go.V
def FH (es:af):Nat->Int
 |0=>0
 |n+1=>if ag es n 0=0 then FH es n else FH es n+1
def mpT (es:af):Int:=FH es es.length
theorem Ic {es:af}:∀ {n:Nat},0<=FH es n/\FH es n<=n
 |0=>⟨Yd _,Yd _⟩
 | n+1=>by
   have:=Ic (es:=es) (n:=n);unfold FH;split<;>omega
theorem Pi {es:af}{i:Int}(i1:i<=es.length)(i2:(es.length:Int)<=i):FH es i.toNat=mpT es:=by unfold mpT;rw[show i.toNat=es.length by omega]
theorem TD {es:af}{i:Int}(i0:0<=i)(h:ag es i 0=0):FH es (i+1).toNat=FH es i.toNat:=by
 obtain⟨k,rfl⟩:=ZV i0;rw[show((k:Int)+1).toNat=k+1 by omega,show(k:Int).toNat=k by omega];show(if ag es k 0=0 then _ else _)=_;rw[VN h]
theorem Pj {es:af}{i:Int}(i0:0<=i)(h:ag es i 0≠0):FH es (i+1).toNat=FH es i.toNat+1:=by
 obtain⟨k,rfl⟩:=ZV i0;rw[show((k:Int)+1).toNat=k+1 by omega,show(k:Int).toNat=k by omega];show(if ag es k 0=0 then _ else _)=_;rw[VO h]
def hlV (o v:Int):Int:=if o<0 then 0 else v
def hlK (o:Int):Int:=if o<0 then 1 else 0
theorem Mm {o v:Int}(h:o<0):hlV o v=0/\hlK o=1:=by unfold hlV hlK;rw[VN h,VN h];exact⟨rfl,rfl⟩
theorem Ho {o v:Int}(h:¬ o<0):hlV o v=v/\hlK o=0:=by unfold hlV hlK;rw[VO h,VO h];exact⟨rfl,rfl⟩
def sfI (b:Bool)(m u:Int):Int:=if b=true then bK .sub Za m u else 0
end Go.V
namespace Go.V
def BW (us:af):Nat->Int
 |0=>0
 |n+1=>if pf us n 0=true then BW us n+1 else BW us n
theorem Ja {us:af}:∀ {n:Nat},0<=BW us n/\BW us n<=n
 |0=>by simp[BW]
 | n+1=>by
   have:=Ja (us:=us) (n:=n);unfold BW;split<;>omega
theorem Lr {us:af}{i:Int}(hi:0<=i)(h:pf us i 0=true):BW us (i+1).toNat=BW us i.toNat+1:=by
 have e:((i.toNat:Nat):Int)=i:=Zp hi;rw[show(i+1).toNat=i.toNat+1 from by omega,BW,VN (by rw[e];exact h)]
theorem Qf {us:af}{i:Int}(hi:0<=i)(h:pf us i 0=false):BW us (i+1).toNat=BW us i.toNat:=by
 have e:((i.toNat:Nat):Int)=i:=Zp hi;rw[show(i+1).toNat=i.toNat+1 from by omega,BW,VO (by rw[e,h];decide)]
def ufN (cs us:af):Int:=if framesOk cs us=true then BW us us.length else 0
theorem Qe {cs us:af}{i:Int}(h:framesOk cs us=true)(h0:i<=us.length)(h1:(us.length:Int)<=i):ufN cs us=BW us i.toNat:=by
 unfold ufN;rw[VN h,show i.toNat=us.length by omega]
theorem abc {cs us:af}(h:framesOk cs us=false):ufN cs us=0:=by unfold ufN;rw[h];rfl
def ldV (cs us es:af)(a:Int):Int:=if machOk cs us es=true/\FE es a≠0 then ag (ax cs (Jz es a) 0) (HS a) 0 else 0
def ldK (cs us es:af)(a:Int):Int:=if machOk cs us es=true/\FE es a≠0 then 0 else 1
theorem OS {cs us es:af}{a:Int}(h:machOk cs us es=true)(h1:FE es a≠0):ldV cs us es a=ag (ax cs (Jz es a) 0) (HS a) 0/\ldK cs us es a=0:=by unfold ldV ldK;rw[VN ⟨h,h1⟩,VN ⟨h,h1⟩];exact⟨rfl,rfl⟩
theorem Mz {cs us es:af}{a:Int}(h:machOk cs us es=false\/FE es a=0):ldV cs us es a=0/\ldK cs us es a=1:=by
 have:¬ (machOk cs us es=true/\FE es a≠0):=by rintro⟨x,y⟩;rcases h with q|q;rw[x]at q;cases q;exact y q
 unfold ldV ldK;rw[VO this,VO this];exact⟨rfl,rfl⟩
theorem OQ {cs us es:af}{a:Int}(h:smM cs us es a=0):ldV cs us es a=0/\ldK cs us es a=1:=by
 cases q:machOk cs us es with
 |false=>exact Mz (.inl q)
 |true=>exact Mz (.inr (by rw[<- (rY q).1];exact h))
theorem OR {cs us es:af}{a:Int}(h:smM cs us es a≠0):ldV cs us es a=ag (ax cs (smF cs us es a) 0) (a%16) 0/\ldK cs us es a=0:=by
 have ok:=EZ h;have sy:=rY (a:=a) ok.1;have q:=OS ok.1 (by rw[<-sy.1];exact h);exact⟨by rw[q.1,sy.2,(vO (es:=es) (by omega)).2.2],q.2⟩
end Go.V
namespace Go.V
end Go.V
namespace Go.V
end Go.V
namespace Go.V
structure PgT (es fr sp lg:af):Prop where
 l:∀ j:Nat,j<lg.length->∀ q:Int,ag lg j 0<=q->q<ag lg j 0+ag lg j 1->(fpg es q).length=1
 m:∀ q:Int,0<=q->q<es.length->(peM es q≠0↔q∈v7 sp lg)
 o:∀ q∈v7 sp lg,q<es.length
 c:∀ i j:Nat,i<sp.length->j<sp.length->peF es (ag sp i 0)=peF es (ag sp j 0)->ag sp i 1=ag sp j 1
end Go.V
namespace Go.V
def poN (sp lg fl:af):Nat->Int
 |0=>0
 |n+1=>poN sp lg fl n+clsSz (ag sp (dnI sp lg (ag fl n 0)) 1)
def ocF (s:Int):Int:=if 0<=clsOf s then clsSz (clsOf s)else s
def ocN (os:af):Nat->Int
 |0=>0
 |n+1=>ocN os n+ocF (ag os n 2)
end Go.V
namespace Go.V
end Go.V
namespace Go.V
def ceI (cs es:af)(a:Int):Int:=ag (ax cs (peF es (a/16)) 0) (a%16) 0
def clN (cs es:af)(a:Int):Nat->af
 |0=>[]
 |n+1=>clN cs es a n++[[.i (ceI cs es (a+n))]]
structure ClP (cs es:af)(a i:Int)(o:af):Prop where
 e:o=clN cs es a i.toNat
structure ObC (cs es os:af):Prop where
 b:ObB os
 f:∀ j:Int,0<=j->j<os.length->∀ i:Int,0<=i->i<ag os j 2->0<=peF es ((ag os j 1+i)/16)/\peF es ((ag os j 1+i)/16)<cs.length/\(ax cs (peF es ((ag os j 1+i)/16)) 0).length=16
end Go.V
namespace Go.V
end Go.V
namespace Go.V
def Ld (k b:Int):Nat->af
 |0=>[]
 |n+1=>if hsB b ((n:Int)/clsSz k)=true then Ld k b n++[[.i n]]else Ld k b n
def PW (p k b:Int):af:=if spOk p k b=true then Ld k b 16 else[]
structure aet (k b i:Int)(o:af):Prop where
 e:o=Ld k b i.toNat
def scS (sp:af):Nat->Int
 |0=>0
 |n+1=>scS sp n+(PW (ag sp n 0) (ag sp n 1) (ag sp n 2)).length
def lgS (lg:af):Nat->Int
 |0=>0
 |n+1=>lgS lg n+ag lg n 2
def NH (ls:af):Nat->Int
 |0=>0
 |n+1=>NH ls n+(ax ls n 0).length*clsSz n
end Go.V
namespace Go.V
structure MkP (f:Int->Bool)(o:af):Prop where
 w:Rw [tB] o
 l:o.length=16
 v:∀ c:Int,0<=c->c<16->pf o c 0=f c
end Go.V
namespace Go.V
theorem ack {ls:af}(h:caOk ls=true):ls.length=4/\∀ n:Nat,n<4->(ax ls n 0).length<=8:=by
 unfold caOk at h;simp only[Zc,VM]at h;refine⟨h.1,fun n hn=>?_⟩;have t:=dp.1 h.2.1 n (by omega) (by omega);unfold J6 at t;simp only[Zc,VM]at t;exact t.1
def ceC (ls:af):Int:=if caOk ls=true then NH ls ls.length else 0
structure aep (ls:af)(i t:Int):Prop where
 e:t=NH ls i.toNat
def acN (cs:af):Nat->Int
 |0=>0
 |n+1=>acN cs n+ceC (ax cs n 0)
structure AcP (cs:af)(i t:Int):Prop where
 e:t=acN cs i.toNat
structure OcP (os:af)(i t:Int):Prop where
 e:t=ocN os i.toNat
structure PoP (sp lg fl:af)(i t:Int):Prop where
 e:t=poN sp lg fl i.toNat
structure aeu (sp:af)(i t:Int):Prop where
 e:t=scS sp i.toNat
structure aer (sp lg:af)(i t:Int):Prop where
 e:t=scS sp sp.length+lgS lg i.toNat
def zlI (es:af):Int:=es.length
end Go.V
namespace Go.V
section
variable {r0 r1 r2 r3 r4 r5 r6 r7 r8 r9 r10 r11 r12: af}
theorem LY {n:Nat}(h:xK [r0,r1,r2,r3,r4,r5,r6,r7,r8,r9,r10,r11,r12]<=n):bj r0<=n/\bj r1<=n/\bj r2<=n/\bj r3<=n/\bj r4<=n/\bj r5<=n/\bj r6<=n/\bj r7<=n/\bj r8<=n/\bj r9<=n/\bj r10<=n/\bj r11<=n/\bj r12<=n:=⟨fu h (by simp),fu h (by simp),fu h (by simp),fu h (by simp),fu h (by simp),fu h (by simp),fu h (by simp),fu h (by simp),fu h (by simp),fu h (by simp),fu h (by simp),fu h (by simp),fu h (by simp)⟩
end
end Go.V
namespace Go.V
def dlT (b:af)(f:Int):Int:=ag (ax b f 0) 0 0
structure DlT (b x:af)(f:Int):Prop where
 m:mailOk b x=true
 f0:0<=f
 f1:f<b.length
 n:0<(ax b f 0).length
 t0:0<=dlT b f
 t1:dlT b f<b.length
 l:x.length=b.length
end Go.V
namespace Go.V
def hsC (k:Bool)(cs us es os:af)(a v:Int):af:=if 0<=ooI k os a then stC cs us es a v else cs
def hsK (k:Bool)(cs us es os:af)(a v:Int):Int:=if 0<=ooI k os a then(if stK cs us es a v=2 then 2 else if stK cs us es a v=3 then 3 else 0)else 1
theorem SB {k:Bool}{cs us es os:af}{a v:Int}(h:ooI k os a<0):hsC k cs us es os a v=cs/\hsK k cs us es os a v=1:=by
 unfold hsC hsK;rw[VO (by omega),VO (by omega)];exact⟨rfl,rfl⟩
theorem rJ {k:Bool}{cs us es os:af}{a v:Int}(h:0<=ooI k os a):hsC k cs us es os a v=stC cs us es a v/\hsK k cs us es os a v=if stK cs us es a v=2 then 2 else if stK cs us es a v=3 then 3 else 0:=by
 unfold hsC hsK;rw[VN h,VN h];exact⟨rfl,rfl⟩
theorem acO {k:Bool}{cs us es os:af}{a v:Int}(h:0<=ooI k os a)(q:stK cs us es a v=2):hsC k cs us es os a v=cs/\hsK k cs us es os a v=2:=by
 rw[(rJ h).1,(rJ h).2,VN q];refine⟨?_,rfl⟩;unfold stC;rw[VO (by omega)]
theorem acP {k:Bool}{cs us es os:af}{a v:Int}(h:0<=ooI k os a)(q:stK cs us es a v=3):hsC k cs us es os a v=cs/\hsK k cs us es os a v=3:=by
 rw[(rJ h).1,(rJ h).2,VO (by omega),VN q];refine⟨?_,rfl⟩;unfold stC;rw[VO (by omega)]
theorem acM {k:Bool}{cs us es os:af}{a v:Int}(h:0<=ooI k os a)(q:stK cs us es a v≠2)(r:stK cs us es a v≠3):hsC k cs us es os a v=stC cs us es a v/\hsK k cs us es os a v=0:=by
 rw[(rJ h).1,(rJ h).2,VO q,VO r];exact⟨rfl,rfl⟩
structure HsT (cs us es:af)(a:Int):Prop where
 a0:0<=a
 m:smM cs us es a=peM es (a/16)
 f:smF cs us es a=peF es (a/16)
 n:smM cs us es a≠0
section
variable {a0 a1 a2: af} {a3: Int} {a4 a5 a6 a7 a8 a9 aA aB: af} {aC: Int} {aD: af} {aE aF aG aH: Int} {aI: Bool} {aJ aK: Int} {aL: af} {aM aN: Int}
end
end Go.V
namespace Go.V
abbrev Pr :=Int×Int
def jnS (o:List Pr)(x:Pr):List Pr:=match o.getLast? with
 |some y=>if y.1+y.2=x.1 then o.dropLast++[(y.1,y.2+x.2)]else o++[x]
 |none=>o++[x]
structure Ip where
 o:List Pr
 r:Pr
 d:Bool
def ipS (s:Ip)(x:Pr):Ip:=
 if x.1+x.2=s.r.1 then⟨s.o,(x.1,x.2+s.r.2),s.d⟩
 else if s.r.1+s.r.2=x.1 then⟨s.o,(s.r.1,s.r.2+x.2),s.d⟩
 else if s.r.1<x.1/\s.d=false then⟨s.o++[s.r,x],s.r,true⟩
 else⟨s.o++[x],s.r,s.d⟩
def ipE (s:Ip):List Pr:=if s.d then s.o else s.o++[s.r]
def ipL (l:List Pr)(r:Pr):List Pr:=ipE (l.foldl ipS ⟨[],r,false⟩)
structure Sp where
 o:List Pr
 d:Bool
def rsS (r:Pr)(s:Sp)(x:Pr):Sp:=if s.d=false/\r.1<x.1 then⟨s.o++[r]++[x],true⟩else⟨s.o++[x],s.d⟩
def chP:List Pr->Prop
 |[]=>True
 |[x]=>0<x.2
 |x::y::l=>0<x.2/\x.1+x.2<y.1/\chP (y::l)
end Go.V
namespace Go.V
structure mX (cs us es:af):Prop where
 n0:1<=cs.length
 n1:cs.length<=32
 u:us.length=cs.length
 l:∀ i:Int,0<=i->i<cs.length->(ax cs i 0).length=16
 c:∀ i k:Int,0<=i->i<cs.length->0<=k->k<16->0<=ag (ax cs i 0) k 0/\ag (ax cs i 0) k 0<=999/\(pf us i 0=false->ag (ax cs i 0) k 0=0)
 e0:1<=es.length
 e1:es.length<=32
 e:∀ i:Int,0<=i->i<es.length->0<=ag es i 0/\ag es i 0<=2/\(ag es i 0=0->ag es i 1=0)/\(0<ag es i 0->0<=ag es i 1/\ag es i 1<cs.length)
 m:∀ i:Int,0<=i->i<cs.length->pf us i 0=fy es i
theorem O6 {cs us es:af}(h:machOk cs us es=true):mX cs us es:=by
 obtain⟨h1,h2,h3⟩:=H8 h;have a:=pE h1;have b:=wB h2;refine⟨a.2.1,a.2.2,a.1,fun i i0 i1=>Mg h1 i0 i1,fun i k i0 i1 k0 k1=>?_,b.1,b.2,fun i i0 i1=>M8 h2 i0 i1,h3⟩;have q:=h1;unfold framesOk at q;simp only[Zc,VM]at q;have r:=dp.1 q.2 i i0 i1;unfold gu at r;simp only[Zc,VM]at r;have s:=dp.1 r.2 k k0 (by omega);unfold kP at s;simp only[Zc,Yc,VM]at s;have t:=bz.1 s.1;refine⟨t.1,t.2,fun f=>?_⟩;rcases s.2 with w|w
 ·rw[f]at w;cases w
 ·exact w
theorem O7 {cs us es:af}(h:mX cs us es):machOk cs us es=true:=by
 have f:framesOk cs us=true:=Cl (i:=cs.length) (bz.2 ⟨by have:=h.n0;omega,by have:=h.n1;omega⟩) h.u (fun i i0 i1=>Hg (k:=16) (h.l i i0 i1) (fun k k0 k1=>by
  have c:=h.c i k i0 i1 k0 k1;refine GQ (bz.2 ⟨c.1,c.2.1⟩) ?_;cases q:pf us i 0 with
  |true=>exact .inl rfl
  |false=>exact .inr (c.2.2 q)) (Yd _)) (Yd _)
 have t:tableOk es us.length=true:=by
  rw[Da (i:=es.length) (fun i i0 i1=>I9 (by have:=h.e i i0 i1;rw[h.u];exact this)) (Yd _)];exact bz.2 ⟨by have:=h.e0;omega,by have:=h.e1;omega⟩
 exact y7 (i:=us.length) f t (fun i i0 i1=>Ej (h.m i i0 (by rw[h.u]at i1;exact i1))) (Yd _)
theorem H9 {es:af}{f:Int}:∀ {n:Nat},0<(s8 es f n).length↔∃ i:Nat,i<n/\ag es i 0≠0/\ag es i 1=f
 |0=>⟨fun h=>absurd h (Nat.lt_irrefl _),fun⟨i,h,_⟩=>absurd h (by omega)⟩
 | n+1=>by
   by_cases c:ag es n 0≠0/\ag es n 1=f
   ·rw[s8,VN c,Ze];exact⟨fun _=>⟨n,by omega,c⟩,fun _=>by simp only[Zr,Zt];omega⟩
   ·rw[s8,VO c,H9 (n:=n)]
    constructor
    ·rintro⟨i,h,q⟩;exact⟨i,by omega,q⟩
    ·rintro⟨i,h,q⟩;by_cases z:i=n
     ·subst z;exact absurd q c
     ·exact⟨i,by omega,q⟩
theorem nJ {es:af}{f:Int}:fy es f=true↔∃ i:Nat,i<es.length/\ag es i 0≠0/\ag es i 1=f:=yZ.trans H9
theorem lD {es:af}{n i:Nat}{r:aO}(h:n<es.length):(es.set n r).getD i []=if i=n then r else es.getD i []:=by
 simp only[Zo,List.getElem?_set];by_cases c:n=i
 ·subst c;rw[VN rfl,VN h,VN rfl];rfl
 ·rw[VO c,VO (Ne.symm c)]
theorem giS {es:af}{n i:Int}{r:aO}{j:Nat}(n0:0<=n)(n1:n<es.length)(i0:0<=i):ag (es.set n.toNat r) i j=if i=n then KH (r.getD j .g)else ag es i j:=by
 unfold ag;rw[lD (by omega)];by_cases c:i=n
 ·rw[VN (by omega),VN c]
 ·rw[VO (by omega),VO c]
theorem gbS {es:af}{n i:Int}{r:aO}{j:Nat}(n0:0<=n)(n1:n<es.length)(i0:0<=i):pf (es.set n.toNat r) i j=if i=n then lfB (r.getD j .g)else pf es i j:=by
 unfold pf;rw[lD (by omega)];by_cases c:i=n
 ·rw[VN (by omega),VN c]
 ·rw[VO (by omega),VO c]
theorem gsS {es:af}{n i:Int}{r:aO}{j:Nat}(n0:0<=n)(n1:n<es.length)(i0:0<=i):ax (es.set n.toNat r) i j=if i=n then MB (r.getD j .g)else ax es i j:=by
 unfold ax;rw[lD (by omega)];by_cases c:i=n
 ·rw[VN (by omega),VN c]
 ·rw[VO (by omega),VO c]
def Ap (es:af)(p:Int):af:=es.set p.toNat [.i 0,.i 0]
def dfU (us es:af)(f:Int):af:=if fy es f=true then us else us.set f.toNat [.v (.bool false)]
def dfC (cs es:af)(f:Int):af:=if fy es f=true then cs else cs.set f.toNat [.s 1 (C0 16 [.i 0])]
theorem Ko {k:Int}(k0:0<=k)(k1:k<16):ag (C0 16 [.i 0]) k 0=0:=by
 show ag (Zl 16 [L.i 0]) k 0=0;unfold ag;rw[Zo (l:=Zl _ _),List.getElem?_replicate,VN (by omega)];rfl
theorem Rr {cs us es es':af}{f:Int}(h:mX cs us es)(f0:0<=f)(f1:f<cs.length)(l:es'.length=es.length) 
 (e:∀ i:Int,0<=i->i<es.length->0<=ag es' i 0/\ag es' i 0<=2/\(ag es' i 0=0->ag es' i 1=0)/\(0<ag es' i 0->0<=ag es' i 1/\ag es' i 1<cs.length))
 (m:∀ i:Int,0<=i->i<cs.length->i≠f->fy es' i=fy es i) (g:fy es' f=true->fy es f=true):mX (dfC cs es' f) (dfU us es' f) es':=by
 unfold dfC dfU;by_cases q:fy es' f=true
 ·rw[VN q,VN q];refine⟨h.n0,h.n1,h.u,h.l,h.c,by rw[l];exact h.e0,by rw[l];exact h.e1,fun i i0 i1=>e i i0 (by omega),fun i i0 i1=>?_⟩;by_cases c:i=f
  ·rw[c,q,h.m f f0 f1,g q]
  ·rw[m i i0 i1 c];exact h.m i i0 i1
 ·have hu:=h.u;rw[VO q,VO q];refine⟨by rw[ZS];exact h.n0,by rw[ZS];exact h.n1,by rw[ZS,ZS];exact h.u,fun i i0 i1=>?_,fun i k i0 i1 k0 k1=>?_,by rw[l];exact h.e0,by rw[l];exact h.e1,fun i i0 i1=>by rw[ZS];exact e i i0 (by omega),fun i i0 i1=>?_⟩
  ·rw[ZS]at i1;rw[gsS f0 f1 i0];split;rfl;exact h.l i i0 i1
  ·rw[ZS]at i1;rw[gsS f0 f1 i0,gbS f0 (by omega) i0];split
   ·show 0<=ag (C0 16 [.i 0]) k 0/\ag (C0 16 [.i 0]) k 0<=999/\(_->ag (C0 16 [.i 0]) k 0=0);rw[Ko k0 k1];exact⟨by omega,by omega,fun _=>rfl⟩
   ·exact h.c i k i0 i1 k0 k1
  ·rw[ZS]at i1;rw[gbS f0 (by omega) i0];split
   ·rename_i c;subst c;show false=_;cases z:fy es' i with
    |false=>rfl
    |true=>exact absurd z q
   ·rename_i c;rw[m i i0 i1 c];exact h.m i i0 i1
theorem abd {cs us es:af}{p:Int}(h:mX cs us es)(hp:peM es p≠0):mX (dfC cs (Ap es p) (peF es p)) (dfU us (Ap es p) (peF es p)) (Ap es p):=by
 have pr:0<=p/\p<es.length:=by
  by_cases c:0<=p/\p<es.length;exact c;exact absurd (A9 c).1 hp
 have em:peM es p=ag es p 0:=by unfold peM;rw[VN pr]
 have ef:peF es p=ag es p 1:=by unfold peF;rw[VN pr]
 rw[em]at hp;have ep:=h.e p pr.1 pr.2;have fr:=ep.2.2.2 (by omega);rw[ef];have z:∀ i:Int,0<=i->ag (Ap es p) i 0=(if i=p then 0 else ag es i 0)/\ag (Ap es p) i 1=if i=p then 0 else ag es i 1:=fun i i0=>⟨giS pr.1 pr.2 i0,giS pr.1 pr.2 i0⟩
 have lu:(Ap es p).length=es.length:=ZS;have mp:∀ f:Int,fy (Ap es p) f=true↔∃ i:Nat,i<es.length/\(i:Int)≠p/\ag es i 0≠0/\ag es i 1=f:=fun f=>by
  rw[nJ,lu]
  constructor
  ·rintro⟨i,i1,a,b⟩;rw[(z i (by omega)).1]at a;rw[(z i (by omega)).2]at b;by_cases c:(i:Int)=p
   ·rw[VN c]at a;exact absurd rfl a
   ·rw[VO c]at a b;exact⟨i,i1,c,a,b⟩
  ·rintro⟨i,i1,c,a,b⟩;exact⟨i,i1,by rw[(z i (by omega)).1,VO c];exact a,by rw[(z i (by omega)).2,VO c];exact b⟩
 refine Rr h fr.1 fr.2 lu (fun i i0 i1=>?_) (fun i i0 i1 ne=>?_) (fun q=>?_)
 ·rw[(z i i0).1,(z i i0).2];split;exact⟨by omega,by omega,fun _=>rfl,fun q=>by omega⟩;exact h.e i i0 i1
 ·rw[WJ,mp,nJ]
  constructor
  ·rintro⟨i,i1,_,a,b⟩;exact⟨i,i1,a,b⟩
  ·rintro⟨k,k1,a,b⟩;refine⟨k,k1,fun c=>?_,a,b⟩;rw[c]at b;exact ne b.symm
 ·obtain⟨i,i1,_,a,b⟩:=(mp _).1 q;exact nJ.2 ⟨i,i1,a,b⟩
end Go.V
namespace Go.V
theorem aaa {es:af}{p:Int}(h:peM es p≠0):(0<=p/\p<es.length)/\peM es p=ag es p 0/\peF es p=ag es p 1:=by
 have pr:0<=p/\p<es.length:=by
  by_cases c:0<=p/\p<es.length;exact c;exact absurd (A9 c).1 h
 exact⟨pr,by unfold peM;rw[VN pr],by unfold peF;rw[VN pr]⟩
def wU (es:af)(p m f:Int):af:=es.set p.toNat [.i m,.i f]
theorem qK {es:af}{p m f:Int}:(wU es p m f).length=es.length:=ZS
theorem oa {es:af}{p m f:Int}(p0:0<=p)(p1:p<es.length)(i:Int)(i0:0<=i):ag (wU es p m f) i 0=(if i=p then m else ag es i 0)/\ag (wU es p m f) i 1=if i=p then f else ag es i 1:=⟨giS p0 p1 i0,giS p0 p1 i0⟩
theorem Bj {es:af}{p m f g:Int}(p0:0<=p)(p1:p<es.length)(hm:m≠0):fy (wU es p m f) g=true↔f=g\/∃ i:Nat,i<es.length/\(i:Int)≠p/\ag es i 0≠0/\ag es i 1=g:=by
 rw[nJ,qK]
 constructor
 ·rintro⟨i,i1,a,b⟩;rw[(oa p0 p1 i (by omega)).1]at a;rw[(oa p0 p1 i (by omega)).2]at b;by_cases c:(i:Int)=p
  ·rw[VN c]at b;exact .inl b
  ·rw[VO c]at a b;exact .inr ⟨i,i1,c,a,b⟩
 ·rintro(q|⟨i,i1,c,a,b⟩)
  ·obtain⟨n,rfl⟩:=ZV p0;exact⟨n,by omega,by rw[(oa p0 p1 n (by omega)).1,VN rfl];exact hm,by rw[(oa p0 p1 n (by omega)).2,VN rfl];exact q⟩
  ·exact⟨i,i1,by rw[(oa p0 p1 i (by omega)).1,VO c];exact a,by rw[(oa p0 p1 i (by omega)).2,VO c];exact b⟩
theorem aaU {es:af}{p m f:Int}{n:Nat}(p0:0<=p)(p1:p<es.length)(hm:1<=m/\m<=2)(hf:0<=f/\f<n) 
 (e:∀ i:Int,0<=i->i<es.length->0<=ag es i 0/\ag es i 0<=2/\(ag es i 0=0->ag es i 1=0)/\(0<ag es i 0->0<=ag es i 1/\ag es i 1<n)):
 ∀ i:Int,0<=i->i<es.length->0<=ag (wU es p m f) i 0/\ag (wU es p m f) i 0<=2/\(ag (wU es p m f) i 0=0->ag (wU es p m f) i 1=0)/\(0<ag (wU es p m f) i 0->0<=ag (wU es p m f) i 1/\ag (wU es p m f) i 1<n):=fun i i0 i1=>by
 rw[(oa p0 p1 i i0).1,(oa p0 p1 i i0).2];split;exact⟨by omega,by omega,fun q=>by omega,fun _=>hf⟩;exact e i i0 i1
theorem TC {cs us es:af}{p f:Int}(h:mX cs us es)(p0:0<=p)(p1:p<es.length)(hp:ag es p 0=0)(f0:0<=f)(f1:f<cs.length):mX cs (us.set f.toNat [.v (.bool true)]) (wU es p 2 f):=by
 have hu:=h.u;refine⟨h.n0,h.n1,by rw[ZS];exact h.u,h.l,fun i k i0 i1 k0 k1=>?_,by rw[qK];exact h.e0,by rw[qK];exact h.e1,fun i i0 i1=>aaU p0 p1 (by omega) ⟨f0,f1⟩ h.e i i0 (by rw[qK]at i1;exact i1),fun i i0 i1=>?_⟩
 ·have c:=h.c i k i0 i1 k0 k1;refine⟨c.1,c.2.1,fun q=>?_⟩;rw[gbS f0 (by omega) i0]at q;split at q
  ·cases q
  ·exact c.2.2 q
 ·rw[gbS f0 (by omega) i0];split
  ·rename_i c;subst c;show true=_;exact((Bj p0 p1 (by omega)).2 (.inl rfl)).symm
  ·rename_i c;rw[h.m i i0 i1,WJ,Bj p0 p1 (by omega),nJ]
   constructor
   ·rintro⟨k,k1,a,b⟩;refine .inr ⟨k,k1,fun q=>?_,a,b⟩;rw[q]at a;exact a hp
   ·rintro(q|⟨k,k1,_,a,b⟩);exact absurd q.symm c;exact⟨k,k1,a,b⟩
end Go.V
namespace Go.V
def ad9 (e:aO):Pr:=(KH (e.getD 0 .g),KH (e.getD 1 .g))
def Db (es:af):List Pr:=es.map ad9
def frP (p:Pr):aO:=[.i p.1,.i p.2]
def rowP (l:List Pr):af:=l.map frP
theorem zH {es:af}:(Db es).length=es.length:=YW _
theorem zG {es:af}{i:Int}(i0:0<=i)(i1:i<es.length):(Db es)[i.toNat]?=some (ag es i 0,ag es i 1):=by
 unfold Db ag;rw[List.getElem?_map,Zo (l:=es),Zs (by omega)];rfl
theorem Lo {es:af}{x:Pr}(h:x∈Db es):∃ i:Nat,i<es.length/\x=(ag es i 0,ag es i 1):=by
 obtain⟨i,hi,e⟩:=X1 h;rw[zH]at hi;refine⟨i,hi,?_⟩;have q:=zG (es:=es) (i:=(i:Int)) (by omega) (by omega);rw[ZE,Zs (by rw[zH];exact hi)]at q;rw[<-e];exact Yv q
theorem GR:∀ {l:List Pr},(∀ x∈l,0<x.2)->(∀ i:Nat,i+1<l.length->∀ x y,l[i]?=some x->l[i+1]?=some y->x.1+x.2<y.1)->chP l
 |[],_,_=>trivial
 |[x],h,_=>h x (by simp)
 |x::y::l,h,g=>⟨h x (by simp),g 0 (by simp) x y rfl rfl,GR (fun z hz=>h z (by simp[hz])) (fun i hi a b ha hb=>g (i+1) (by simp at hi ⊢;omega) a b (by simpa using ha) (by simpa using hb))⟩
structure RgT (n:Int)(rs:af):Prop where
 n0:1<=n
 n1:n<=32
 c:chP (Db rs)
 b:∀ x∈Db rs,0<=x.1/\1<=x.2/\x.1+x.2<=n
theorem PM {n:Int}{rs:af}(h:rgOk n rs=true):RgT n rs:=by
 unfold rgOk at h;rw[Zc]at h;obtain⟨h1,h2⟩:=h;have r:=bz.1 h2;have at':∀ i:Int,0<=i->i<rs.length->(0<=ag rs i 0/\1<=ag rs i 1/\ag rs i 0+ag rs i 1<=n)/\(0<i->¬ ag rs i 0<=bK .add Za (ag rs (i-1) 0) (ag rs (i-1) 1)):=fun i i0 i1=>by
  have a:=dp.1 h1 i i0 i1;unfold rS at a;simp only[Zc,Bool.not_eq_true',Bool.and_eq_false_iff,decide_eq_false_iff_not]at a;have b:=a.1;unfold rngIn at b;simp only[Zc]at b;have b1:=bz.1 b.1;have b2:=bz.1 b.2;refine⟨by omega,fun p=>?_⟩;rcases a.2 with q|q;exact absurd p q;exact q
 have bd:∀ x∈Db rs,0<=x.1/\1<=x.2/\x.1+x.2<=n:=fun x hx=>by
  obtain⟨i,hi,rfl⟩:=Lo hx;exact(at' i (by omega) (by omega)).1
 refine⟨r.1,r.2,GR (fun x hx=>by have:=(bd x hx).2.1;omega) (fun i hi x y hx hy=>?_),bd⟩;rw[zH]at hi;have qx:=zG (es:=rs) (i:=(i:Int)) (by omega) (by omega);have qy:=zG (es:=rs) (i:=((i+1:Nat):Int)) (by omega) (by omega);rw[ZE]at qx qy;rw[hx]at qx;rw[hy]at qy;cases qx;cases qy;have a:=(at' ((i+1:Nat):Int) (by omega) (by omega)).2 (by omega);have b:=(at' (i:Int) (by omega) (by omega)).1;rw[show((i+1:Nat):Int)-1=(i:Int)by omega,bT (by omega)]at a;show ag rs i 0+ag rs i 1<_;omega
def TZ (x r:Pr):Bool:=decide (x.1<r.1+r.2)&&decide (r.1<x.1+x.2)
def rpB (n:Int)(rs:af)(a l:Int):Bool:=rgOk n rs&&(rngIn n a l&&(Db rs).all fun x=> !TZ x (a,l))
def rpL (n:Int)(rs:af)(a l:Int):af:=if rpB n rs a l=true then rowP (ipL (Db rs) (a,l))else rs
structure RpP (rs:af)(a0 l0 i:Int)(o:af)(a l:Int)(d:Bool):Prop where
 s:∃ o',o=rowP o'/\((Db rs).take i.toNat).foldl ipS ⟨[],(a0,l0),false⟩=⟨o',(a,l),d⟩
 n:∀ x∈(Db rs).take i.toNat,TZ x (a0,l0)=false
 v:∀ x∈(Db rs).drop i.toNat,TZ x (a,l)=TZ x (a0,l0)
 b:0<=a/\1<=l/\a+l<=32
end Go.V
namespace Go.V
section
variable {n: Int} {rs: af} {a0 l0 i: Int} {o: af} {a l: Int} {d: Bool}
structure aes (rs:af)(a0 l0 i:Int)(o:af)(d:Bool):Prop where
 s:∃ o',o=rowP o'/\((Db rs).take i.toNat).foldl (rsS (a0,l0)) ⟨[],false⟩=⟨o',d⟩
 n:∀ x∈(Db rs).take i.toNat,TZ x (a0,l0)=false
 m:o.length<=2*i.toNat
end
end Go.V
namespace Go.V
theorem abh {o:af}{n:Int}{x:Value}(h:Rw [tI,tI] o)(n0:0<=n)(n1:n<o.length):pm (.s 2 o) [(n.toNat,1)] [.v x]=o.set n.toNat [.i (ag o n 0),.v x]:=by
 show o.set n.toNat ((o.getD n.toNat []).take 1++[.v x]++(o.getD n.toNat []).drop (1+1))=_;rw[h.eta n0 n1];rfl
theorem abg {o:af}{n:Int}{x:Value}(h:Rw [tI,tI] o)(n0:0<=n)(n1:n<o.length):pm (.s 2 o) [(n.toNat,0)] [.v x]=o.set n.toNat [.v x,.i (ag o n 1)]:=by
 show o.set n.toNat ((o.getD n.toNat []).take 0++[.v x]++(o.getD n.toNat []).drop (0+1))=_;rw[h.eta n0 n1];rfl
theorem P4 {o:af}{n:Int}{j:Nat}(h:Rw [tI,tI] o)(n0:0<=n)(n1:n<o.length)(hj:j<2):∃ rec o',bQ (.s 2 o) [(n.toNat,j)]=some (rec,o')/\o'+1<=rec.length:=iJ (by omega) (by
 rw[h.eta n0 n1];show j+1<=2;omega)
theorem KE {o:af}{n:Int}{j:Nat}(h:Rw [tI,tI] o)(n0:0<=n)(n1:n<o.length)(hj:j<2):∃ rec o',bQ (L.s 2 o) [(n.toNat,j)]=some (rec,o')/\o'+[L.v (Zq ZG 0)].length<=rec.length/\Yo [L.v (Zq ZG 0)].length (YD o' rec)=j5 am (L.s 2 o) [(n.toNat,j)] 0 [L.v (Zq ZG 0)]:=by
 rcases(show j=0\/j=1 by omega)with rfl|rfl
 ·exact eU (z0:=[.i 0,.i 0]) (z:=[.i 0]) h.wf (by omega) rfl (by decide)
 ·exact eU (z0:=[.i 0,.i 0]) (z:=[.i 0]) h.wf (by omega) rfl (by decide)
theorem lH {l:af}{sz j:Nat}{i:Int}(h0:0<=i):uk (.s sz l) [(i.toNat,j)]=ag l i j:=by
 rw[zn];unfold ag;rw[ZE]
structure JnP (rs:af)(i:Int)(o:af):Prop where
 s:o=rowP (((Db rs).take i.toNat).foldl jnS [])
 l:o.length<=i.toNat
section
variable {rs o: af} {i: Int}
end
end Go.V
namespace Go.V
def Ga (rs:af)(n:Int):Nat->Int
 |0=> -1
 |k+1=>if n<=ag rs k 1/\(Ga rs n k<0\/ag rs k 1<ag rs (Ga rs n k) 1)then k else Ga rs n k
def ew (rs:af)(n:Int):Int:=Ga rs n rs.length
theorem GJ {rs:af}{n:Int}:∀ k:Nat,-1<=Ga rs n k/\Ga rs n k<k/\(0<=Ga rs n k->n<=ag rs (Ga rs n k) 1)
 |0=>⟨Yd _,by show(-1:Int)<0;omega,fun h=>absurd h (by show¬ (0:Int)<= -1;omega)⟩
 | k+1=>by
   have h:=GJ (rs:=rs) (n:=n) k;unfold Ga;split
   ·rename_i c;exact⟨by omega,by omega,fun _=>c.1⟩
   ·exact⟨h.1,by omega,h.2.2⟩
structure JE (rs:af)(n i b:Int):Prop where
 e:b=Ga rs n i.toNat
section
variable {rs: af} {n i b: Int}
theorem Q2:JE rs n 0 (-1):=⟨rfl⟩
theorem Q5 (h:JE rs n i b)(i0:0<=i): -1<=b/\b<i\/(i=0/\b= -1):=by
 have q:=GJ (rs:=rs) (n:=n) i.toNat;rw[<-h.e]at q;omega
theorem Q3 (h:JE rs n i b)(i0:0<=i)(c:n<=ag rs i 1)(d:b<0\/ag rs i 1<ag rs b 1):JE rs n (i+1) i:=⟨by
 rw[show(i+1).toNat=i.toNat+1 by omega,Ga,Zp i0, <-h.e,VN ⟨c,d⟩]⟩
theorem Q4 (h:JE rs n i b)(i0:0<=i)(c:¬ (n<=ag rs i 1/\(b<0\/ag rs i 1<ag rs b 1))):JE rs n (i+1) b:=⟨by
 rw[show(i+1).toNat=i.toNat+1 by omega,Ga,Zp i0, <-h.e,VO c]⟩
theorem JS (h:JE rs n i b)(i1:i<=rs.length)(i2:(rs.length:Int)<=i):b=ew rs n:=by
 rw[h.e];unfold ew;rw[show i.toNat=rs.length by omega]
end
def tkB (p:Int)(rs:af)(n:Int):Bool:=rgOk p rs&&(decide (1<=n)&&decide (0<=ew rs n))
def xt (rs:af)(b:Int):af:=rs.take b.toNat++rs.drop (b+1).toNat
def tkL (p:Int)(rs:af)(n:Int):af:=if tkB p rs n=true then(if ag rs (ew rs n) 1=n then xt rs (ew rs n)else rs.set (ew rs n).toNat [.i (ag rs (ew rs n) 0+n),.i (ag rs (ew rs n) 1-n)])else rs
def tkA (p:Int)(rs:af)(n:Int):Int:=if tkB p rs n=true then ag rs (ew rs n) 0 else-1
theorem Ln {p n:Int}{rs:af}(h:tkB p rs n=false):tkL p rs n=rs/\tkA p rs n= -1:=by unfold tkL tkA;rw[h];exact⟨rfl,rfl⟩
theorem P8 {p n:Int}{rs:af}(h:rgOk p rs=false):tkB p rs n=false:=by unfold tkB;rw[h];rfl
theorem P9 {p n:Int}{rs:af}(h:n<1):tkB p rs n=false:=by unfold tkB;rw[VL (by omega)];simp
theorem Qa {p n:Int}{rs:af}(h:ew rs n<0):tkB p rs n=false:=by unfold tkB;rw[VL (p:=0<=ew rs n) (by omega)];simp
theorem ad6 {p n:Int}{rs:af}(h:rgOk p rs=true)(g:1<=n)(b:0<=ew rs n):tkB p rs n=true:=by unfold tkB;rw[h,VK g,VK b];rfl
theorem P5 {p n:Int}{rs:af}(h:tkB p rs n=true)(e:ag rs (ew rs n) 1=n):tkL p rs n=xt rs (ew rs n)/\tkA p rs n=ag rs (ew rs n) 0:=by
 unfold tkL tkA;rw[VN h,VN h,VN e];exact⟨rfl,rfl⟩
theorem P6 {p n:Int}{rs:af}(h:tkB p rs n=true)(e:ag rs (ew rs n) 1≠n):tkL p rs n=rs.set (ew rs n).toNat [.i (ag rs (ew rs n) 0+n),.i (ag rs (ew rs n) 1-n)]/\tkA p rs n=ag rs (ew rs n) 0:=by
 unfold tkL tkA;rw[VN h,VN h,VO e];exact⟨rfl,rfl⟩
structure TkT (p:Int)(rs:af)(n:Int):Prop where
 i0:0<=ew rs n
 i1:ew rs n<rs.length
 n0:1<=n
 a0:0<=ag rs (ew rs n) 0
 l0:n<=ag rs (ew rs n) 1
 e:ag rs (ew rs n) 0+ag rs (ew rs n) 1<=p
 p0:p<=32
theorem zF {p n:Int}{rs:af}(h:tkB p rs n=true):TkT p rs n:=by
 unfold tkB at h;simp only[Zc,VM]at h;obtain⟨h1,h2,h3⟩:=h;have T:=PM h1;have b:=GJ (rs:=rs) (n:=n) rs.length;change-1<=ew rs n/\ew rs n<rs.length/\(0<=ew rs n->n<=ag rs (ew rs n) 1)at b;have t:=T.b _ (Zx (zG (es:=rs) h3 b.2.1));exact⟨h3,b.2.1,h2,t.1,b.2.2 h3,t.2.2,T.n1⟩
theorem Kd {rs:af}{b:Int}{r:aO}(b0:0<=b):xt (rs.set b.toNat r) b=xt rs b:=by
 unfold xt;rw[List.take_set_of_le (Zf _),show(b+1).toNat=b.toNat+1 by omega,List.drop_set_of_lt (by omega)]
theorem NO {fs:List Ty}{rs:af}{b:Int}(h:Rw fs rs)(b0:0<=b):Rw fs (xt rs b)/\(xt rs b).length<=rs.length:=by
 have l:(xt rs b).length<=rs.length:=by
  unfold xt;rw[Ze,Zh,Zn];omega
 refine⟨⟨ZN l h.1,fun e he=>?_⟩,l⟩;rcases Zg.1 he with q|q;exact h.2 e (Xn q);exact h.2 e (Xo q)
theorem aa9 {p n:Int}{rs:af}(h:Rw [tI,tI] rs):Rw [tI,tI] (tkL p rs n)/\(tkL p rs n).length<=rs.length:=by
 cases c:tkB p rs n with
 |false=>rw[(Ln c).1];exact⟨h,Zf _⟩
 | true=>
   have T:=zF c;have T1:=T.a0;have T2:=T.l0;have T3:=T.e;have T4:=T.p0;have T5:=T.n0;by_cases e:ag rs (ew rs n) 1=n
   ·rw[(P5 c e).1];exact NO h T.i0
   ·rw[(P6 c e).1,ZS];exact⟨Rw.set h (show cy [tI,tI] [.i (ag rs (ew rs n) 0+n),.i (ag rs (ew rs n) 1-n)]from⟨⟨rfl,show-9223372036854775808<=_/\_<=9223372036854775807 from by omega⟩,⟨rfl,show-9223372036854775808<=_/\_<=9223372036854775807 from by omega⟩,trivial⟩) _,Zf _⟩
end Go.V
namespace Go.V
def AN (b:Int):Nat->af
 |0=>[]
 |k+1=>if hsB b k=true then AN b k else AN b k++[[.i k]]
def frL (n b:Int):af:=if bmOk n b=true then AN b n.toNat else[]
theorem ua {b:Int}:∀ k:Nat,(AN b k).length<=k
 |0=>Zf _
 | k+1=>by
   have:=ua (b:=b) k;unfold AN;split;omega
   ·rw[Ze];show _+1<=_;omega
structure Jt (b i:Int)(o:af):Prop where
 e:o=AN b i.toNat
theorem RI {b:Int}:Jt b 0 []:=⟨rfl⟩
theorem RJ {b i:Int}{o:af}(h:Jt b i o)(i0:0<=i)(g:hsB b i=true):Jt b (i+1) o:=⟨by
 rw[h.e,show(i+1).toNat=i.toNat+1 by omega,AN,Zp i0,VN g]⟩
theorem RL {b i:Int}{o:af}(h:Jt b i o)(i0:0<=i)(g:hsB b i=false):Jt b (i+1) (o++[[.i i]]):=⟨by
 rw[h.e,show(i+1).toNat=i.toNat+1 by omega,AN,Zp i0,g];rfl⟩
theorem Kk {b i:Int}{o:af}(h:Jt b i o)(i0:0<=i):(o.length:Int)<=i:=by
 have:=ua (b:=b) i.toNat;rw[<-h.e]at this;omega
theorem acw {n b:Int}(h:bmOk n b=false):frL n b=[]:=by unfold frL;rw[h];rfl
theorem Kj {b n i:Int}{o:af}(h:Jt b i o)(g:bmOk n b=true)(i0:i<=n)(i1:n<=i):o=frL n b:=by
 rw[h.e];unfold frL;rw[VN g,show i.toNat=n.toNat by omega]
theorem yM {b:Int}:∀ k:Nat,k<=1024->Rw [tI] (AN b k)
 |0,_=>Rw.nil
 | k+1,h=>by
   have l:=ua (b:=b) k;unfold AN;split;exact yM k (by omega);exact Rw.append (yM k (by omega)) (aaF (by omega)) (by unfold maxLen;simp only[Zr,Zt];omega)
end Go.V
namespace Go.V
def clB (ls:af)(k:Int):Bool:=inR k 0 3&&caOk ls
def ctB (ls:af)(k:Int):Bool:=clB ls k&&decide (0<(ax ls k 0).length)
def ctL (ls:af)(k:Int):af:=if ctB ls k=true then ls.set k.toNat [.s 1 ((ax ls k 0).take ((ax ls k 0).length-1))]else ls
def ctA (ls:af)(k:Int):Int:=if ctB ls k=true then ag (ax ls k 0) ((ax ls k 0).length-1) 0 else-1
def cuL (ls:af)(k a:Int):af:=ls.set k.toNat [.s 1 (ax ls k 0++[[.i a]])]
def acm (ls:af)(k a:Int):Bool:=clB ls k&&caOk (cuL ls k a)
theorem Rk {ls:af}{k:Int}(h:ctB ls k=false):ctL ls k=ls/\ctA ls k= -1:=by unfold ctL ctA;rw[h];exact⟨rfl,rfl⟩
theorem Rl {ls:af}{k:Int}(h:ctB ls k=true):ctL ls k=ls.set k.toNat [.s 1 ((ax ls k 0).take ((ax ls k 0).length-1))]/\ctA ls k=ag (ax ls k 0) ((ax ls k 0).length-1) 0:=by unfold ctL ctA;rw[VN h,VN h];exact⟨rfl,rfl⟩
theorem LW {ls:af}{k:Int}(h:clB ls k=true):0<=k/\k<4/\ls.length=4/\(ax ls k 0).length<=8:=by
 unfold clB at h;rw[Zc]at h;have r:=bz.1 h.1;have c:=ack h.2;have d:=c.2 k.toNat (by omega);rw[Zp r.1]at d;exact⟨r.1,by omega,c.1,d⟩
theorem P0 {ls r:af}{k:Nat}(h:Rw [.sl [tI]] ls)(g:Rw [tI] r):Rw [.sl [tI]] (ls.set k [.s 1 r]):=Rw.set h (show cy [.sl [tI]] [.s 1 r]from⟨⟨rfl,g⟩,trivial⟩) _
end Go.V
namespace Go.V
def qdN:af->Int->Nat
 |[],_=>0
 |e::l,r=>if qcI (e::l)<=r then 0 else qdN l r+1
structure QdP (l:af)(r i:Int):Prop where
 e:i.toNat<=qdN l r
section
variable {l: af} {r i: Int}
end
def stR (a c s:Int):aO:=[.i a,.i c,.i s]
def qaB (rm:Int)(qs:af)(a c s:Int):Bool:=quarOk rm qs&&stlOk qs a c s
def qaL (rm:Int)(qs:af)(a c s:Int):af:=if qaB rm qs a c s=true then(qs++[stR a c s]).drop (qdN (qs++[stR a c s]) rm)else qs
def qaR (rm:Int)(qs:af)(a c s:Int):af:=if qaB rm qs a c s=true then(qs++[stR a c s]).take (qdN (qs++[stR a c s]) rm)else[]
def qeN:af->Int->Nat
 |[],_=>0
 |e::l,t=>if KH (e.getD 2 .g)<t then qeN l t+1 else 0
structure QeP (l:af)(t i:Int):Prop where
 e:i.toNat<=qeN l t
section
variable {l: af} {t i: Int}
end
def qeB (rm:Int)(qs:af)(now age:Int):Bool:=quarOk rm qs&&(inR now 0 1000000&&inR age 0 1000000)
def qeL (rm:Int)(qs:af)(now age:Int):af:=if qeB rm qs now age=true then qs.drop (qeN qs (now-age))else qs
def QM (rm:Int)(qs:af)(now age:Int):af:=if qeB rm qs now age=true then qs.take (qeN qs (now-age))else[]
end Go.V
namespace Go.V
theorem DG {k:Nat}:∀ {l:af},(∀ e∈l,mW e<=k)->dy l<=k*l.length
 |[],_=>ZF _
 | e::l,h=>by
   have a:=h e (by simp);have b:=DG (l:=l) (fun x hx=>h x (by simp[hx]));simp only[dy,Zr,Nat.mul_succ];omega
theorem El {cs us es:af}(h:mX cs us es)(rc:Rw [.sl [tI]] cs)(ru:Rw [tB] us)(re:Rw [tI,tI] es):bj cs<=1024/\bj us<=64/\bj es<=64:=by
 have n1:=h.n1;have hu:=h.u;have e1:=h.e1;refine⟨?_,?_,?_⟩
 ·have q:dy cs<=16*cs.length:=DG fun e he=>by
   obtain⟨i,hi,rfl⟩:=X1 he;have a:=rc.eta (i:=i) (by omega) (by omega);rw[Zo,ZE,Zs hi,Option.getD_some]at a;rw[a];show mW [.s 1 (ax cs i 0)]<=16;have l:=h.l i (by omega) (by omega);have w:=(Rw.sub (fs:=[.sl [tI]]) (j:=0) (i:=(i:Int)) rc (by omega) rfl).cnt rfl;have e:mW [.s 1 (ax cs i 0)]=bj (ax cs i 0):=by simp only[mW,GY,bj];omega
   rw[e,w];omega
  unfold bj;omega
 ·rw[ru.cnt rfl];omega
 ·rw[re.cnt rfl];omega
def sQ (us es:af)(c:Int)(rs:af)(p:Int):Bool:=(!hasB rs c&&decide (0<=dT us))&&(inR p 0 (es.length-1)&&decide (peM es p=0))
def D6 (us es:af)(c:Int)(rs:af)(p:Int):af:=if sQ us es c rs p=true then us.set (dT us).toNat [.v (.bool true)]else us
def CF (us es:af)(c:Int)(rs:af)(p:Int):af:=if sQ us es c rs p=true then wU es p 2 (dT us)else es
def Fz (cs es:af)(p:Int):af:=if peM es p≠0 then dfC cs (Ap es p) (peF es p)else cs
def FA (us es:af)(p:Int):af:=if peM es p≠0 then dfU us (Ap es p) (peF es p)else us
def CG (es:af)(p:Int):af:=if peM es p≠0 then Ap es p else es
def kpB (es:af)(c:Int)(rs:af)(p m:Int):Bool:= !hasB rs c&&(decide (peM es p≠0)&&(decide (m=1)||decide (m=2)))
def kpE (es:af)(c:Int)(rs:af)(p m:Int):af:=if kpB es c rs p m=true then wU es p m (peF es p)else es
def QI (es:af)(c:Int)(rs:af)(p q:Int):Bool:= !hasB rs c&&(decide (peM es p≠0)&&(decide (peM es q≠0)&&decide (p≠q)))
def koC (cs es:af)(c:Int)(rs:af)(p q:Int):af:=if QI es c rs p q=true then dfC cs (wU es p 2 (peF es q)) (peF es p)else cs
def koU (us es:af)(c:Int)(rs:af)(p q:Int):af:=if QI es c rs p q=true then dfU us (wU es p 2 (peF es q)) (peF es p)else us
def koE (es:af)(c:Int)(rs:af)(p q:Int):af:=if QI es c rs p q=true then wU es p 2 (peF es q)else es
theorem SP {cs us es rs:af}{c p:Int}(h:mX cs us es):mX cs (D6 us es c rs p) (CF us es c rs p):=by
 unfold D6 CF;by_cases g:sQ us es c rs p=true
 ·rw[VN g,VN g];unfold sQ at g;simp only[Zc,VM]at g;have r:=bz.1 g.2.1;have f:=uc (us:=us);have u:=h.u;have pr:0<=p/\p<es.length:=by omega
  have z:ag es p 0=0:=by have:=g.2.2;unfold peM at this;rw[VN pr]at this;exact this
  exact TC h r.1 (by omega) z g.1.2 (by omega)
 ·rw[VO g,VO g];exact h
theorem adb {cs us es:af}{p:Int}(h:mX cs us es):mX (Fz cs es p) (FA us es p) (CG es p):=by
 unfold Fz FA CG;by_cases g:peM es p≠0
 ·rw[VN g,VN g,VN g];exact abd h g
 ·rw[VO g,VO g,VO g];exact h
theorem rwU {us:af}{n:Nat}{b:Bool}(h:Rw [tB] us):Rw [tB] (us.set n [.v (.bool b)]):=Rw.set h (show cy [tB] [.v (.bool b)]from⟨trivial,trivial⟩) _
theorem PU {es:af}{p m f:Int}(h:Rw [tI,tI] es)(hm: -9223372036854775808<=m/\m<=9223372036854775807)(hf: -9223372036854775808<=f/\f<=9223372036854775807):Rw [tI,tI] (wU es p m f):=Rw.set h (show cy [tI,tI] [.i m,.i f]from⟨⟨rfl,hm⟩,⟨rfl,hf⟩,trivial⟩) _
theorem adK {cs es:af}{f:Int}(h:Rw [.sl [tI]] cs):Rw [.sl [tI]] (dfC cs es f):=by
 unfold dfC;split;exact h;exact P0 h (Rw.replicate (show cy [tI] [.i 0]from⟨⟨rfl,show-9223372036854775808<=(0:Int)/\(0:Int)<=9223372036854775807 from by omega⟩,trivial⟩) (by unfold maxLen;omega))
theorem adL {us es:af}{f:Int}(h:Rw [tB] us):Rw [tB] (dfU us es f):=by
 unfold dfU;split;exact h;exact rwU h
theorem Mu {us es rs:af}{c p:Int}(hu:Rw [tB] us)(he:Rw [tI,tI] es)(l:us.length<=32):Rw [tB] (D6 us es c rs p)/\Rw [tI,tI] (CF us es c rs p):=by
 have f:=uc (us:=us);unfold D6 CF
 constructor<;>split
 ·exact rwU hu
 ·exact hu
 ·exact PU he (by omega) (by omega)
 ·exact he
theorem SV {cs us es:af}{p:Int}(hc:Rw [.sl [tI]] cs)(hu:Rw [tB] us)(he:Rw [tI,tI] es):Rw [.sl [tI]] (Fz cs es p)/\Rw [tB] (FA us es p)/\Rw [tI,tI] (CG es p):=by
 unfold Fz FA CG;refine⟨?_,?_,?_⟩<;>split
 ·exact adK hc
 ·exact hc
 ·exact adL hu
 ·exact hu
 ·exact PU (m:=0) (f:=0) he (by omega) (by omega)
 ·exact he
theorem qq {cs us es rs:af}{c:Int}(h:kerOk cs us es c rs=true):mX cs us es/\0<=c/\c<=100000/\kH rs=true:=by
 unfold kerOk at h;simp only[Zc]at h;have r:=bz.1 h.1.2;exact⟨O6 h.1.1,r.1,r.2,h.2⟩
theorem HJ {cs us es rs:af}{c:Int}(h:mX cs us es)(c0:0<=c)(c1:c<=100000)(r:kH rs=true):kerOk cs us es c rs=true:=D3 (O7 h) (bz.2 ⟨c0,c1⟩) r
end Go.V
namespace Go.V
structure Al (a0 a1 a2 a4 a5 a6 a7 a8 a9 aA aB aD aL:af):Prop where
 r0:Rw [.sl [tI]] a0
 r1:Rw [tB] a1
 r2:Rw [tI,tI] a2
 r4:Rw [tI] a4
 r5:Rw [tI,tI] a5
 r6:Rw [tI,tI,tI] a6
 r7:Rw [tI,tI,tI] a7
 r8:Rw [tI,tI,tI,tI] a8
 r9:Rw [.sl [.sl [tI]]] a9
 r10:Rw [.sl [tI,tI]] aA
 r11:Rw [.sl [tI]] aB
 r13:Rw [tI,tI,tI] aD
 r21:Rw [tI] aL
 c0:bj a0<=1073741824
 c1:bj a1<=1073741824
 c2:bj a2<=1073741824
 c4:bj a4<=1073741824
 c5:bj a5<=1073741824
 c6:bj a6<=1073741824
 c7:bj a7<=1073741824
 c8:bj a8<=1073741824
 c9:bj a9<=1073741824
 c10:bj aA<=1073741824
 c11:bj aB<=1073741824
 c13:bj aD<=1073741824
 c21:bj aL<=1073741824
theorem Al.hp {a0 a1 a2 a4 a5 a6 a7 a8 a9 aA aB aD aL:af}(h:Al a0 a1 a2 a4 a5 a6 a7 a8 a9 aA aB aD aL):HpN a0 a1 a2 a4 a5 a6 a7 a8 a9 aA aB aD aL:=by
 have l2:=av (es:=a2);have l5:=av (es:=a5);have l6:=av (es:=a6);have l7:=av (es:=a7);have l8:=av (es:=a8);have l13:=av (es:=aD);have l21:=av (es:=aL);have c2:=h.c2;have c5:=h.c5;have c6:=h.c6;have c7:=h.c7;have c8:=h.c8;have c13:=h.c13;have c21:=h.c21;exact⟨⟨h.r6,h.r7,h.r8,h.r9,h.r13,Pu h.r10 h.r11 h.c10 h.c11,Pq h.r9 h.c9,by omega,by omega,by omega,by omega,h.c9⟩,h.r0,h.r1,h.r2,by omega,h.r4,h.r5,by omega,h.r21,by omega⟩
theorem C8 {fs:List Ty}{es:af}{i:Int}(h:Rw [.sl fs] es)(h0:0<=i)(h1:i<es.length):Rw fs (ax es i 0):=Rw.sub (fs:=[.sl fs]) (j:=0) (i:=i) h (by omega) rfl
end Go.V
namespace Go.V
def htB (b x:af)(f:Int):Bool:=inR f 0 (b.length-1)&&mailOk b x
theorem Jb {b x:af}{i:Int}(h:Rw [.sl [tI]] b)(h0:0<=i)(h1:i<b.length):pm (.s 1 b) [(i.toNat,0)] [.s 1 x]=b.set i.toNat [.s 1 x]:=oP (by rw[h.eta h0 h1];rfl)
theorem I7 {fs:List Ty}{b:af}{i:Int}(h:Rw [.sl fs] b)(h0:0<=i)(h1:i<b.length):∃ rec o',bQ (.s 1 b) [(i.toNat,0)]=some (rec,o')/\o'+1<=rec.length:=iJ (by omega) (by rw[h.eta h0 h1];exact Zf _)
end Go.V
namespace Go.V
def ccB (cs us es:af)(c:Int)(rs:af):Bool:=decide (c≠100000)&&kerOk cs us es c rs
theorem LV {cs us es rs:af}{c:Int}(h:ccB cs us es c rs=true):c≠100000/\kerOk cs us es c rs=true:=by
 unfold ccB at h;rw[Zc,VM]at h;exact h
theorem Ra {cs us es rs:af}{c:Int}(h:c=100000):ccB cs us es c rs=false:=by unfold ccB;rw[VL (fun n=>n h)];rfl
theorem GO {cs us es rs:af}{c:Int}(h:c≠100000):ccB cs us es c rs=kerOk cs us es c rs:=by unfold ccB;rw[VK h];rfl
def ktC (k:Bool)(cs es:af)(p:Int):af:=if k=true then Fz cs es p else cs
def ktU (k:Bool)(us es:af)(p:Int):af:=if k=true then FA us es p else us
def ktE (k:Bool)(es:af)(p:Int):af:=if k=true then CG es p else es
def ktB (k:Bool)(es:af)(p:Int):Bool:=k&&mapB es p
theorem SR {k:Bool}{cs us es:af}{p:Int}(h:k=false):ktC k cs es p=cs/\ktU k us es p=us/\ktE k es p=es/\ktB k es p=false:=by subst h;exact⟨rfl,rfl,rfl,rfl⟩
theorem SU {k:Bool}{cs us es:af}{p:Int}(h:k=true):ktC k cs es p=Fz cs es p/\ktU k us es p=FA us es p/\ktE k es p=CG es p/\ktB k es p=mapB es p:=by subst h;exact⟨rfl,rfl,rfl,rfl⟩
theorem ada {cs us es:af}{p:Int}(h:mapB es p=false):Fz cs es p=cs/\FA us es p=us/\CG es p=es:=by
 unfold mapB at h;have:=of_decide_eq_false h;unfold Fz FA CG;rw[VO this,VO this,VO this];exact⟨rfl,rfl,rfl⟩
theorem adc {cs us es:af}{p:Int}(h:mapB es p=true):Fz cs es p=dfC cs (Ap es p) (peF es p)/\FA us es p=dfU us (Ap es p) (peF es p)/\CG es p=Ap es p:=by
 unfold mapB at h;have:=VP h;unfold Fz FA CG;rw[VN this,VN this,VN this];exact⟨rfl,rfl,rfl⟩
theorem ac9 {k:Bool}{cs us es:af}{p:Int}(h:mapB es p=false):ktC k cs es p=cs/\ktU k us es p=us/\ktE k es p=es/\ktB k es p=false:=by
 cases k with
 |false=>exact SR rfl
 |true=>have q:=ada (cs:=cs) (us:=us) h;exact⟨q.1,q.2.1,q.2.2,h⟩
theorem Eh {es:af}{p:Int}(h:mapB es p=true):(0<=p/\p<es.length)/\peM es p=ag es p 0/\peF es p=ag es p 1/\peM es p≠0:=by
 unfold mapB at h;have:=VP h;have q:=aaa this;exact⟨q.1,q.2.1,q.2.2,this⟩
theorem KL {cs us es:af}{p:Int}(m:mX cs us es)(h:mapB es p=true):0<=ag es p 1/\ag es p 1<cs.length:=by
 have q:=Eh h;have e:=m.e p q.1.1 q.1.2;exact e.2.2.2 (by have:=q.2.1;have:=q.2.2.2;omega)
theorem aco {cs us es:af}{f:Int}(h:((pagesOn es f).length:Int)=0):dfC cs es f=cs.set f.toNat [.s 1 (C0 16 [.i 0])]/\dfU us es f=us.set f.toNat [.v (.bool false)]:=by
 have e:fy es f=false:=KM (by omega);unfold dfC dfU;rw[e];exact⟨rfl,rfl⟩
theorem acp {cs us es:af}{f:Int}(h:¬ ((pagesOn es f).length:Int)=0):dfC cs es f=cs/\dfU us es f=us:=by
 have e:fy es f=true:=yZ.2 (by omega);unfold dfC dfU;rw[e];exact⟨rfl,rfl⟩
theorem abe {es:af}{p:Int}(h:Rw [tI,tI] es)(p0:0<=p)(p1:p<es.length):pm (.s 2 es) [(p.toNat,0)] [.i 0,.i 0]=Ap es p:=by
 unfold Ap;exact oP (by rw[h.eta p0 p1];rfl)
theorem KC {es:af}{p:Int}:(CG es p).length=es.length:=by
 unfold CG Ap;split;exact ZS;rfl
structure K3 where
 c:af
 u:af
 e:af
def DK (a0 a1 a2:af)(t:Int):Nat->K3
 |0=>⟨a0,a1,a2⟩
 |n+1=>⟨Fz (DK a0 a1 a2 t n).c (DK a0 a1 a2 t n).e (t+n),FA (DK a0 a1 a2 t n).u (DK a0 a1 a2 t n).e (t+n),CG (DK a0 a1 a2 t n).e (t+n)⟩
theorem G3 {a0 a1 a2:af}{t:Int}{n:Nat}:DK a0 a1 a2 t (n+1)=⟨Fz (DK a0 a1 a2 t n).c (DK a0 a1 a2 t n).e (t+n),FA (DK a0 a1 a2 t n).u (DK a0 a1 a2 t n).e (t+n),CG (DK a0 a1 a2 t n).e (t+n)⟩:=rfl
def mb (a0 a1 a2:af)(t l:Int):af:=(DK a0 a1 a2 t l.toNat).c
def AJ (a0 a1 a2:af)(t l:Int):af:=(DK a0 a1 a2 t l.toNat).u
def xu (a0 a1 a2:af)(t l:Int):af:=(DK a0 a1 a2 t l.toNat).e
structure Js (a0 a1 a2:af)(t p:Int)(c u e:af):Prop where
 m:mX c u e
 rc:Rw [.sl [tI]] c
 ru:Rw [tB] u
 re:Rw [tI,tI] e
 l:e.length=a2.length
 ec:c=mb a0 a1 a2 t (p-t)
 eu:u=AJ a0 a1 a2 t (p-t)
 ee:e=xu a0 a1 a2 t (p-t)
section
variable {a0 a1 a2 c u e: af} {t p: Int}
theorem L5 (m:mX a0 a1 a2)(rc:Rw [.sl [tI]] a0)(ru:Rw [tB] a1)(re:Rw [tI,tI] a2):Js a0 a1 a2 t t a0 a1 a2:=by
 have z:(t-t).toNat=0:=by omega
 refine⟨m,rc,ru,re,rfl,?_,?_,?_⟩
 ·unfold mb;rw[z];rfl
 ·unfold AJ;rw[z];rfl
 ·unfold xu;rw[z];rfl
theorem G4 (h:Js a0 a1 a2 t p c u e)(p0:t<=p):Js a0 a1 a2 t (p+1) (Fz c e p) (FA u e p) (CG e p):=by
 have w:=SV (p:=p) h.rc h.ru h.re;have s:(p+1-t).toNat=(p-t).toNat+1:=by omega
 have q:t+((p-t).toNat:Int)=p:=by omega
 refine⟨adb h.m,w.1,w.2.1,w.2.2,by rw[KC];exact h.l,?_,?_,?_⟩
 ·rw[h.ec,h.ee];unfold mb xu;rw[s,G3,q]
 ·rw[h.eu,h.ee];unfold AJ xu;rw[s,G3,q]
 ·rw[h.ee];unfold xu;rw[s,G3,q]
theorem Ke {l:Int}(h:Js a0 a1 a2 t p c u e)(p1:t+l<=p)(p2:p<=t+l):c=mb a0 a1 a2 t l/\u=AJ a0 a1 a2 t l/\e=xu a0 a1 a2 t l:=by
 have q:p-t=l:=by omega
 exact⟨q▸h.ec,q▸h.eu,q▸h.ee⟩
theorem DN (h:Js a0 a1 a2 t p c u e):bj c<=1024/\bj u<=64/\bj e<=64:=El h.m h.rc h.ru h.re
theorem DL (m:mX a0 a1 a2)(rc:Rw [.sl [tI]] a0)(ru:Rw [tB] a1)(re:Rw [tI,tI] a2):∀ n:Nat,Js a0 a1 a2 t (t+n) (mb a0 a1 a2 t n) (AJ a0 a1 a2 t n) (xu a0 a1 a2 t n)
 |0=>by have:=L5 (t:=t) m rc ru re;rw[show t+((0:Nat):Int)=t by omega];exact this
 | n+1=>by
   have h:=G4 (DL m rc ru re n) (by omega);have e:((n+1:Nat):Int)=(n:Int)+1:=by omega
   rw[show t+((n+1:Nat):Int)=t+n+1 by omega];exact h
end
def Oz (b:Bool)(x y:af):af:=if b=true then x else y
end Go.V
namespace Go.V
structure SmR (rs:af):Prop where
 w:Rw [tI,tI] rs
 b:∀ i:Int,0<=i->i<rs.length->0<=ag rs i 0/\ag rs i 0<=64/\0<=ag rs i 1/\ag rs i 1<=64
theorem abf {o:af}{n:Int}{b:Bool}(h:Rw [tB] o)(h0:0<=n)(h1:n<o.length):pm (.s 1 o) [(n.toNat,0)] [.v (.bool b)]=o.set n.toNat [.v (.bool b)]:=oP (by rw[h.eta h0 h1];rfl)
theorem ad5 {o:af}{n:Int}(h:Rw [tB] o)(h0:0<=n)(h1:n<o.length):∃ rec o',bQ (.s 1 o) [(n.toNat,0)]=some (rec,o')/\o'+1<=rec.length:=iJ (by omega) (by rw[h.eta h0 h1];exact Zf _)
theorem aa5 {es:af}{p:Int}(h:Rw [tI,tI] es)(p0:0<=p)(p1:p<es.length):∃ rec o,bQ (.s 2 es) [(p.toNat,0)]=some (rec,o)/\o+2<=rec.length:=iJ (by omega) (by rw[h.eta p0 p1];exact Zf _)
section
variable {n a0 l0 i: Int} {rs o: af} {d: Bool}
structure JnQ (rs:af)(i:Int)(o:af)(n:Nat):Prop where
 p:JnP rs i o
 n:n=o.length
 w:Rw [tI,tI] o
 b:∀ k:Int,0<=k->k<o.length->0<=ag o k 0/\ag o k 0<=64/\0<=ag o k 1/\ag o k 1<=64*i
end
end Go.V
namespace Go.V
theorem Ob {a0 a1 a2 a4 a5 a6 a7 a8 a9 aA aB aD aL:af}(h0:Rw [.sl [tI]] a0)(h1:Rw [tB] a1)(h2:Rw [tI,tI] a2)(h4:Rw [tI] a4)(h5:Rw [tI,tI] a5)(h6:Rw [tI,tI,tI] a6)(h7:Rw [tI,tI,tI] a7)(h8:Rw [tI,tI,tI,tI] a8)(h9:Rw [.sl [.sl [tI]]] a9)(h10:Rw [.sl [tI,tI]] aA)(h11:Rw [.sl [tI]] aB)(h13:Rw [tI,tI,tI] aD)(h21:Rw [tI] aL)(hs:xK [a0,a1,a2,a4,a5,a6,a7,a8,a9,aA,aB,aD,aL]<=1048576):Al a0 a1 a2 a4 a5 a6 a7 a8 a9 aA aB aD aL:=by
 obtain⟨c0,c1,c2,c4,c5,c6,c7,c8,c9,c10,c11,c13,c21⟩:=LY hs;exact⟨h0,h1,h2,h4,h5,h6,h7,h8,h9,h10,h11,h13,h21,by omega,by omega,by omega,by omega,by omega,by omega,by omega,by omega,by omega,by omega,by omega,by omega,by omega⟩
end Go.V
namespace Go.V
section
variable {n a0 l0: Int} {rs: af}
end
def bsB (m:Bool)(k v p:Int):Bool:=m&&(decide (k=p)||decide (v=p))
theorem acj {m:Bool}{k v p:Int}(h:m=false):bsB m k v p=false:=by subst h;rfl
theorem ach {m:Bool}{k v p:Int}(h:m=true)(e:k=p):bsB m k v p=true:=by subst h;unfold bsB;rw[VK e];rfl
theorem aci {m:Bool}{k v p:Int}(h:m=true)(e:k≠p):bsB m k v p=decide (v=p):=by subst h;unfold bsB;rw[VL e];rfl
def dsC (a0 a1 a2 a6:af)(i:Int):af:=mb a0 a1 a2 (ag a6 i 0) 1
def dsU (a0 a1 a2 a6:af)(i:Int):af:=AJ a0 a1 a2 (ag a6 i 0) 1
def dsE (a0 a1 a2 a6:af)(i:Int):af:=xu a0 a1 a2 (ag a6 i 0) 1
def dsF (a0 a1 a2 a5 a6:af)(i:Int):af:=rpL (zlI (dsE a0 a1 a2 a6 i)) a5 (ag a6 i 0) 1
def dsS (a6:af)(i:Int):af:=delL a6 i (i+1)
end Go.V
namespace Go.V
theorem HR {o:af}{n:Int}{j:Nat}(h:Rw [tI,tI,tI] o)(n0:0<=n)(n1:n<o.length)(hj:j<3):∃ rec o',bQ (L.s 3 o) [(n.toNat,j)]=some (rec,o')/\o'+[L.v (Zq ZG 0)].length<=rec.length/\Yo [L.v (Zq ZG 0)].length (YD o' rec)=j5 am (L.s 3 o) [(n.toNat,j)] 0 [L.v (Zq ZG 0)]:=by
 rcases(show j=0\/j=1\/j=2 by omega)with rfl|rfl|rfl
 ·exact eU (z0:=[.i 0,.i 0,.i 0]) (z:=[.i 0]) h.wf (by omega) rfl (by decide)
 ·exact eU (z0:=[.i 0,.i 0,.i 0]) (z:=[.i 0]) h.wf (by omega) rfl (by decide)
 ·exact eU (z0:=[.i 0,.i 0,.i 0]) (z:=[.i 0]) h.wf (by omega) rfl (by decide)
section
variable {a0 a1 a2: af} {a3: Int} {a4 a5 a6 a7 a8 a9 aA aB: af} {aC: Int} {aD: af} {aE aF aG aH: Int} {aI: Bool} {aJ aK: Int} {aL: af} {aM aN: Int} {i: Int}
theorem Rx {t l:Int}(m:mX a0 a1 a2)(h0:Rw [.sl [tI]] a0)(h1:Rw [tB] a1)(h2:Rw [tI,tI] a2):mX (mb a0 a1 a2 t l) (AJ a0 a1 a2 t l) (xu a0 a1 a2 t l)/\Rw [.sl [tI]] (mb a0 a1 a2 t l)/\Rw [tB] (AJ a0 a1 a2 t l)/\Rw [tI,tI] (xu a0 a1 a2 t l)/\(xu a0 a1 a2 t l).length=a2.length/\bj (mb a0 a1 a2 t l)<=1024/\bj (AJ a0 a1 a2 t l)<=64/\bj (xu a0 a1 a2 t l)<=64:=by
 have h:=DL (t:=t) m h0 h1 h2 l.toNat;have e:∀ X:af->af->af->Int->Int->af,True:=fun _=>trivial
 have c:mb a0 a1 a2 t l=mb a0 a1 a2 t (l.toNat:Int):=by unfold mb;rw[ZE]
 have u:AJ a0 a1 a2 t l=AJ a0 a1 a2 t (l.toNat:Int):=by unfold AJ;rw[ZE]
 have s:xu a0 a1 a2 t l=xu a0 a1 a2 t (l.toNat:Int):=by unfold xu;rw[ZE]
 rw[c,u,s];exact⟨h.m,h.rc,h.ru,h.re,h.l,DN h⟩
section
variable {k m: Bool} {c x y p: Int} {sp: af}
end
end
end Go.V
namespace Go.V
section
variable {a0 a1 a2: af} {a3: Int} {a4 a5 a6 a7 a8 a9 aA aB: af} {aC: Int} {aD: af} {aE aF aG aH: Int} {aI: Bool} {aJ aK: Int} {aL: af} {aM aN: Int} {p: Int}
end
end Go.V
namespace Go.V
end Go.V
namespace Go.V
def ltB (p n s z:Int):Bool:=lgOk p n s&&inR z 9 s
structure LtT (p n s z:Int):Prop where
 g:lgOk p n s=true
 zi:inR z 9 1000=true
 z0:9<=z/\z<=1000/\z<=s
 p0:0<=p
 n1:p+n<=32
 m0:1<=pfN z/\pfN z<=n
 m1:z<=pfN z*16/\pfN z*16<z+16
def pmB (p ad:Int):Bool:=eqB (bK .mul Za p 16) ad
def acX (lg:af)(ad j:Int):Bool:=pmB (ag lg j 0) ad
def KI (lg:af)(ad:Int):Int:=cR (acX lg ad) lg.length
def tcN (cs:af)(f k:Int):Nat->af
 |0=>cs
 |i+1=>Bo (tcN cs f k i) f (k+i) 0
def tcC (cs es:af)(a n:Int):af:=tcN cs (peF es (a/16)) (a%16) n.toNat
structure TcP (cs us es:af)(f k i:Int)(c:af):Prop where
 e:c=tcN cs f k i.toNat
 m:mX c us es
 w:Rw [.sl [tI]] c
section
variable {cs us es c: af} {f k i p: Int}
end
end Go.V
namespace Go.V
def Qb (a7:af)(ad:Int):Int:=ag a7 (KI a7 ad) 0
def tmN (a7:af)(ad:Int):Int:=ag a7 (KI a7 ad) 1
def tmS (a7:af)(ad:Int):Int:=ag a7 (KI a7 ad) 2
def tmD (a0 a2 a7:af)(ad z:Int):af:=tcC a0 a2 (Qb a7 ad*16+z) ((16- (Qb a7 ad*16+z)%16)%16)
theorem Fo {c u e:af}{t:Int}:mb c u e t 0=c/\AJ c u e t 0=u/\xu c u e t 0=e:=⟨rfl,rfl,rfl⟩
section
variable {a0 a1 a2: af} {a3: Int} {a4 a5 a6 a7 a8 a9 aA aB: af} {aC: Int} {aD: af} {aE aF aG aH: Int} {aI: Bool} {aJ aK: Int} {aL: af} {aM aN ad z k: Int}
structure TmT (a1 a2 a5 a7 a8 a0:af)(ad z:Int):Prop where
 k0:0<=KI a7 ad
 k1:KI a7 ad<a7.length
 p:Qb a7 ad*16=ad
 t:LtT (Qb a7 ad) (tmN a7 ad) (tmS a7 ad) z
 b:ltB (Qb a7 ad) (tmN a7 ad) (tmS a7 ad) z=true
 o0:0<=obI a8 ad
 o1:obI a8 ad<a8.length
 m:mX a0 a1 a2
 g:∀ q:Int,Qb a7 ad<=q->q<Qb a7 ad+tmN a7 ad->peM a2 q≠0
 f:a5.length<=32
 d:mX (tmD a0 a2 a7 ad z) a1 a2
 dw:Rw [.sl [tI]] (tmD a0 a2 a7 ad z)
theorem adM {es:af}{x y w:Int}{n:Nat}(h:Rw [tI,tI,tI] es)(hx: -9223372036854775808<=x/\x<=9223372036854775807)(hy: -9223372036854775808<=y/\y<=9223372036854775807)(hw: -9223372036854775808<=w/\w<=9223372036854775807):Rw [tI,tI,tI] (es.set n [.i x,.i y,.i w]):=Rw.set h (show cy [tI,tI,tI] [.i x,.i y,.i w]from⟨⟨rfl,hx⟩,⟨rfl,hy⟩,⟨rfl,hw⟩,trivial⟩) _
end
end Go.V
namespace Go.V
theorem Ed {o:af}{n:Int}(h:Rw [tI,tI,tI] o)(n0:0<=n)(n1:n<o.length):∃ rec o',bQ (L.s 3 o) [(n.toNat,0)]=some (rec,o')/\o'+[L.v (Zq ZG 0),L.v (Zq ZG 0),L.v (Zq ZG 0)].length<=rec.length/\Yo [L.v (Zq ZG 0),L.v (Zq ZG 0),L.v (Zq ZG 0)].length (YD o' rec)=j5 am (L.s 3 o) [(n.toNat,0)] 0 [L.v (Zq ZG 0),L.v (Zq ZG 0),L.v (Zq ZG 0)]:=
 eU (z0:=[.i 0,.i 0,.i 0]) (z:=[.i 0,.i 0,.i 0]) h.wf (by omega) rfl (by decide)
section
variable {a0 a1 a2 a5 a7 a8 c: af} {ad z x: Int}
end
end Go.V
namespace Go.V
section
variable {a0 a1 a2: af} {a3: Int} {a4 a5 a6 a7 a8 a9 aA aB: af} {aC: Int} {aD: af} {aE aF aG aH: Int} {aI: Bool} {aJ aK: Int} {aL: af} {aM aN ad z: Int}
end
end Go.V
namespace Go.V
def c1N (c:Int):Int:=c+1
def nhR (rs:af)(c:Int):Bool:= !hasB rs c
def kqN (k:Bool)(c:Int):Int:=if k=true then c+1 else c
def kqE (k:Bool)(es:af)(c:Int)(rs:af)(p m:Int):af:=if k=true then kpE es c rs p m else es
def kqB (k:Bool)(es:af)(c:Int)(rs:af)(p m:Int):Bool:=k&&kpB es c rs p m
def krC (k:Bool)(cs es:af)(c:Int)(rs:af)(p q:Int):af:=if k=true then koC cs es c rs p q else cs
def krU (k:Bool)(us es:af)(c:Int)(rs:af)(p q:Int):af:=if k=true then koU us es c rs p q else us
def krE (k:Bool)(es:af)(c:Int)(rs:af)(p q:Int):af:=if k=true then koE es c rs p q else es
def krB (k:Bool)(es:af)(c:Int)(rs:af)(p q:Int):Bool:=k&&QI es c rs p q
section
variable {cs us es rs: af} {c p q m: Int}
end
theorem AZ {b x e b' x' e' r r':af}{c c':Int}{z z':Bool}(h1:b=b')(h2:x=x')(h3:e=e')(h4:c=c')(h5:r=r')(h6:z=z'):[DV.agg [.s 1 b,.s 1 x,.s 2 e,.i c,.s 1 r],DV.k z]=[DV.agg [.s 1 b',.s 1 x',.s 2 e',.i c',.s 1 r'],DV.k z']:=by rw[h1,h2,h3,h4,h5,h6]
end Go.V
namespace Go.V
structure KcP (cs es:af)(p q:Int)(xs:af)(i:Int)(d:af):Prop where
 z:i=0->d=cs
 o:0<i->inR (ag xs 0 0) 0 15=true/\d=Bo cs (peF es q) (ag xs 0 0) (ag (ax cs (peF es p) 0) (ag xs 0 0) 0)
section
variable {cs us es xs d: af} {p q i: Int}
end
end Go.V
namespace Go.V
def ifN (b:Bool)(x y:Int):Int:=if b=true then x else y
section
variable {cs us es rs xs: af} {c kp mv ph nx: Int} {k: Bool}
structure JbT (kp mv:Int)(xs:af)(ph nx:Int):Prop where
 k0:0<=kp
 k1:kp<=31
 m0:0<=mv
 m1:mv<=31
 p0:0<=ph
 p1:ph<=5
 n0:0<=nx
 n1:nx<=xs.length
 x:∀ i:Int,0<=i->i<xs.length->0<=ag xs i 0/\ag xs i 0<=15
end
end Go.V
namespace Go.V
section
variable {a0 a1 a2: af} {a3: Int} {a4 a5 a6 a7 a8 a9 aA aB: af} {aC: Int} {aD: af} {aJ aK: Int} {aL: af} {aM aN: Int} {g: Bool}
end
end Go.V
namespace Go.V
def woN (b i:Int):Int:=if slB b i=true then bK .andNot Za b (I0 .shl Za 1 i)else b
theorem aaX {t:Nat}(ht:t<=15):I0 .shl Za 1 (t:Int)=((2^t:Nat):Int):=by
 show YC Za (1*2^(min (t:Int).toNat 64))=_;rw[show min (t:Int).toNat 64=t by omega,X0];have h:t=0\/t=1\/t=2\/t=3\/t=4\/t=5\/t=6\/t=7\/t=8\/t=9\/t=10\/t=11\/t=12\/t=13\/t=14\/t=15:=by omega
 rcases h with rfl|rfl|rfl|rfl|rfl|rfl|rfl|rfl|rfl|rfl|rfl|rfl|rfl|rfl|rfl|rfl<;>rfl
structure SpG (S:af):Prop where
 s:∀ i:Nat,i<S.length->spOk (ag S i 0) (ag S i 1) (ag S i 2)=true
 d:∀ i j:Nat,i<S.length->j<S.length->ag S i 0=ag S j 0->i=j
structure LvA (S:af)(a:Int)(i:Nat):Prop where
 l:i<S.length
 p:ag S i 0=a/16
 b:hsB (ag S i 2) ((a-ag S i 0*16)/clsSz (ag S i 1))=true
 o:(a-ag S i 0*16)%clsSz (ag S i 1)=0
section
variable {S: af} {a b: Int} {i j: Nat}
end
end Go.V
namespace Go.V
def fxS (S:af)(i s:Int):af:=S.set i.toNat [.i (ag S i 0),.i (ag S i 1),.i (woN (ag S i 2) s)]
def Mc (S:af)(a:Int):af:=fxS S (lO S a) (JB S a (lO S a))
def RA (me:Bool)(kp mv:Int)(S:af)(a:Int):Bool:=decide (ag (Mc S a) (lO S a) 2=0)&& !bsB me kp mv (ag (Mc S a) (lO S a) 0)
structure Fa where
 C:af
 U:af
 E:af
 F:af
 S:af
def f1 (me:Bool)(kp mv:Int)(s:Fa)(a:Int):Fa:=
 ⟨Oz (RA me kp mv s.S a) (dsC s.C s.U s.E (Mc s.S a) (lO s.S a)) s.C,Oz (RA me kp mv s.S a) (dsU s.C s.U s.E (Mc s.S a) (lO s.S a)) s.U,Oz (RA me kp mv s.S a) (dsE s.C s.U s.E (Mc s.S a) (lO s.S a)) s.E,
  Oz (RA me kp mv s.S a) (dsF s.C s.U s.E s.F (Mc s.S a) (lO s.S a)) s.F,Oz (RA me kp mv s.S a) (dsS (Mc s.S a) (lO s.S a)) (Mc s.S a)⟩
structure FrI (s:Fa):Prop where
 m:mX s.C s.U s.E
 rc:Rw [.sl [tI]] s.C
 ru:Rw [tB] s.U
 re:Rw [tI,tI] s.E
 rf:Rw [tI,tI] s.F
 rs:Rw [tI,tI,tI] s.S
 lf:s.F.length<=65
 ls:s.S.length<=1073741824
 g:SpG s.S
section
variable {S: af} {a b x: Int} {i j: Nat}
end
end Go.V
namespace Go.V
section
variable {s: Fa} {a b: Int} {i j: Nat} {me: Bool} {kp mv: Int}
end
def fN (me:Bool)(kp mv:Int)(l:af)(s:Fa):Nat->Fa
 |0=>s
 |n+1=>f1 me kp mv (fN me kp mv l s n) (ag l n 0)
structure FqI (l:af)(i:Nat)(s:Fa):Prop where
 fr:FrI s
 q:∀ j:Nat,i<=j->j<l.length->∃ k,LvA s.S (ag l j 0) k
def DsA (l:af):Prop:=∀ i j:Nat,i<j->j<l.length->ag l i 0≠ag l j 0
section
variable {a0 a1 a2: af} {a3: Int} {a4 a5 a6 a7 a8 a9 aA aB: af} {aC: Int} {aD: af} {aE aF aG aH: Int} {aI: Bool} {aJ aK: Int} {aL: af} {aM aN: Int}
end
end Go.V
namespace Go.V
def snB (p k b s:Int):Bool:=spOk p k b&&hsB b s
def snN (p k b s:Int):Int:=if snB p k b s=true then woN b s else b
def fzC (me:Bool)(kp mv:Int)(c u e f s:af)(a:Int):af:=(f1 me kp mv ⟨c,u,e,f,s⟩ a).C
def fzU (me:Bool)(kp mv:Int)(c u e f s:af)(a:Int):af:=(f1 me kp mv ⟨c,u,e,f,s⟩ a).U
def fzE (me:Bool)(kp mv:Int)(c u e f s:af)(a:Int):af:=(f1 me kp mv ⟨c,u,e,f,s⟩ a).E
def fzF (me:Bool)(kp mv:Int)(c u e f s:af)(a:Int):af:=(f1 me kp mv ⟨c,u,e,f,s⟩ a).F
def fzS (me:Bool)(kp mv:Int)(c u e f s:af)(a:Int):af:=(f1 me kp mv ⟨c,u,e,f,s⟩ a).S
def tkC (me:Bool)(kp mv:Int)(c u e f s l:af):af:=(fN me kp mv l ⟨c,u,e,f,s⟩ l.length).C
def tkU (me:Bool)(kp mv:Int)(c u e f s l:af):af:=(fN me kp mv l ⟨c,u,e,f,s⟩ l.length).U
def tkE (me:Bool)(kp mv:Int)(c u e f s l:af):af:=(fN me kp mv l ⟨c,u,e,f,s⟩ l.length).E
def tkF (me:Bool)(kp mv:Int)(c u e f s l:af):af:=(fN me kp mv l ⟨c,u,e,f,s⟩ l.length).F
def tkS (me:Bool)(kp mv:Int)(c u e f s l:af):af:=(fN me kp mv l ⟨c,u,e,f,s⟩ l.length).S
def Tc (l:af):Int:=l.length
def tgB (k:Bool)(c n ck:Int):Bool:=k&&(decide (c≠100000)&&(inR n 0 1000&&decide (ck+n<=1000000)))
def t0B (k:Bool)(c t:Int)(m:af):Bool:=k&&(decide (c≠100000)&&inR t 0 (m.length-1))
structure TkP (me:Bool)(kp mv:Int)(l:af)(s:Fa)(i:Int)(c u e f t:af):Prop where
 c:c=(fN me kp mv l s i.toNat).C
 u:u=(fN me kp mv l s i.toNat).U
 e:e=(fN me kp mv l s i.toNat).E
 f:f=(fN me kp mv l s i.toNat).F
 t:t=(fN me kp mv l s i.toNat).S
section
variable {me: Bool} {kp mv: Int} {l c u e f t c0 u0 e0 f0 t0: af} {s: Fa} {i a: Int}
end
theorem EU {l:af}{i:Int}(i0:0<=i)(i1:i<=l.length):oY l i.toNat (Gb (l.length:Int) i)=l.drop i.toNat:=by
 unfold oY Gb;exact Yj (by rw[Zn];omega)
theorem uq {l:af}{i:Int}:oY l (YB 0) (Gb i 0)=l.take i.toNat:=by
 unfold oY Gb;rw[show YB 0=0 from rfl,List.drop_zero,Nat.sub_zero]
theorem M4 {fs:List Ty}{l:af}{a b:Nat}(h:Rw fs l):Rw fs (oY l a b)/\(oY l a b).length<=l.length:=by
 have q:(oY l a b).length<=l.length:=by unfold oY;rw[Zh,Zn];omega
 exact⟨⟨ZN q h.1,fun e he=>h.2 e (Xo (Xn he))⟩,q⟩
section
variable {rm now age: Int} {qs: af}
end
end Go.V
namespace Go.V
section
variable {S L: af} {a: Int} {i: Nat}
end
section
variable {me: Bool} {kp mv: Int} {c u e f t: af} {a: Int} {i: Nat}
end
section
variable {a0 a1 a2 a4 a5 a6 a7 a8 a9 aA aB aD aL: af} {a: Int} {i: Nat}
end
end Go.V
namespace Go.V
def J8 (ck n:Int):Int:=ck+n
section
variable {k: Bool} {c n ck t: Int} {m: af}
end
section
variable {a0 a1 a2: af} {a3: Int} {a4 a5 a6 a7 a8 a9 aA aB: af} {aC: Int} {aD: af} {aE aF aG aH: Int} {aI: Bool} {aJ aK: Int} {aL: af} {aM aN: Int} {n i: Int} {c u e f t: af}
structure TiT (aC:Int)(aD:af)(aF n:Int)(s:Fa):Prop where
 b:qeB aC aD (J8 aF n) 100=true
 d:DsA (QM aC aD (J8 aF n) 100)
 q:FqI (QM aC aD (J8 aF n) 100) 0 s
 w:Rw [tI,tI,tI] (qeL aC aD (J8 aF n) 100)
 l:(qeL aC aD (J8 aF n) 100).length<=aD.length
 m:(QM aC aD (J8 aF n) 100).length<=aD.length
 r:Rw [tI,tI,tI] (QM aC aD (J8 aF n) 100)
end
end Go.V
namespace Go.V
def Pv (s:Int):Int:=(1103515245*s+12345)%1073741824
def nxS (s:Int):Int:=if inR s 0 1073741823=true then Pv s else 0
def G0 (s n:Int):Bool:=inR s 0 1073741823&&inR n 1 1000
def cuI (s n:Int):Int:=if G0 s n=true then Pv s/1024%n else 0
def cuS (s n:Int):Int:=if G0 s n=true then Pv s else s
theorem Ik {s:Int}:0<=Pv s/\Pv s<=1073741823:=by unfold Pv;omega
theorem ado {s:Int}(h:inR s 0 1073741823=true):nxS s=bK .rem Za (bK .add Za (bK .mul Za 1103515245 s) 12345) 1073741824:=by
 have q:=bz.1 h;unfold nxS;rw[VN h,CL (by omega),bT (by omega),wg (by omega)];rfl
theorem adn {s:Int}(h:inR s 0 1073741823=false):nxS s=0:=by unfold nxS;rw[h];rfl
theorem Rq {s n:Int}(h1:inR s 0 1073741823=true)(h2:inR n 1 1000=true):cuI s n=bK .rem Za (bK .quo Za (nxS s) 1024) n/\cuS s n=nxS s:=by
 have q:=bz.1 h2;have e:nxS s=Pv s:=by unfold nxS;rw[VN h1]
 have r:=Ik (s:=s);have b:G0 s n=true:=by unfold G0;rw[h1,h2];rfl
 unfold cuI cuS;rw[VN b,VN b,e,v9 (by omega) (by omega) (by omega),wg (by omega)];exact⟨rfl,rfl⟩
theorem Kc {s n:Int}(h:G0 s n=false):cuI s n=0/\cuS s n=s:=by unfold cuI cuS;rw[h];exact⟨rfl,rfl⟩
theorem Rn {s n:Int}(h:inR s 0 1073741823=false):G0 s n=false:=by unfold G0;rw[h];rfl
theorem Ro {s n:Int}(h:inR n 1 1000=false):G0 s n=false:=by unfold G0;rw[h,Z4]
theorem Rp {s n:Int}(h1:inR s 0 1073741823=true)(n1:1<=n)(n2:n<=1000):0<=cuI s n/\cuI s n<n/\inR (cuS s n) 0 1073741823=true:=by
 have b:G0 s n=true:=by unfold G0;rw[h1,bz.2 ⟨n1,n2⟩];rfl
 have r:=Ik (s:=s);unfold cuI cuS;rw[VN b,VN b];exact⟨Int.emod_nonneg _ (by omega),Int.emod_lt_of_pos _ (by omega),bz.2 r⟩
def shB (s n:Int):Bool:=inR s 0 1073741823&&inR n 0 64
def ioN:Nat->af
 |0=>[]
 |n+1=>ioN n++[[.i (n:Int)]]
def swE (es:af)(i j:Int):af:=(es.set i.toNat [.i (ag es j 0)]).set j.toNat [.i (ag es i 0)]
def shL:Nat->af->Int->af
 |0,es,_=>es
 |k+1,es,s=>shL k (swE es ((k:Int)+1) (cuI s ((k:Int)+2))) (cuS s ((k:Int)+2))
def shS:Nat->Int->Int
 |0,s=>s
 |k+1,s=>shS k (cuS s ((k:Int)+2))
def aaY (s n:Int):af:=if shB s n=true then shL (n-1).toNat (ioN n.toNat) s else[]
def aaZ (s n:Int):Int:=if shB s n=true then shS (n-1).toNat s else s
structure IoP (i:Int)(o:af):Prop where
 e:o=ioN i.toNat
structure ShP (n s0 i:Int)(o:af)(s:Int):Prop where
 r:Rw [tI] o
 l:(o.length:Int)=n
 k:inR s 0 1073741823=true
 e:shL i.toNat o s=shL (n-1).toNat (ioN n.toNat) s0
 f:shS i.toNat s=shS (n-1).toNat s0
end Go.V
namespace Go.V
end Go.V
namespace Go.V
theorem Rs {l:L}{p:List (Nat×Nat)}{k:Nat}{es:af}(h:gW l p=some (k,es)):gW l p=some (k,mR l p):=by unfold mR;rw[h]
theorem acq {x:af}{a:Int}{r:af}(h:Rw [.sl [tI]] x)(h0:0<=a)(h1:a<x.length)(hc:bj x<=1073741824)(hr:r.length=1):gW (.s 1 x) [(a.toNat,0)]=some (1,mR (.s 1 x) [(a.toNat,0)])/\bM (mR (.s 1 x) [(a.toNat,0)])/\((mR (.s 1 x) [(a.toNat,0)]).length+r.length)*8<=70368744177664/\(mR (.s 1 x) [(a.toNat,0)]).length+r.length<=70368744177664:=by
 obtain⟨es,e⟩:=vE h h0 h1;have g:=pF (es:=x) (i:=a) (j:=0);have l:(ax x a 0).length<=bj (ax x a 0):=by unfold bj;omega
 refine⟨Rs e,?_,?_⟩
 ·rw[nU];exact(Rw.sub (fs:=[.sl [tI]]) (j:=0) (i:=a) h (by omega) rfl).scal rfl
 ·rw[nU];constructor<;>omega
end Go.V
namespace Go.V
def LG (n:Int)(es:af):Prop:=∀ j:Nat,j<es.length->0<=ag es (j:Int) 0/\ag es (j:Int) 0<n
theorem RY {es:af}{i j:Nat}{x:Int}(hj:j<es.length):ag (es.set i [.i x]) (j:Int) 0=if i=j then x else ag es (j:Int) 0:=by
 unfold ag;simp only[ZE,Zo];by_cases c:i=j
 ·subst c;rw[VN rfl,List.getElem?_set_self hj];rfl
 ·rw[VO c,List.getElem?_set_ne c]
theorem LG.st {n x:Int}{es:af}{i:Nat}(h:LG n es)(x0:0<=x)(x1:x<n):LG n (es.set i [.i x]):=fun j hj=>by
 rw[ZS]at hj;rw[RY hj];split;exact⟨x0,x1⟩;exact h j hj
theorem LG.at {n i:Int}{es:af}(h:LG n es)(i0:0<=i)(i1:i<es.length):0<=ag es i 0/\ag es i 0<n:=by
 have:=h i.toNat (by omega);rw[Zp i0]at this;exact this
theorem LG.sw {n i j:Int}{es:af}(h:LG n es)(i0:0<=i)(i1:i<es.length)(j0:0<=j)(j1:j<es.length):LG n (swE es i j):=by
 have a:=h.at i0 i1;have b:=h.at j0 j1;exact(h.st b.1 b.2).st a.1 a.2
theorem RV {a:af}{r:aO}{n j:Nat}(h:n<a.length):ag (a++[r]) (n:Int) j=ag a (n:Int) j:=by
 unfold ag;simp only[ZE,Zo];rw[List.getElem?_append_left h]
theorem RX {a:af}{r:aO}{j:Nat}:ag (a++[r]) (a.length:Int) j=KH (r.getD j .g):=by
 unfold ag;simp only[ZE,Zo];rw[ZM (Zf _),Nat.sub_self];rfl
end Go.V
namespace Go.V
def rcK (S:af)(a:Int):Int:=ag S (lO S a) 1
def rcB (S D:af)(t a:Int):Bool:=acm (ax D t 0) (rcK S a) a
def rcD (S D:af)(t a:Int):af:=if rcB S D t a=true then D.set t.toNat [.s 1 (cuL (ax D t 0) (rcK S a) a)]else D
structure RS where
 s:Fa
 D:af
def r1 (me:Bool)(kp mv t:Int)(z:RS)(a:Int):RS:=⟨if rcB z.s.S z.D t a=true then z.s else f1 me kp mv z.s a,rcD z.s.S z.D t a⟩
def rN (me:Bool)(kp mv t:Int)(l:af)(z:RS):Nat->RS
 |0=>z
 |n+1=>r1 me kp mv t (rN me kp mv t l z n) (ag l n 0)
structure CdI (D:af)(n B:Nat):Prop where
 w:Rw [.sl [.sl [tI]]] D
 l:D.length=n
 c:bj D<=B
structure RqI (l:af)(n B i:Nat)(z:RS):Prop where
 fr:FrI z.s
 q:∀ j:Nat,i<=j->j<l.length->∃ k,LvA z.s.S (ag l j 0) k
 d:CdI z.D n (B+40*i)
section
variable {S D l: af} {t a: Int} {n B i: Nat} {me: Bool} {kp mv: Int} {z: RS}
end
section
variable {me: Bool} {kp mv t a: Int} {c u e f s x: af}
end
structure RaP (me:Bool)(kp mv t:Int)(l:af)(z:RS)(i:Int)(c u e f s x:af):Prop where
 c:c=(rN me kp mv t l z i.toNat).s.C
 u:u=(rN me kp mv t l z i.toNat).s.U
 e:e=(rN me kp mv t l z i.toNat).s.E
 f:f=(rN me kp mv t l z i.toNat).s.F
 s:s=(rN me kp mv t l z i.toNat).s.S
 x:x=(rN me kp mv t l z i.toNat).D
section
variable {me: Bool} {kp mv t: Int} {l c u e f s x c0 u0 e0 f0 s0 x0: af} {z: RS} {i: Int}
end
section
variable {a0 a1 a2: af} {a3: Int} {a4 a5 a6 a7 a8 a9 aA aB: af} {aC: Int} {aD: af} {aE aF aG aH: Int} {aI: Bool} {aJ aK: Int} {aL: af} {aM aN t: Int}
end
end Go.V
namespace Go.V
def coT (b x:af)(t:Int):af:=if htB b x t=true then ax x t 0 else[]
section
variable {b x: af} {f t to a: Int}
end
section
variable {a0 a1 a2: af} {a3: Int} {a4 a5 a6 a7 a8 a9 aA aB: af} {aC: Int} {aD: af} {aE aF aG aH: Int} {aI: Bool} {aJ aK: Int} {aL: af} {aM aN t i: Int} {c u e f s x: af}
structure CoI (a9 aA aB:af)(t:Int)(z:Fa):Prop where
 h:htB aA aB t=true
 t0:0<=t
 t1:t<a9.length
 d:DsA (coT aA aB t)
 q:RqI (coT aA aB t) a9.length 1000000000 0 ⟨z,a9⟩
 l:(coT aA aB t).length<=30
end
end Go.V
namespace Go.V
section
variable {sp lg: af} {a: Int}
end
def foS (os:af)(ad:Int):Int:=ag os (obI os ad) 2
def foT (os:af)(ad:Int):Int:=ag os (obI os ad) 3
def RH (os:af)(ad:Int):Int:=clsOf (foS os ad)
def fcC (cs es os:af)(ad:Int):af:=tcC cs es ad (clsSz (RH os ad))
def fqR (os:af)(rm:Int)(qs:af)(ck ad:Int):af:=qaR rm qs ad (RH os ad) ck
def fqL (os:af)(rm:Int)(qs:af)(ck ad:Int):af:=qaL rm qs ad (RH os ad) ck
def Td (lg:af)(ad:Int):Int:=ag lg (KI lg ad) 0
def lfN (lg:af)(ad:Int):Int:=ag lg (KI lg ad) 1
structure FoT (es sp lg os cs:af)(ad:Int):Prop where
 k0:0<=obI os ad
 k1:obI os ad<os.length
 e:ag os (obI os ad) 1=ad
 ok:okO sp lg ad (foS os ad)=true
 th:inR (foT os ad) 0 (cs.length-1)=true
 s0:1<=foS os ad
 s1:foS os ad<=1000
section
variable {a0 a1 a2: af} {a3: Int} {a4 a5 a6 a7 a8 a9 aA aB: af} {aC: Int} {aD: af} {aE aF aG aH: Int} {aI: Bool} {aJ aK: Int} {aL: af} {aM aN t ad: Int}
structure FsT (a0 a1 a2 a6 a8:af)(ad:Int):Prop where
 lv:∃ i,LvA a6 ad i
 d0:0<=ad
 d1:ad<=511
 mp:peM a2 (ad/16)≠0
 n0:1<=clsSz (RH a8 ad)
 n1:ad%16+clsSz (RH a8 ad)<=16
 m:mX (fcC a0 a2 a8 ad) a1 a2
 w:Rw [.sl [tI]] (fcC a0 a2 a8 ad)
end
end Go.V
namespace Go.V
theorem TS {ls:af}(h:Rw [.sl [tI]] ls)(hc:bj ls<=1099511627776):Ns ls:=by
 refine⟨h,by unfold bj at hc;omega,fun i=>?_⟩;have:=pF (es:=ls) (i:=i) (j:=0);unfold bj at this hc;omega
section
variable {ls: af} {k a: Int}
theorem Rb (h:inR k 0 3=false):clB ls k=false:=by unfold clB;rw[h];rfl
theorem Rc (h:inR k 0 3=true):clB ls k=caOk ls:=by unfold clB;rw[h];rfl
theorem Re (h:caOk ls=false):clB ls k=false:=by unfold clB;rw[h];simp
theorem Rf (h:caOk ls=true):clB ls k=inR k 0 3:=by unfold clB;rw[h];simp
theorem acn (h:Rw [.sl [tI]] ls)(hc:bj ls<=1073741824)(g:clB ls k=true):gW (.s 1 ls) [(k.toNat,0)]=some (1,ax ls k 0)/\bM (ax ls k 0)/\((ax ls k 0).length+1)*8<=70368744177664/\(ax ls k 0).length+1<=70368744177664:=by
 have c:=LW g;have q:=acq (r:=[[.i 0]]) h c.1 (by omega) hc rfl;simp only[nU,Zr,Zt]at q;exact q
end
section
variable {b x: af} {f to a t: Int}
end
section
variable {D s: af} {t ad: Int} {i: Nat}
theorem Hl {cs:af}{fr:Int}(h:Rw [.sl [.sl [tI]]] cs)(h0:0<=fr)(h1:fr<cs.length):∃ rec o,bQ (.s 1 cs) [(fr.toNat,0)]=some (rec,o)/\o+[L.s 1 []].length<=rec.length/\Yo [L.s 1 []].length (YD o rec)=j5 am (.s 1 cs) [(fr.toNat,0)] 0 [L.s 1 []]:=by
 refine⟨[.s 1 (ax cs fr 0)],0,?_,Zf _,?_⟩
 ·show(cs[fr.toNat]?).map (·,0)=_;rw[Dv h h0 h1];rfl
 ·show[L.s 1 (ax cs fr 0)]=[L.s 1 (mR (.s 1 cs) [(fr.toNat,0)])];rw[nU]
theorem Ft {cs:af}{fr:Int}(h:Rw [.sl [.sl [tI]]] cs)(h0:0<=fr)(h1:fr<cs.length):gW (.s 1 cs) [(fr.toNat,0)]=some (1,ax cs fr 0):=by
 unfold gW;show(match(cs[fr.toNat]?).map (·,0)with
  | some (rec,o)=>match rec[o]? with
    |some (.s sz es)=>some (sz,es)
    |_=>none
  |none=>none)=_
 rw[Dv h h0 h1];rfl
theorem S9 {o:af}{n:Int}{j:Nat}(h:Rw [tI,tI,tI,tI] o)(n0:0<=n)(n1:n<o.length)(hj:j<4):∃ rec o',bQ (L.s 4 o) [(n.toNat,j)]=some (rec,o')/\o'+[L.v (Zq ZG 0)].length<=rec.length/\Yo [L.v (Zq ZG 0)].length (YD o' rec)=j5 am (L.s 4 o) [(n.toNat,j)] 0 [L.v (Zq ZG 0)]:=by
 rcases(show j=0\/j=1\/j=2\/j=3 by omega)with rfl|rfl|rfl|rfl
 ·exact eU (z0:=[.i 0,.i 0,.i 0,.i 0]) (z:=[.i 0]) h.wf (by omega) rfl (by decide)
 ·exact eU (z0:=[.i 0,.i 0,.i 0,.i 0]) (z:=[.i 0]) h.wf (by omega) rfl (by decide)
 ·exact eU (z0:=[.i 0,.i 0,.i 0,.i 0]) (z:=[.i 0]) h.wf (by omega) rfl (by decide)
 ·exact eU (z0:=[.i 0,.i 0,.i 0,.i 0]) (z:=[.i 0]) h.wf (by omega) rfl (by decide)
end
section
variable {k: Bool} {c t: Int} {m: af}
end
section
variable {ls: af} {k n: Int}
end
end Go.V
namespace Go.V
structure LfT (a5 a7:af)(ad:Int):Prop where
 k0:0<=KI a7 ad
 k1:KI a7 ad<a7.length
 p:Td a7 ad*16=ad
 p0:0<=Td a7 ad
 n1:1<=lfN a7 ad
 m:Td a7 ad+lfN a7 ad<=32
 f:a5.length<=32
section
variable {a0 a1 a2: af} {a3: Int} {a4 a5 a6 a7 a8 a9 aA aB: af} {aC: Int} {aD: af} {aE aF aG aH: Int} {aI: Bool} {aJ aK: Int} {aL: af} {aM aN t ad i: Int} {c u e f s x: af}
structure FqT (a8 a9:af)(aC:Int)(aD:af)(aF t ad:Int)(z:Fa):Prop where
 t0:0<=t
 t1:t<a9.length
 d:DsA (fqR a8 aC aD aF ad)
 q:RqI (fqR a8 aC aD aF ad) a9.length 1000000000 0 ⟨z,a9⟩
 l:(fqR a8 aC aD aF ad).length<=501
 w:Rw [tI,tI,tI] (fqL a8 aC aD aF ad)
 wl:(fqL a8 aC aD aF ad).length<=501
 r:Rw [tI,tI,tI] (fqR a8 aC aD aF ad)
end
section
variable {k g: Bool} {c t ad: Int} {es sp lg os m b x: af}
end
end Go.V
namespace Go.V
section
variable {rm a c s i: Int} {qs: af}
end
def lgE (c u e l:af)(ad:Int):af:=xu c u e (Td l ad) (lfN l ad)
def lgF (c u e f l:af)(ad:Int):af:=rpL (zlI (lgE c u e l ad)) f (Td l ad) (lfN l ad)
end Go.V
namespace Go.V
section
variable {a0 a1 a2: af} {a3: Int} {a4 a5 a6 a7 a8 a9 aA aB: af} {aC: Int} {aD: af} {aE aF aG aH: Int} {aI: Bool} {aJ aK: Int} {aL: af} {aM aN t ad: Int}
end
end Go.V
namespace Go.V
theorem KA {us es rs:af}{c p:Int}:(D6 us es c rs p).length=us.length:=by unfold D6;split<;>simp
theorem D5 {us es rs:af}{c p:Int}:(CF us es c rs p).length=es.length:=by
 unfold CF;split;exact qK;rfl
theorem ac4 {us es rs:af}{c p:Int}(h:sQ us es c rs p=false):D6 us es c rs p=us/\CF us es c rs p=es:=by unfold D6 CF;rw[h];exact⟨rfl,rfl⟩
theorem ac5 {us es rs:af}{c p:Int}(h:sQ us es c rs p=true):D6 us es c rs p=us.set (dT us).toNat [.v (.bool true)]/\CF us es c rs p=wU es p 2 (dT us):=by unfold D6 CF;rw[VN h,VN h];exact⟨rfl,rfl⟩
theorem ac0 {us es rs:af}{c p:Int}(h:hasB rs c=true):sQ us es c rs p=false:=by unfold sQ;rw[h];rfl
theorem ac1 {us es rs:af}{c p:Int}(h:dT us<0):sQ us es c rs p=false:=by unfold sQ;rw[VL (p:=0<=dT us) (by omega)];simp
theorem ac2 {us es rs:af}{c p:Int}(h:inR p 0 (es.length-1)=false):sQ us es c rs p=false:=by unfold sQ;rw[h];simp
theorem ac3 {us es rs:af}{c p:Int}(h:peM es p≠0):sQ us es c rs p=false:=by unfold sQ;rw[VL h];simp
theorem ac6 {us es rs:af}{c p:Int}(h1:hasB rs c=false)(h2:0<=dT us)(h3:inR p 0 (es.length-1)=true)(h4:peM es p=0):sQ us es c rs p=true:=by unfold sQ;rw[h1,h3,VK h2,VK h4];rfl
structure U2 where
 u:af
 e:af
def Ak (a1 a2:af)(c:Int)(rs:af)(t:Int):Nat->U2
 |0=>⟨a1,a2⟩
 |n+1=>⟨D6 (Ak a1 a2 c rs t n).u (Ak a1 a2 c rs t n).e (c+n) rs (t+n),CF (Ak a1 a2 c rs t n).u (Ak a1 a2 c rs t n).e (c+n) rs (t+n)⟩
theorem Jp {a1 a2 rs:af}{c t:Int}{n:Nat}:Ak a1 a2 c rs t (n+1)=⟨D6 (Ak a1 a2 c rs t n).u (Ak a1 a2 c rs t n).e (c+n) rs (t+n),CF (Ak a1 a2 c rs t n).u (Ak a1 a2 c rs t n).e (c+n) rs (t+n)⟩:=rfl
def xqB (a1 a2:af)(c:Int)(rs:af)(t i:Int):Bool:=sQ (Ak a1 a2 c rs t i.toNat).u (Ak a1 a2 c rs t i.toNat).e (c+i) rs (t+i)
def xqF (a1 a2:af)(c:Int)(rs:af)(t n:Int):Int:=cR (bR (xqB a1 a2 c rs t)) n.toNat
structure Au (a0 a1 a2:af)(c:Int)(rs:af)(t i:Int)(u e:af):Prop where
 m:mX a0 u e
 ru:Rw [tB] u
 re:Rw [tI,tI] e
 l:e.length=a2.length
 lu:u.length=a1.length
 eu:u=(Ak a1 a2 c rs t i.toNat).u
 ee:e=(Ak a1 a2 c rs t i.toNat).e
 g:upto (bR (bR (xqB a1 a2 c rs t))) i
section
variable {a0 a1 a2 rs u e: af} {c t i n: Int}
theorem abR (m:mX a0 a1 a2)(ru:Rw [tB] a1)(re:Rw [tI,tI] a2):Au a0 a1 a2 c rs t 0 a1 a2:=⟨m,ru,re,rfl,rfl,rfl,rfl,bD⟩
theorem Ni (h:Au a0 a1 a2 c rs t i u e):sQ u e (c+i) rs (t+i)=xqB a1 a2 c rs t i:=by unfold xqB;rw[<-h.eu, <-h.ee]
theorem Qn (h:Au a0 a1 a2 c rs t i u e)(i0:0<=i)(b:sQ u e (c+i) rs (t+i)=true):Au a0 a1 a2 c rs t (i+1) (D6 u e (c+i) rs (t+i)) (CF u e (c+i) rs (t+i)):=by
 have k:=(h.m).u;have k2:=h.m.n1;have w:=Mu (c:=c+i) (rs:=rs) (p:=t+i) h.ru h.re (by omega);have s:(i+1).toNat=i.toNat+1:=by omega
 have q:((i.toNat:Nat):Int)=i:=by omega
 refine⟨SP h.m,w.1,w.2,by rw[D5];exact h.l,by rw[KA];exact h.lu,?_,?_,aU h.g (fX ?_)⟩
 ·rw[s,Jp,q, <-h.eu, <-h.ee]
 ·rw[s,Jp,q, <-h.eu, <-h.ee]
 ·show bR (xqB a1 a2 c rs t) i=false;unfold bR;rw[<-Ni h,b];rfl
theorem Qm (h:Au a0 a1 a2 c rs t i u e)(i0:0<=i)(i1:i<n)(b:sQ u e (c+i) rs (t+i)=false):xqF a1 a2 c rs t n=i:=
 dE h.g i0 (by omega) (fX (by rw[<-Ni h];exact b))
theorem Lx (h:Au a0 a1 a2 c rs t i u e)(i1:n<=i)(i0:0<=i):xqF a1 a2 c rs t n= -1:=dF h.g (by omega)
theorem E9 (m:mX a0 a1 a2)(ru:Rw [tB] a1)(re:Rw [tI,tI] a2):∀ k:Nat,mX a0 (Ak a1 a2 c rs t k).u (Ak a1 a2 c rs t k).e/\Rw [tB] (Ak a1 a2 c rs t k).u/\Rw [tI,tI] (Ak a1 a2 c rs t k).e/\(Ak a1 a2 c rs t k).e.length=a2.length
 |0=>⟨m,ru,re,rfl⟩
 | k+1=>by
   obtain⟨q1,q2,q3,q4⟩:=E9 m ru re k;have k1:=q1.u;have k2:=q1.n1;have w:=Mu (c:=c+k) (rs:=rs) (p:=t+k) q2 q3 (by omega);exact⟨SP q1,w.1,w.2,by rw[Jp];show(CF _ _ _ _ _).length=_;rw[D5];exact q4⟩
end
def wR (a2 a5:af)(n:Int):Int:=tkA (zlI a2) a5 n
def Lw (a1 a2:af)(a3:Int)(a4 a5:af)(n:Int):Int:=xqF a1 a2 a3 a4 (wR a2 a5 n) n
def Nc (a1 a2:af)(a3:Int)(a4 a5:af)(n:Int):Int:=if tkB (zlI a2) a5 n=true then(if Lw a1 a2 a3 a4 a5 n<0 then n else Lw a1 a2 a3 a4 a5 n)else 0
def JD (a1 a2:af)(a3:Int)(a4 a5:af)(n:Int):Int:=if tkB (zlI a2) a5 n=true then(if Lw a1 a2 a3 a4 a5 n<0 then 0 else Lw a1 a2 a3 a4 a5 n)else 0
def xpB (a1 a2:af)(a3:Int)(a4 a5:af)(n:Int):Bool:=tkB (zlI a2) a5 n&&decide (Lw a1 a2 a3 a4 a5 n<0)
def Gg (a1 a2:af)(a3:Int)(a4 a5:af)(n:Int):U2:=Ak a1 a2 a3 a4 (wR a2 a5 n) (Nc a1 a2 a3 a4 a5 n).toNat
def xpC (a0 a1 a2:af)(a3:Int)(a4 a5:af)(n:Int):af:=mb a0 (Gg a1 a2 a3 a4 a5 n).u (Gg a1 a2 a3 a4 a5 n).e (wR a2 a5 n) (JD a1 a2 a3 a4 a5 n)
def xpU (a0 a1 a2:af)(a3:Int)(a4 a5:af)(n:Int):af:=AJ a0 (Gg a1 a2 a3 a4 a5 n).u (Gg a1 a2 a3 a4 a5 n).e (wR a2 a5 n) (JD a1 a2 a3 a4 a5 n)
def xpE (a0 a1 a2:af)(a3:Int)(a4 a5:af)(n:Int):af:=xu a0 (Gg a1 a2 a3 a4 a5 n).u (Gg a1 a2 a3 a4 a5 n).e (wR a2 a5 n) (JD a1 a2 a3 a4 a5 n)
def xpK (a1 a2:af)(a3:Int)(a4 a5:af)(n:Int):Int:=if tkB (zlI a2) a5 n=true then(if Lw a1 a2 a3 a4 a5 n<0 then a3+n else a3+Lw a1 a2 a3 a4 a5 n+1)else a3
def xpF (a1 a2:af)(a3:Int)(a4 a5:af)(n:Int):af:=if xpB a1 a2 a3 a4 a5 n=true then tkL (zlI a2) a5 n else a5
def xpA (a1 a2:af)(a3:Int)(a4 a5:af)(n:Int):Int:=if xpB a1 a2 a3 a4 a5 n=true then wR a2 a5 n else-1
section
variable {a0 a1 a2: af} {a3: Int} {a4 a5 u e c' u' e': af} {n i: Int}
theorem abN (h:tkB (zlI a2) a5 n=false):xpC a0 a1 a2 a3 a4 a5 n=a0/\xpU a0 a1 a2 a3 a4 a5 n=a1/\xpE a0 a1 a2 a3 a4 a5 n=a2/\xpK a1 a2 a3 a4 a5 n=a3/\xpF a1 a2 a3 a4 a5 n=a5/\xpA a1 a2 a3 a4 a5 n= -1/\xpB a1 a2 a3 a4 a5 n=false:=by
 have d:JD a1 a2 a3 a4 a5 n=0:=by unfold JD;rw[h];rfl
 have j:Nc a1 a2 a3 a4 a5 n=0:=by unfold Nc;rw[h];rfl
 have b:xpB a1 a2 a3 a4 a5 n=false:=by unfold xpB;rw[h];rfl
 have v:Gg a1 a2 a3 a4 a5 n=⟨a1,a2⟩:=by unfold Gg;rw[j];rfl
 refine⟨?_,?_,?_,?_,?_,?_,b⟩
 ·unfold xpC;rw[d,v];exact Fo.1
 ·unfold xpU;rw[d,v];exact(Fo (c:=a0)).2.1
 ·unfold xpE;rw[d,v];exact(Fo (c:=a0) (u:=a1)).2.2
 ·unfold xpK;rw[h];rfl
 ·unfold xpF;rw[b];rfl
 ·unfold xpA;rw[b];rfl
theorem ael (h:tkB (zlI a2) a5 n=true)(p:Au a0 a1 a2 a3 a4 (wR a2 a5 n) i u e)(i0:0<=i)(i1:n<=i)(i2:i<=n):xpC a0 a1 a2 a3 a4 a5 n=a0/\xpU a0 a1 a2 a3 a4 a5 n=u/\xpE a0 a1 a2 a3 a4 a5 n=e/\xpK a1 a2 a3 a4 a5 n=a3+n/\xpF a1 a2 a3 a4 a5 n=tkL (zlI a2) a5 n/\xpA a1 a2 a3 a4 a5 n=wR a2 a5 n/\xpB a1 a2 a3 a4 a5 n=true:=by
 have f:Lw a1 a2 a3 a4 a5 n= -1:=Lx p i1 i0;have d:JD a1 a2 a3 a4 a5 n=0:=by unfold JD;rw[VN h,f];rfl
 have j:Nc a1 a2 a3 a4 a5 n=n:=by unfold Nc;rw[VN h,f];rfl
 have b:xpB a1 a2 a3 a4 a5 n=true:=by unfold xpB;rw[h,f];rfl
 have v:Gg a1 a2 a3 a4 a5 n=⟨u,e⟩:=by
  unfold Gg;rw[j,p.eu,p.ee,show i=n by omega]
 refine⟨?_,?_,?_,?_,?_,?_,b⟩
 ·unfold xpC;rw[d,v];exact Fo.1
 ·unfold xpU;rw[d,v];exact(Fo (c:=a0)).2.1
 ·unfold xpE;rw[d,v];exact(Fo (c:=a0) (u:=u)).2.2
 ·unfold xpK;rw[VN h,f];rfl
 ·unfold xpF;rw[VN b]
 ·unfold xpA;rw[VN b]
theorem aek (h:tkB (zlI a2) a5 n=true)(p:Au a0 a1 a2 a3 a4 (wR a2 a5 n) i u e)(i0:0<=i)(i1:i<n)(g:sQ u e (a3+i) a4 (wR a2 a5 n+i)=false):xpC a0 a1 a2 a3 a4 a5 n=mb a0 u e (wR a2 a5 n) i/\xpU a0 a1 a2 a3 a4 a5 n=AJ a0 u e (wR a2 a5 n) i/\xpE a0 a1 a2 a3 a4 a5 n=xu a0 u e (wR a2 a5 n) i/\xpK a1 a2 a3 a4 a5 n=a3+i+1/\xpF a1 a2 a3 a4 a5 n=a5/\xpA a1 a2 a3 a4 a5 n= -1/\xpB a1 a2 a3 a4 a5 n=false:=by
 have f:Lw a1 a2 a3 a4 a5 n=i:=Qm p i0 i1 g;have d:JD a1 a2 a3 a4 a5 n=i:=by unfold JD;rw[VN h,f,VO (by omega)]
 have j:Nc a1 a2 a3 a4 a5 n=i:=by unfold Nc;rw[VN h,f,VO (by omega)]
 have b:xpB a1 a2 a3 a4 a5 n=false:=by unfold xpB;rw[h,f,VL (by omega)];rfl
 have v:Gg a1 a2 a3 a4 a5 n=⟨u,e⟩:=by unfold Gg;rw[j,p.eu,p.ee]
 refine⟨?_,?_,?_,?_,?_,?_,b⟩
 ·unfold xpC;rw[d,v]
 ·unfold xpU;rw[d,v]
 ·unfold xpE;rw[d,v]
 ·unfold xpK;rw[VN h,f,VO (by omega)]
 ·unfold xpF;rw[b];rfl
 ·unfold xpA;rw[b];rfl
theorem aej (m:mX a0 a1 a2)(rc:Rw [.sl [tI]] a0)(ru:Rw [tB] a1)(re:Rw [tI,tI] a2):mX (xpC a0 a1 a2 a3 a4 a5 n) (xpU a0 a1 a2 a3 a4 a5 n) (xpE a0 a1 a2 a3 a4 a5 n)/\Rw [.sl [tI]] (xpC a0 a1 a2 a3 a4 a5 n)/\Rw [tB] (xpU a0 a1 a2 a3 a4 a5 n)/\Rw [tI,tI] (xpE a0 a1 a2 a3 a4 a5 n)/\(xpE a0 a1 a2 a3 a4 a5 n).length=a2.length/\bj (xpC a0 a1 a2 a3 a4 a5 n)<=1024/\bj (xpU a0 a1 a2 a3 a4 a5 n)<=64/\bj (xpE a0 a1 a2 a3 a4 a5 n)<=64:=by
 have v:=E9 (c:=a3) (rs:=a4) (t:=wR a2 a5 n) m ru re (Nc a1 a2 a3 a4 a5 n).toNat;have d:=Rx (t:=wR a2 a5 n) (l:=JD a1 a2 a3 a4 a5 n) v.1 rc v.2.1 v.2.2.1;exact⟨d.1,d.2.1,d.2.2.1,d.2.2.2.1,d.2.2.2.2.1.trans v.2.2.2,d.2.2.2.2.2⟩
theorem Qk (h:Rw [tI,tI] a5):Rw [tI,tI] (xpF a1 a2 a3 a4 a5 n)/\(xpF a1 a2 a3 a4 a5 n).length<=a5.length:=by
 unfold xpF;split;exact aa9 h;exact⟨h,Zf _⟩
theorem abM (h:xpB a1 a2 a3 a4 a5 n=true):tkB (zlI a2) a5 n=true/\xpA a1 a2 a3 a4 a5 n=wR a2 a5 n/\TkT (zlI a2) a5 n:=by
 have q:=h;unfold xpB at q;rw[Zc]at q;exact⟨q.1,by unfold xpA;rw[VN h],zF q.1⟩
theorem Jn (h:tkB (zlI a2) a5 n=true):0<=wR a2 a5 n/\wR a2 a5 n+n<=a2.length/\1<=n/\(a2.length:Int)<=32:=by
 have T:=zF h;have e:wR a2 a5 n=ag a5 (ew a5 n) 0:=by unfold wR tkA;rw[VN h]
 have q1:=T.a0;have q2:=T.l0;have q3:=T.e;have q4:=T.p0;have q5:=T.n0;unfold zlI at q3 q4;omega
end
end Go.V
namespace Go.V
def kwU (k:Bool)(us es:af)(c:Int)(rs:af)(p:Int):af:=if k=true then D6 us es c rs p else us
def kwE (k:Bool)(us es:af)(c:Int)(rs:af)(p:Int):af:=if k=true then CF us es c rs p else es
def kwB (k:Bool)(us es:af)(c:Int)(rs:af)(p:Int):Bool:=k&&sQ us es c rs p
section
variable {cs us es rs: af} {c p n: Int}
theorem rL (h:sQ us es c rs p=false):us=kwU true us es c rs p/\es=kwE true us es c rs p/\false=kwB true us es c rs p:=by
 have q:=ac4 h;refine⟨?_,?_,?_⟩
 ·unfold kwU;rw[VN rfl,q.1]
 ·unfold kwE;rw[VN rfl,q.2]
 ·unfold kwB;rw[h];rfl
theorem OM (h:sQ us es c rs p=true):us.set (dT us).toNat [.v (.bool true)]=kwU true us es c rs p/\wU es p 2 (dT us)=kwE true us es c rs p/\true=kwB true us es c rs p:=by
 have q:=ac5 h;refine⟨?_,?_,?_⟩
 ·unfold kwU;rw[VN rfl,q.1]
 ·unfold kwE;rw[VN rfl,q.2]
 ·unfold kwB;rw[h];rfl
theorem OK (h:kerOk cs us es c rs=true):framesOk cs us=true:=by
 unfold kerOk at h;simp only[Zc]at h;exact(H8 h.1.1).1
theorem RO (f:framesOk cs us=true)(h:ftB cs us=true):ftU cs us=us.set (dT us).toNat [.v (.bool true)]/\ftI cs us=dT us/\0<=dT us/\dT us<us.length:=by
 have q:=RN h;have b:=uc (us:=us);exact⟨q.2.2.2,q.2.2.1,by omega,by omega⟩
theorem RP (f:framesOk cs us=true)(h:ftB cs us=false):dT us<0:=by
 unfold ftB at h;rw[f,YE]at h;have:=of_decide_eq_false h;omega
theorem TL (h:nhR rs c=false):hasB rs c=true:=by unfold nhR at h;simpa using h
theorem TM (h:nhR rs c=true):hasB rs c=false:=by unfold nhR at h;simpa using h
theorem adl (h:mapB es p=false):peM es p=0:=by unfold mapB at h;have:=of_decide_eq_false h;omega
theorem aaW {m f:Int}(h:Rw [tI,tI] es)(p0:0<=p)(p1:p<es.length):pm (.s 2 es) [(p.toNat,0)] [.i m,.i f]=wU es p m f:=by
 unfold wU;exact oP (by rw[h.eta p0 p1];rfl)
theorem pQ {rs o:af}{a:Int}{b:Bool}(h1:tkL p rs n=o/\tkA p rs n=a)(h2:tkB p rs n=b):[DV.one (.s 2 o),DV.j a,DV.k b]=[DV.one (.s 2 (tkL p rs n)),DV.j (tkA p rs n),DV.k (tkB p rs n)]:=by rw[h1.1,h1.2,h2]
theorem M7 {o:af}{n:Int}(h:Rw [tI,tI] o)(n0:0<=n)(n1:n<o.length):∃ rec o',bQ (.s 2 o) [(n.toNat,0)]=some (rec,o')/\o'+2<=rec.length:=iJ (by omega) (by
 rw[h.eta n0 n1];exact Zf _)
theorem aaV {x y:Int}(h:Rw [tI,tI] rs)(p0:0<=p)(p1:p<rs.length):pm (.s 2 rs) [(p.toNat,0)] [.i x,.i y]=rs.set p.toNat [.i x,.i y]:=aaW h p0 p1
theorem aba {b x y z:Int}{rs:af}(h:Rw [tI,tI] rs)(b0:0<=b)(b1:b<rs.length)(e:ag rs b 1=y)(hx: -9223372036854775808<=x/\x<=9223372036854775807):pm (.s 2 (pm (.s 2 rs) [(b.toNat,0)] [.i x])) [(b.toNat,1)] [.i z]=rs.set b.toNat [.i x,.i z]/\ag (pm (.s 2 rs) [(b.toNat,0)] [.i x]) b 1=y/\pm (.s 2 rs) [(b.toNat,0)] [.i x]=rs.set b.toNat [.i x,.i y]:=by
 have u:=abg (x:=.int Za x) h b0 b1;rw[e]at u;have yb: -9223372036854775808<=y/\y<=9223372036854775807:=e▸qn h (j:=1) rfl (by omega);have r:Rw [tI,tI] (rs.set b.toNat [.i x,.i y]):=Rw.set h (show cy [tI,tI] [.i x,.i y]from⟨⟨rfl,hx⟩,⟨rfl,yb⟩,trivial⟩) _;have g:(rs.set b.toNat [.i x,.i y]).getD b.toNat []=[.i x,.i y]:=by rw[lD (by omega),VN rfl]
 have g0:ag (rs.set b.toNat [.i x,.i y]) b 0=x:=by unfold ag;rw[g];rfl
 have g1:ag (rs.set b.toNat [.i x,.i y]) b 1=y:=by unfold ag;rw[g];rfl
 rw[u];refine⟨?_,g1,rfl⟩;rw[abh r b0 (by rw[ZS];exact b1),g0,List.set_set]
structure TkU (rs:af)(n:Int):Prop where
 g0:uk (.s 2 rs) [((ew rs n).toNat,0)]=ag rs (ew rs n) 0
 u1:pm (.s 2 rs) [((ew rs n).toNat,0)] [.i (ag rs (ew rs n) 0+n)]=rs.set (ew rs n).toNat [.i (ag rs (ew rs n) 0+n),.i (ag rs (ew rs n) 1)]
 g1:uk (.s 2 (rs.set (ew rs n).toNat [.i (ag rs (ew rs n) 0+n),.i (ag rs (ew rs n) 1)])) [((ew rs n).toNat,1)]=ag rs (ew rs n) 1
 u2:pm (.s 2 (rs.set (ew rs n).toNat [.i (ag rs (ew rs n) 0+n),.i (ag rs (ew rs n) 1)])) [((ew rs n).toNat,1)] [.i (ag rs (ew rs n) 1-n)]=rs.set (ew rs n).toNat [.i (ag rs (ew rs n) 0+n),.i (ag rs (ew rs n) 1-n)]
 g2:uk (.s 2 (rs.set (ew rs n).toNat [.i (ag rs (ew rs n) 0+n),.i (ag rs (ew rs n) 1-n)])) [((ew rs n).toNat,1)]=ag rs (ew rs n) 1-n
 w1:Rw [tI,tI] (rs.set (ew rs n).toNat [.i (ag rs (ew rs n) 0+n),.i (ag rs (ew rs n) 1)])
 w2:Rw [tI,tI] (rs.set (ew rs n).toNat [.i (ag rs (ew rs n) 0+n),.i (ag rs (ew rs n) 1-n)])
 l:ew rs n<(rs.set (ew rs n).toNat [.i (ag rs (ew rs n) 0+n),.i (ag rs (ew rs n) 1)]).length
 l2:ew rs n<(rs.set (ew rs n).toNat [.i (ag rs (ew rs n) 0+n),.i (ag rs (ew rs n) 1-n)]).length
theorem ad7 (h:Rw [tI,tI] rs)(T:TkT p rs n):TkU rs n:=by
 have t0:=T.i0;have t1:=T.i1;have a:=T.a0;have b:=T.l0;have c:=T.e;have d:=T.p0;have e:=T.n0;have hx: -9223372036854775808<=ag rs (ew rs n) 0+n/\ag rs (ew rs n) 0+n<=9223372036854775807:=⟨by omega,by omega⟩;have q:=aba (x:=ag rs (ew rs n) 0+n) (z:=ag rs (ew rs n) 1-n) h t0 t1 rfl hx;have w:∀ y:Int,-9223372036854775808<=y->y<=9223372036854775807->Rw [tI,tI] (rs.set (ew rs n).toNat [.i (ag rs (ew rs n) 0+n),.i y]):=fun y y0 y1=>Rw.set h (show cy [tI,tI] [.i (ag rs (ew rs n) 0+n),.i y]from⟨⟨rfl,hx⟩,⟨rfl,⟨y0,y1⟩⟩,trivial⟩) _
 refine⟨lH t0,q.2.2,?_,?_,?_,w _ (by omega) (by omega),w _ (by omega) (by omega),by rw[ZS];exact t1,by rw[ZS];exact t1⟩
 ·rw[lH t0, <-q.2.2];exact q.2.1
 ·rw[<-q.2.2];exact q.1
 ·rw[lH t0];unfold ag;rw[lD (by omega),VN rfl];rfl
theorem P7 {b x y:Int}{rs:af}(b0:0<=b):delL (rs.set b.toNat [.i x,.i y]) b (b+1)=xt rs b:=Kd (rs:=rs) b0
end
end Go.V
namespace Go.V
def FD (rs:af)(j:Nat)(x i:Int):Bool:=decide (x<=ag rs i j)
def FC (rs:af)(j:Nat)(x:Int):Int:=if cR (FD rs j x) rs.length<0 then rs.length else cR (FD rs j x) rs.length
section
variable {rs: af} {j: Nat} {x i: Int}
theorem HQ:0<=FC rs j x/\FC rs j x<=rs.length:=by
 have h:=nD (p:=FD rs j x) (n:=rs.length);unfold FC;split;omega;omega
theorem OP (h:upto (bR (FD rs j x)) i)(c:ag rs i j<x):upto (bR (FD rs j x)) (i+1):=aU h (fX (VL (by omega)))
theorem Ec (h:upto (bR (FD rs j x)) i)(i0:0<=i)(i1:i<rs.length)(c:x<=ag rs i j):i=FC rs j x:=by
 have e:=dE (n:=rs.length) h i0 (by omega) (VK c);unfold FC;rw[e,VO (by omega)]
theorem yX (h:upto (bR (FD rs j x)) i)(i1:i<=rs.length)(i2:(rs.length:Int)<=i):i=FC rs j x:=by
 have e:=dF (n:=rs.length) h (by omega);unfold FC;rw[e,VN (by omega)];omega
end
def inL (es:af)(i:Int)(x:af):af:=es.take i.toNat++(x++es.drop i.toNat)
section
variable {es x: af} {i: Int} {fs: List Ty}
theorem Cs:(inL es i x).length=es.length+x.length:=by unfold inL;simp only[Ze,Zh,Zn];omega
theorem SK (h:Rw fs es)(hx:Rw fs x)(b:es.length+x.length<=maxLen):Rw fs (inL es i x):=by
 refine⟨by rw[Cs];exact b,fun e he=>?_⟩;unfold inL at he;rcases Zg.1 he with q|q;exact h.2 e (Xn q)
 ·rcases Zg.1 q with q|q;exact hx.2 e q;exact h.2 e (Xo q)
theorem SJ:[]++es.take i.toNat++x++es.drop i.toNat=inL es i x:=by unfold inL;simp
theorem aeD (i0:0<=i)(i1:i<=es.length):[]++oY es (YB 0) (Gb i 0)++x++oY es i.toNat (Gb (es.length:Int) i)=inL es i x:=by rw[uq,EU i0 i1];exact SJ
end
def wiN (b i:Int):Int:=if slB b i=true then bK .or Za b (I0 .shl Za 1 i)else b
theorem abm {n b i:Int}(h:bmOk n b=true)(i0:0<=i)(i1:i<n):bmOk n (wiN b i)=true:=by
 unfold bmOk at h;rw[Zc]at h;have q1:=bz.1 h.1;have q2:=bz.1 h.2;have p:(2:Int)^n.toNat=((2^n.toNat:Nat):Int):=by rw[Int.natCast_pow];rfl
 have p16:2^n.toNat<=2^16:=Nat.pow_le_pow_right (by omega) (by omega);obtain⟨N,hN⟩:∃ N:Nat,N=2^n.toNat:=⟨_,rfl⟩;rw[<-hN]at p p16;rw[p]at q2;obtain⟨m,rfl⟩:=ZV q2.1;obtain⟨k,rfl⟩:=ZV i0;have w:wiN (m:Int) (k:Int)=bK .or Za (m:Int) ((2^k:Nat):Int):=by unfold wiN;rw[VN (P2.2 ⟨q2.1,i0,by omega⟩),aaX (by omega)]
 have e:Q6 (m:Int)|||Q6 ((2^k:Nat):Int)=BitVec.ofNat 64 (m|||2^k):=by
  unfold Q6;rw[WL,WL,BitVec.ofNat_or]
 have l:m|||2^k<N:=by rw[hN];exact Nat.or_lt_two_pow (by rw[<-hN];omega) (Nat.pow_lt_pow_right (by omega) (by omega))
 have v:wiN (m:Int) (k:Int)=((m|||2^k:Nat):Int):=by
  rw[w,TY,e,BitVec.toInt_eq_toNat_of_lt (by rw[WM];omega),WM];omega
 unfold bmOk;rw[h.1,v,p,YE];exact bz.2 (show(0:Int)<=((m|||2^k:Nat):Int)/\((m|||2^k:Nat):Int)<=(N:Int)-1 from⟨by omega,by omega⟩)
theorem Ck {b:Int}:∀ {k:Nat} {j:Int},0<=j->j<(AN b k).length->0<=ag (AN b k) j 0/\ag (AN b k) j 0<k
 |0,j,h0,h1=>absurd h1 (by show¬ j<((0:Nat):Int);omega)
 | k+1,j,h0,h1=>by
   unfold AN at h1 ⊢;split at h1<;>rename_i c
   ·rw[VN c];have:=Ck h0 h1;omega
   ·rw[VO c];rw[Ze]at h1;simp only[Zr,Zt]at h1;by_cases q:j<(AN b k).length
    ·have:=Ck h0 q;obtain⟨m,rfl⟩:=ZV h0;rw[RV (by omega)];omega
    ·obtain rfl:j=((AN b k).length:Int):=by omega
     rw[RX];show 0<=(k:Int)/\(k:Int)<((k+1:Nat):Int);omega
def oU (a2 a6:af)(i:Int):af:=frL (slN (ag a6 i 1)) (ubB a2 a6 i)
def xcB (a2 a6:af)(i:Int):Bool:=decide (0<(oU a2 a6 i).length)
def ox (a2 a6:af)(s i:Int):Int:=ag (oU a2 a6 i) (cuI s (oU a2 a6 i).length) 0
def xcS (a2 a6:af)(s i:Int):af:=if xcB a2 a6 i=true then a6.set i.toNat [.i (ag a6 i 0),.i (ag a6 i 1),.i (wiN (ag a6 i 2) (ox a2 a6 s i))]else a6
def xcD (a2 a6:af)(s i:Int):Int:=if xcB a2 a6 i=true then cuS s (oU a2 a6 i).length else s
def xcA (a2 a6:af)(s i:Int):Int:=if xcB a2 a6 i=true then aaI (ag a6 i 0) (ag a6 i 1) (ag a6 i 2) (ox a2 a6 s i)else-1
section
variable {a2 a6: af} {s i: Int}
theorem Lu (h:(oU a2 a6 i).length=0):xcB a2 a6 i=false/\xcS a2 a6 s i=a6/\xcD a2 a6 s i=s/\xcA a2 a6 s i= -1:=by
 have b:xcB a2 a6 i=false:=VL (by omega);refine⟨b,?_,?_,?_⟩
 ·unfold xcS;rw[b];rfl
 ·unfold xcD;rw[b];rfl
 ·unfold xcA;rw[b];rfl
theorem Lv (h:¬ (oU a2 a6 i).length=0):xcB a2 a6 i=true/\xcS a2 a6 s i=a6.set i.toNat [.i (ag a6 i 0),.i (ag a6 i 1),.i (wiN (ag a6 i 2) (ox a2 a6 s i))]/\xcD a2 a6 s i=cuS s (oU a2 a6 i).length/\xcA a2 a6 s i=aaI (ag a6 i 0) (ag a6 i 1) (ag a6 i 2) (ox a2 a6 s i):=by
 have b:xcB a2 a6 i=true:=VK (by omega);refine⟨b,?_,?_,?_⟩
 ·unfold xcS;rw[VN b]
 ·unfold xcD;rw[VN b]
 ·unfold xcA;rw[VN b]
structure XcT (a2 a6:af)(s i:Int):Prop where
 l0:1<=(oU a2 a6 i).length
 l1:(oU a2 a6 i).length<=16
 k0:0<=cuI s (oU a2 a6 i).length
 k1:cuI s (oU a2 a6 i).length<(oU a2 a6 i).length
 t0:0<=ox a2 a6 s i
 t1:ox a2 a6 s i<slN (ag a6 i 1)
 n:slN (ag a6 i 1)<=16
 sp:spOk (ag a6 i 0) (ag a6 i 1) (wiN (ag a6 i 2) (ox a2 a6 s i))=true
 a0:0<=aaI (ag a6 i 0) (ag a6 i 1) (ag a6 i 2) (ox a2 a6 s i)
 a1:aaI (ag a6 i 0) (ag a6 i 1) (ag a6 i 2) (ox a2 a6 s i)<=511
 aa:aaI (ag a6 i 0) (ag a6 i 1) (wiN (ag a6 i 2) (ox a2 a6 s i)) (ox a2 a6 s i)=aaI (ag a6 i 0) (ag a6 i 1) (ag a6 i 2) (ox a2 a6 s i)
 w: -9223372036854775808<=wiN (ag a6 i 2) (ox a2 a6 s i)/\wiN (ag a6 i 2) (ox a2 a6 s i)<=9223372036854775807
 d:inR (cuS s (oU a2 a6 i).length) 0 1073741823=true
theorem E6 (hs:spOk (ag a6 i 0) (ag a6 i 1) (ag a6 i 2)=true)(hd:inR s 0 1073741823=true)(h:¬ (oU a2 a6 i).length=0):XcT a2 a6 s i:=by
 have t:=lL hs;have c:=jr t.2.2.1;have l:(oU a2 a6 i).length<=16:=by
  unfold oU frL;split
  ·have:=ua (b:=ubB a2 a6 i) (slN (ag a6 i 1)).toNat;omega
  ·simp
 have k:=Rp (n:=(oU a2 a6 i).length) hd (by omega) (by omega);have g:0<=ox a2 a6 s i/\ox a2 a6 s i<slN (ag a6 i 1):=by
  have e:oU a2 a6 i=AN (ubB a2 a6 i) (slN (ag a6 i 1)).toNat:=by
   have q:bmOk (slN (ag a6 i 1)) (ubB a2 a6 i)=true:=by
    cases q:bmOk (slN (ag a6 i 1)) (ubB a2 a6 i)with
    |true=>rfl
    |false=>exact absurd (by unfold oU frL;rw[q];rfl) h
   unfold oU frL;rw[VN q]
  have q:=Ck (b:=ubB a2 a6 i) (k:=(slN (ag a6 i 1)).toNat) (j:=cuI s (oU a2 a6 i).length) k.1 (by rw[<-e];exact k.2.1);rw[<-e]at q;unfold ox;omega
 have w:=abm t.2.2.2 g.1 g.2;have sp:spOk (ag a6 i 0) (ag a6 i 1) (wiN (ag a6 i 2) (ox a2 a6 s i))=true:=by unfold spOk;rw[bz.2 ⟨t.1,t.2.1⟩,w];rfl
 have r:inR (ox a2 a6 s i) 0 (slN (ag a6 i 1)-1)=true:=bz.2 ⟨g.1,by omega⟩;have bb:=ace w;have m1:0<=ox a2 a6 s i*clsSz (ag a6 i 1):=Xz g.1 (by omega);have m2:ox a2 a6 s i*clsSz (ag a6 i 1)<=(slN (ag a6 i 1)-1)*clsSz (ag a6 i 1):=Xc (by omega) (by omega);have m3:(slN (ag a6 i 1)-1)*clsSz (ag a6 i 1)=16-clsSz (ag a6 i 1):=by rw[Int.sub_mul,c.2.2.2.2,X0]
 have e1:aaI (ag a6 i 0) (ag a6 i 1) (ag a6 i 2) (ox a2 a6 s i)=ag a6 i 0*16+ox a2 a6 s i*clsSz (ag a6 i 1):=by unfold aaI JQ;rw[hs,r];rfl
 have e2:aaI (ag a6 i 0) (ag a6 i 1) (wiN (ag a6 i 2) (ox a2 a6 s i)) (ox a2 a6 s i)=ag a6 i 0*16+ox a2 a6 s i*clsSz (ag a6 i 1):=by unfold aaI JQ;rw[sp,r];rfl
 exact⟨by omega,l,k.1,k.2.1,g.1,g.2,c.2.2.2.1,sp,by omega,by omega,by rw[e1,e2],⟨by omega,by omega⟩,k.2.2⟩
end
end Go.V
namespace Go.V
def isL (a6:af)(p k b:Int):af:=inL a6 (FC a6 0 p) [[.i p,.i k,.i b]]
def isI (a6:af)(p:Int):Int:=FC a6 0 p
def xsL (a1 a2:af)(a3:Int)(a4 a5 a6:af)(k:Int):af:=if xpB a1 a2 a3 a4 a5 1=true then isL a6 (xpA a1 a2 a3 a4 a5 1) k 0 else a6
def Nj (a1 a2:af)(a3:Int)(a4 a5 a6:af)(k:Int):Int:=if xpB a1 a2 a3 a4 a5 1=true then isI a6 (xpA a1 a2 a3 a4 a5 1)else-1
theorem zx {o o':af}(h:o=o'):[DV.one (.s 1 o)]=[DV.one (.s 1 o')]:=by rw[h]
theorem Q1 {n b:Int}(h:bmOk n b=true):1<=n/\n<=16/\0<=b:=by
 unfold bmOk at h;rw[Zc]at h;have q1:=bz.1 h.1;have q2:=bz.1 h.2;omega
theorem N7 {b i:Int}{o:af}(h:Jt b i o)(i1:i<=16):Rw [tI] o:=by rw[h.e];exact yM _ (by omega)
theorem L2 {ls:af}{k:Int}(h:clB ls k=false):ctB ls k=false:=by unfold ctB;rw[h];rfl
theorem L3 {ls:af}{k:Int}(h:(ax ls k 0).length=0):ctB ls k=false:=by unfold ctB;rw[VL (by omega),Z4]
theorem Rm {ls:af}{k:Int}(h:clB ls k=true)(n:¬ (ax ls k 0).length=0):ctL ls k=ls.set k.toNat [.s 1 ((ax ls k 0).take ((ax ls k 0).length-1))]/\ctA ls k=ag (ax ls k 0) ((ax ls k 0).length-1) 0/\ctB ls k=true:=by
 have b:ctB ls k=true:=by unfold ctB;rw[h,VK (by omega)];rfl
 have q:=Rl b;exact⟨q.1,q.2,b⟩
theorem IX {l:af}{i:Int}:oY l 0 (Gb i 0)=l.take i.toNat:=uq
theorem ad8 {n:Nat}:((n:Int)-1).toNat=n-1:=by omega
end Go.V
namespace Go.V
section
variable {a0 a1 a2 a4 a5 a6 u e: af} {a3 t i k s n: Int}
theorem abQ (hk:kerOk a0 a1 a2 a3 a4=true)(P:Au a0 a1 a2 a3 a4 t i u e)(c0:0<=a3)(c1:a3<=90000)(i0:0<=i)(i1:i<=32):ccB a0 u e (a3+i) a4=true:=by
 rw[GO (by omega)];exact HJ P.m (by omega) (by omega) (qq hk).2.2.2
theorem Ql (rc:Rw [.sl [tI]] a0)(P:Au a0 a1 a2 a3 a4 t i u e):bj a0<=1024/\bj u<=64/\bj e<=64:=El P.m rc P.ru P.re
theorem ac8 {c:Int}:kqN true c=c+1:=by unfold kqN;rw[VN rfl]
theorem aa6 {o:af}{n:Int}{j:Nat}(h:Rw [tI,tI,tI] o)(n0:0<=n)(n1:n<o.length)(hj:j<3):∃ rec o',bQ (.s 3 o) [(n.toNat,j)]=some (rec,o')/\o'+1<=rec.length:=iJ (by omega) (by
 rw[h.eta n0 n1];show j+1<=3;omega)
theorem S8 {o:af}{n:Int}(h:Rw [tI] o)(n0:0<=n)(n1:n<o.length):∃ rec o',bQ (L.s 1 o) [(n.toNat,0)]=some (rec,o')/\o'+[L.v (Zq ZG 0)].length<=rec.length/\Yo [L.v (Zq ZG 0)].length (YD o' rec)=j5 am (L.s 1 o) [(n.toNat,0)] 0 [L.v (Zq ZG 0)]:=
 eU (z0:=[.i 0]) (z:=[.i 0]) h.wf (by omega) rfl (by decide)
theorem NY {n b:Int}:Rw [tI] (frL n b):=by
 unfold frL;split
 ·rename_i c;have:=Q1 c;exact yM _ (by omega)
 ·exact Rw.nil
theorem XcT.r (_:XcT a2 a6 s i):Rw [tI] (oU a2 a6 i):=NY
structure XcU (a2 a6:af)(s i:Int):Prop where
 u:pm (.s 3 a6) [(i.toNat,2)] [.i (wiN (ag a6 i 2) (ox a2 a6 s i))]=a6.set i.toNat [.i (ag a6 i 0),.i (ag a6 i 1),.i (wiN (ag a6 i 2) (ox a2 a6 s i))]
 g0:uk (.s 3 (a6.set i.toNat [.i (ag a6 i 0),.i (ag a6 i 1),.i (wiN (ag a6 i 2) (ox a2 a6 s i))])) [(i.toNat,0)]=ag a6 i 0
 g1:uk (.s 3 (a6.set i.toNat [.i (ag a6 i 0),.i (ag a6 i 1),.i (wiN (ag a6 i 2) (ox a2 a6 s i))])) [(i.toNat,1)]=ag a6 i 1
 g2:uk (.s 3 (a6.set i.toNat [.i (ag a6 i 0),.i (ag a6 i 1),.i (wiN (ag a6 i 2) (ox a2 a6 s i))])) [(i.toNat,2)]=wiN (ag a6 i 2) (ox a2 a6 s i)
 w:Rw [tI,tI,tI] (a6.set i.toNat [.i (ag a6 i 0),.i (ag a6 i 1),.i (wiN (ag a6 i 2) (ox a2 a6 s i))])
 l:i<(a6.set i.toNat [.i (ag a6 i 0),.i (ag a6 i 1),.i (wiN (ag a6 i 2) (ox a2 a6 s i))]).length
theorem aef (h:Rw [tI,tI,tI] a6)(i0:0<=i)(i1:i<a6.length)(X:XcT a2 a6 s i):XcU a2 a6 s i:=by
 have g:∀ r:aO,(a6.set i.toNat r).getD i.toNat []=r:=fun r=>by rw[lD (by omega),VN rfl]
 refine⟨?_,?_,?_,?_,adM h (qn h (j:=0) rfl (by omega)) (qn h (j:=1) rfl (by omega)) X.w,by rw[ZS];exact i1⟩
 ·unfold pm lK rowOf;rw[h.eta i0 i1];rfl
 ·rw[lH i0];unfold ag;rw[g];rfl
 ·rw[lH i0];unfold ag;rw[g];rfl
 ·rw[lH i0];unfold ag;rw[g];rfl
theorem Nh (ht:wR a2 a5 n=t)(h:tkB (zlI a2) a5 n=true)(p:Au a0 a1 a2 a3 a4 t i u e)(i0:0<=i)(i1:n<=i)(i2:i<=n):xpC a0 a1 a2 a3 a4 a5 n=a0/\xpU a0 a1 a2 a3 a4 a5 n=u/\xpE a0 a1 a2 a3 a4 a5 n=e/\xpK a1 a2 a3 a4 a5 n=a3+i/\xpF a1 a2 a3 a4 a5 n=tkL (zlI a2) a5 n/\xpA a1 a2 a3 a4 a5 n=t/\xpB a1 a2 a3 a4 a5 n=true:=by
 subst ht;have q:=ael h p i0 i1 i2;rw[show a3+n=a3+i by omega]at q;exact q
theorem Nf {p:Int}{v w x:af}(ht:wR a2 a5 n=t)(h:tkB (zlI a2) a5 n=true)(P:Au a0 a1 a2 a3 a4 t i u e)(i0:0<=i)(i1:i<n)(g:sQ u e (a3+i) a4 (t+i)=false)(D:Js a0 u e t p v w x)(p1:p<=t+i)(p2:t+i<=p):xpC a0 a1 a2 a3 a4 a5 n=v/\xpU a0 a1 a2 a3 a4 a5 n=w/\xpE a0 a1 a2 a3 a4 a5 n=x/\xpK a1 a2 a3 a4 a5 n=a3+i+1/\xpF a1 a2 a3 a4 a5 n=a5/\xpA a1 a2 a3 a4 a5 n= -1/\xpB a1 a2 a3 a4 a5 n=false:=by
 subst ht;have q:=aek h P i0 i1 g;have d:=Ke (l:=i) D p2 p1;rw[<-d.1, <-d.2.1, <-d.2.2]at q;exact q
theorem abP {v w x:af}{c:Int}(hk:kerOk a0 a1 a2 a3 a4=true)(m:mX v w x)(c0:0<=c)(c1:c<100000):ccB v w x c a4=true:=by
 rw[GO (by omega)];exact HJ m (by omega) (by omega) (qq hk).2.2.2
theorem aen (P:Au a0 a1 a2 a3 a4 t i u e)(i0:0<=i)(g:kwB true u e (a3+i) a4 (t+i)=true):Au a0 a1 a2 a3 a4 t (i+1) (kwU true u e (a3+i) a4 (t+i)) (kwE true u e (a3+i) a4 (t+i)):=Qn P i0 g
theorem aem (rc:Rw [.sl [tI]] a0)(P:Au a0 a1 a2 a3 a4 t i u e)(g:kwB true u e (a3+i) a4 (t+i)=false):Js a0 u e t t a0 (kwU true u e (a3+i) a4 (t+i)) (kwE true u e (a3+i) a4 (t+i)):=by
 have w:=rL (show sQ u e (a3+i) a4 (t+i)=false from g);rw[<-w.1, <-w.2.1];exact L5 P.m rc P.ru P.re
end
end Go.V
namespace Go.V
def BO (a2 a6:af)(aI:Bool)(aJ aK k i:Int):Bool:=eqB (ag a6 i 1) k&&(!bsB aI aJ aK (ag a6 i 0)&&xcB a2 a6 i)
def E7 (a2 a6:af)(aI:Bool)(aJ aK k:Int):Int:=cR (BO a2 a6 aI aJ aK k) a6.length
def uv (a1 a2:af)(a3:Int)(a4 a5 a6 a9:af)(aI:Bool)(aJ aK t k:Int):Nat:=if ctB (ax a9 t 0) k=true then 0 else if 0<=E7 a2 a6 aI aJ aK k then 1 else if xpB a1 a2 a3 a4 a5 1=true then 3 else 2
def xmC (a0 a1 a2:af)(a3:Int)(a4 a5 a6 a9:af)(aE:Int)(aI:Bool)(aJ aK t k:Int):af:=if 2<=uv a1 a2 a3 a4 a5 a6 a9 aI aJ aK t k then xpC a0 a1 a2 a3 a4 a5 1 else a0
def xmU (a0 a1 a2:af)(a3:Int)(a4 a5 a6 a9:af)(aE:Int)(aI:Bool)(aJ aK t k:Int):af:=if 2<=uv a1 a2 a3 a4 a5 a6 a9 aI aJ aK t k then xpU a0 a1 a2 a3 a4 a5 1 else a1
def xmE (a0 a1 a2:af)(a3:Int)(a4 a5 a6 a9:af)(aE:Int)(aI:Bool)(aJ aK t k:Int):af:=if 2<=uv a1 a2 a3 a4 a5 a6 a9 aI aJ aK t k then xpE a0 a1 a2 a3 a4 a5 1 else a2
def xmF (a0 a1 a2:af)(a3:Int)(a4 a5 a6 a9:af)(aE:Int)(aI:Bool)(aJ aK t k:Int):af:=if 2<=uv a1 a2 a3 a4 a5 a6 a9 aI aJ aK t k then xpF a1 a2 a3 a4 a5 1 else a5
def xmK (a0 a1 a2:af)(a3:Int)(a4 a5 a6 a9:af)(aE:Int)(aI:Bool)(aJ aK t k:Int):Int:=if 2<=uv a1 a2 a3 a4 a5 a6 a9 aI aJ aK t k then xpK a1 a2 a3 a4 a5 1 else a3
def xmS (a0 a1 a2:af)(a3:Int)(a4 a5 a6 a9:af)(aE:Int)(aI:Bool)(aJ aK t k:Int):af:=if uv a1 a2 a3 a4 a5 a6 a9 aI aJ aK t k=1 then xcS a2 a6 aE (E7 a2 a6 aI aJ aK k)else if uv a1 a2 a3 a4 a5 a6 a9 aI aJ aK t k=3 then xcS (xpE a0 a1 a2 a3 a4 a5 1) (isL a6 (xpA a1 a2 a3 a4 a5 1) k 0) aE (isI a6 (xpA a1 a2 a3 a4 a5 1))else a6
def xmD (a0 a1 a2:af)(a3:Int)(a4 a5 a6 a9:af)(aE:Int)(aI:Bool)(aJ aK t k:Int):Int:=if uv a1 a2 a3 a4 a5 a6 a9 aI aJ aK t k=1 then xcD a2 a6 aE (E7 a2 a6 aI aJ aK k)else if uv a1 a2 a3 a4 a5 a6 a9 aI aJ aK t k=3 then xcD (xpE a0 a1 a2 a3 a4 a5 1) (isL a6 (xpA a1 a2 a3 a4 a5 1) k 0) aE (isI a6 (xpA a1 a2 a3 a4 a5 1))else aE
def xmX (a0 a1 a2:af)(a3:Int)(a4 a5 a6 a9:af)(aE:Int)(aI:Bool)(aJ aK t k:Int):af:=if uv a1 a2 a3 a4 a5 a6 a9 aI aJ aK t k=0 then a9.set t.toNat [.s 1 (ctL (ax a9 t 0) k)]else a9
def xmA (a0 a1 a2:af)(a3:Int)(a4 a5 a6 a9:af)(aE:Int)(aI:Bool)(aJ aK t k:Int):Int:=if uv a1 a2 a3 a4 a5 a6 a9 aI aJ aK t k=0 then ctA (ax a9 t 0) k else if uv a1 a2 a3 a4 a5 a6 a9 aI aJ aK t k=1 then xcA a2 a6 aE (E7 a2 a6 aI aJ aK k)else if uv a1 a2 a3 a4 a5 a6 a9 aI aJ aK t k=3 then xcA (xpE a0 a1 a2 a3 a4 a5 1) (isL a6 (xpA a1 a2 a3 a4 a5 1) k 0) aE (isI a6 (xpA a1 a2 a3 a4 a5 1))else-1
def xmB (a0 a1 a2:af)(a3:Int)(a4 a5 a6 a9:af)(aE:Int)(aI:Bool)(aJ aK t k:Int):Bool:=if uv a1 a2 a3 a4 a5 a6 a9 aI aJ aK t k=0 then true else if uv a1 a2 a3 a4 a5 a6 a9 aI aJ aK t k=1 then true else if uv a1 a2 a3 a4 a5 a6 a9 aI aJ aK t k=3 then xcB (xpE a0 a1 a2 a3 a4 a5 1) (isL a6 (xpA a1 a2 a3 a4 a5 1) k 0) (isI a6 (xpA a1 a2 a3 a4 a5 1))else false
section
variable {a0 a1 a2: af} {a3: Int} {a4 a5 a6 a7 a8 a9 aA aB aD aL: af} {aC aE aF aG aH: Int} {aI: Bool} {aJ aK aM aN t k i z: Int}
theorem abD (h:ctB (ax a9 t 0) k=true):xmC a0 a1 a2 a3 a4 a5 a6 a9 aE aI aJ aK t k=a0/\xmU a0 a1 a2 a3 a4 a5 a6 a9 aE aI aJ aK t k=a1/\xmE a0 a1 a2 a3 a4 a5 a6 a9 aE aI aJ aK t k=a2/\xmK a0 a1 a2 a3 a4 a5 a6 a9 aE aI aJ aK t k=a3/\xmF a0 a1 a2 a3 a4 a5 a6 a9 aE aI aJ aK t k=a5/\xmS a0 a1 a2 a3 a4 a5 a6 a9 aE aI aJ aK t k=a6/\xmX a0 a1 a2 a3 a4 a5 a6 a9 aE aI aJ aK t k=a9.set t.toNat [.s 1 (ctL (ax a9 t 0) k)]/\xmD a0 a1 a2 a3 a4 a5 a6 a9 aE aI aJ aK t k=aE/\xmA a0 a1 a2 a3 a4 a5 a6 a9 aE aI aJ aK t k=ctA (ax a9 t 0) k/\xmB a0 a1 a2 a3 a4 a5 a6 a9 aE aI aJ aK t k=true:=by
 have q:uv a1 a2 a3 a4 a5 a6 a9 aI aJ aK t k=0:=by unfold uv;rw[VN h]
 refine⟨?_,?_,?_,?_,?_,?_,?_,?_,?_,?_⟩
 ·unfold xmC;rw[q];rfl
 ·unfold xmU;rw[q];rfl
 ·unfold xmE;rw[q];rfl
 ·unfold xmK;rw[q];rfl
 ·unfold xmF;rw[q];rfl
 ·unfold xmS;rw[q];rfl
 ·unfold xmX;rw[q];rfl
 ·unfold xmD;rw[q];rfl
 ·unfold xmA;rw[q];rfl
 ·unfold xmB;rw[q];rfl
theorem abE (h:ctB (ax a9 t 0) k=false)(i0:0<=i)(e:E7 a2 a6 aI aJ aK k=i):xmC a0 a1 a2 a3 a4 a5 a6 a9 aE aI aJ aK t k=a0/\xmU a0 a1 a2 a3 a4 a5 a6 a9 aE aI aJ aK t k=a1/\xmE a0 a1 a2 a3 a4 a5 a6 a9 aE aI aJ aK t k=a2/\xmK a0 a1 a2 a3 a4 a5 a6 a9 aE aI aJ aK t k=a3/\xmF a0 a1 a2 a3 a4 a5 a6 a9 aE aI aJ aK t k=a5/\xmS a0 a1 a2 a3 a4 a5 a6 a9 aE aI aJ aK t k=xcS a2 a6 aE i/\xmX a0 a1 a2 a3 a4 a5 a6 a9 aE aI aJ aK t k=a9/\xmD a0 a1 a2 a3 a4 a5 a6 a9 aE aI aJ aK t k=xcD a2 a6 aE i/\xmA a0 a1 a2 a3 a4 a5 a6 a9 aE aI aJ aK t k=xcA a2 a6 aE i/\xmB a0 a1 a2 a3 a4 a5 a6 a9 aE aI aJ aK t k=true:=by
 have q:uv a1 a2 a3 a4 a5 a6 a9 aI aJ aK t k=1:=by unfold uv;rw[h,VO (by decide),VN (by omega)]
 refine⟨?_,?_,?_,?_,?_,?_,?_,?_,?_,?_⟩
 ·unfold xmC;rw[q];rfl
 ·unfold xmU;rw[q];rfl
 ·unfold xmE;rw[q];rfl
 ·unfold xmK;rw[q];rfl
 ·unfold xmF;rw[q];rfl
 ·unfold xmS;rw[q,e];rfl
 ·unfold xmX;rw[q];rfl
 ·unfold xmD;rw[q,e];rfl
 ·unfold xmA;rw[q,e];rfl
 ·unfold xmB;rw[q];rfl
theorem abF (h:ctB (ax a9 t 0) k=false)(i0:E7 a2 a6 aI aJ aK k<0)(b:xpB a1 a2 a3 a4 a5 1=false):xmC a0 a1 a2 a3 a4 a5 a6 a9 aE aI aJ aK t k=xpC a0 a1 a2 a3 a4 a5 1/\xmU a0 a1 a2 a3 a4 a5 a6 a9 aE aI aJ aK t k=xpU a0 a1 a2 a3 a4 a5 1/\xmE a0 a1 a2 a3 a4 a5 a6 a9 aE aI aJ aK t k=xpE a0 a1 a2 a3 a4 a5 1/\xmK a0 a1 a2 a3 a4 a5 a6 a9 aE aI aJ aK t k=xpK a1 a2 a3 a4 a5 1/\xmF a0 a1 a2 a3 a4 a5 a6 a9 aE aI aJ aK t k=xpF a1 a2 a3 a4 a5 1/\xmS a0 a1 a2 a3 a4 a5 a6 a9 aE aI aJ aK t k=a6/\xmX a0 a1 a2 a3 a4 a5 a6 a9 aE aI aJ aK t k=a9/\xmD a0 a1 a2 a3 a4 a5 a6 a9 aE aI aJ aK t k=aE/\xmA a0 a1 a2 a3 a4 a5 a6 a9 aE aI aJ aK t k= -1/\xmB a0 a1 a2 a3 a4 a5 a6 a9 aE aI aJ aK t k=false:=by
 have q:uv a1 a2 a3 a4 a5 a6 a9 aI aJ aK t k=2:=by unfold uv;rw[h,VO (by decide),VO (by omega),b];rfl
 refine⟨?_,?_,?_,?_,?_,?_,?_,?_,?_,?_⟩
 ·unfold xmC;rw[q];rfl
 ·unfold xmU;rw[q];rfl
 ·unfold xmE;rw[q];rfl
 ·unfold xmK;rw[q];rfl
 ·unfold xmF;rw[q];rfl
 ·unfold xmS;rw[q];rfl
 ·unfold xmX;rw[q];rfl
 ·unfold xmD;rw[q];rfl
 ·unfold xmA;rw[q];rfl
 ·unfold xmB;rw[q];rfl
theorem abG (h:ctB (ax a9 t 0) k=false)(i0:E7 a2 a6 aI aJ aK k<0)(b:xpB a1 a2 a3 a4 a5 1=true):xmC a0 a1 a2 a3 a4 a5 a6 a9 aE aI aJ aK t k=xpC a0 a1 a2 a3 a4 a5 1/\xmU a0 a1 a2 a3 a4 a5 a6 a9 aE aI aJ aK t k=xpU a0 a1 a2 a3 a4 a5 1/\xmE a0 a1 a2 a3 a4 a5 a6 a9 aE aI aJ aK t k=xpE a0 a1 a2 a3 a4 a5 1/\xmK a0 a1 a2 a3 a4 a5 a6 a9 aE aI aJ aK t k=xpK a1 a2 a3 a4 a5 1/\xmF a0 a1 a2 a3 a4 a5 a6 a9 aE aI aJ aK t k=xpF a1 a2 a3 a4 a5 1/\xmS a0 a1 a2 a3 a4 a5 a6 a9 aE aI aJ aK t k=xcS (xpE a0 a1 a2 a3 a4 a5 1) (isL a6 (xpA a1 a2 a3 a4 a5 1) k 0) aE (isI a6 (xpA a1 a2 a3 a4 a5 1))/\xmX a0 a1 a2 a3 a4 a5 a6 a9 aE aI aJ aK t k=a9/\xmD a0 a1 a2 a3 a4 a5 a6 a9 aE aI aJ aK t k=xcD (xpE a0 a1 a2 a3 a4 a5 1) (isL a6 (xpA a1 a2 a3 a4 a5 1) k 0) aE (isI a6 (xpA a1 a2 a3 a4 a5 1))/\xmA a0 a1 a2 a3 a4 a5 a6 a9 aE aI aJ aK t k=xcA (xpE a0 a1 a2 a3 a4 a5 1) (isL a6 (xpA a1 a2 a3 a4 a5 1) k 0) aE (isI a6 (xpA a1 a2 a3 a4 a5 1))/\xmB a0 a1 a2 a3 a4 a5 a6 a9 aE aI aJ aK t k=xcB (xpE a0 a1 a2 a3 a4 a5 1) (isL a6 (xpA a1 a2 a3 a4 a5 1) k 0) (isI a6 (xpA a1 a2 a3 a4 a5 1)):=by
 have q:uv a1 a2 a3 a4 a5 a6 a9 aI aJ aK t k=3:=by unfold uv;rw[h,VO (by decide),VO (by omega),VN b]
 refine⟨?_,?_,?_,?_,?_,?_,?_,?_,?_,?_⟩
 ·unfold xmC;rw[q];rfl
 ·unfold xmU;rw[q];rfl
 ·unfold xmE;rw[q];rfl
 ·unfold xmK;rw[q];rfl
 ·unfold xmF;rw[q];rfl
 ·unfold xmS;rw[q];rfl
 ·unfold xmX;rw[q];rfl
 ·unfold xmD;rw[q];rfl
 ·unfold xmA;rw[q];rfl
 ·unfold xmB;rw[q];rfl
end
def xlL (a1 a2:af)(a3:Int)(a4 a5 a7:af)(z:Int):af:=if xpB a1 a2 a3 a4 a5 (pfN z)=true then inL a7 (FC a7 0 (xpA a1 a2 a3 a4 a5 (pfN z))) [[.i (xpA a1 a2 a3 a4 a5 (pfN z)),.i (pfN z),.i z]]else a7
def xlA (a1 a2:af)(a3:Int)(a4 a5:af)(z:Int):Int:=if xpB a1 a2 a3 a4 a5 (pfN z)=true then xpA a1 a2 a3 a4 a5 (pfN z)*16 else-1
def xaG (h:Bool)(a3:Int)(a8 a9:af)(aG aH t z:Int):Int:=if h=false\/aH=1000000\/90000<a3 then 5 else if inR t 0 (a9.length-1)=false then 1 else if inR z 1 1000=false then 2 else if aG<bK .add Za (lsI a8) z then 3 else 0
def xaO (h:Bool)(a3:Int)(a8 a9:af)(aG aH t z:Int):Bool:=decide (xaG h a3 a8 a9 aG aH t z=0)
def xaC (g:Bool)(a0 a1 a2:af)(a3:Int)(a4 a5 a6 a7 a9:af)(aE:Int)(aI:Bool)(aJ aK t z:Int):af:=if g=true then(if 0<=clsOf z then xmC a0 a1 a2 a3 a4 a5 a6 a9 aE aI aJ aK t (clsOf z)else xpC a0 a1 a2 a3 a4 a5 (pfN z))else a0
def xaU (g:Bool)(a0 a1 a2:af)(a3:Int)(a4 a5 a6 a7 a9:af)(aE:Int)(aI:Bool)(aJ aK t z:Int):af:=if g=true then(if 0<=clsOf z then xmU a0 a1 a2 a3 a4 a5 a6 a9 aE aI aJ aK t (clsOf z)else xpU a0 a1 a2 a3 a4 a5 (pfN z))else a1
def xaE (g:Bool)(a0 a1 a2:af)(a3:Int)(a4 a5 a6 a7 a9:af)(aE:Int)(aI:Bool)(aJ aK t z:Int):af:=if g=true then(if 0<=clsOf z then xmE a0 a1 a2 a3 a4 a5 a6 a9 aE aI aJ aK t (clsOf z)else xpE a0 a1 a2 a3 a4 a5 (pfN z))else a2
def xaK (g:Bool)(a0 a1 a2:af)(a3:Int)(a4 a5 a6 a7 a9:af)(aE:Int)(aI:Bool)(aJ aK t z:Int):Int:=if g=true then(if 0<=clsOf z then xmK a0 a1 a2 a3 a4 a5 a6 a9 aE aI aJ aK t (clsOf z)else xpK a1 a2 a3 a4 a5 (pfN z))else a3
def xaF (g:Bool)(a0 a1 a2:af)(a3:Int)(a4 a5 a6 a7 a9:af)(aE:Int)(aI:Bool)(aJ aK t z:Int):af:=if g=true then(if 0<=clsOf z then xmF a0 a1 a2 a3 a4 a5 a6 a9 aE aI aJ aK t (clsOf z)else xpF a1 a2 a3 a4 a5 (pfN z))else a5
def xaS (g:Bool)(a0 a1 a2:af)(a3:Int)(a4 a5 a6 a7 a9:af)(aE:Int)(aI:Bool)(aJ aK t z:Int):af:=if g=true then(if 0<=clsOf z then xmS a0 a1 a2 a3 a4 a5 a6 a9 aE aI aJ aK t (clsOf z)else a6)else a6
def xaL (g:Bool)(a0 a1 a2:af)(a3:Int)(a4 a5 a6 a7 a9:af)(aE:Int)(aI:Bool)(aJ aK t z:Int):af:=if g=true then(if 0<=clsOf z then a7 else xlL a1 a2 a3 a4 a5 a7 z)else a7
def xaX (g:Bool)(a0 a1 a2:af)(a3:Int)(a4 a5 a6 a7 a9:af)(aE:Int)(aI:Bool)(aJ aK t z:Int):af:=if g=true then(if 0<=clsOf z then xmX a0 a1 a2 a3 a4 a5 a6 a9 aE aI aJ aK t (clsOf z)else a9)else a9
def xaD (g:Bool)(a0 a1 a2:af)(a3:Int)(a4 a5 a6 a7 a9:af)(aE:Int)(aI:Bool)(aJ aK t z:Int):Int:=if g=true then(if 0<=clsOf z then xmD a0 a1 a2 a3 a4 a5 a6 a9 aE aI aJ aK t (clsOf z)else aE)else aE
def xaA (g:Bool)(a0 a1 a2:af)(a3:Int)(a4 a5 a6 a7 a9:af)(aE:Int)(aI:Bool)(aJ aK t z:Int):Int:=if g=true then(if 0<=clsOf z then xmA a0 a1 a2 a3 a4 a5 a6 a9 aE aI aJ aK t (clsOf z)else xlA a1 a2 a3 a4 a5 z)else-1
section
variable {g: Bool}
variable {a0 a1 a2: af} {a3: Int} {a4 a5 a6 a7 a8 a9 aA aB aD aL: af} {aC aE aF aG aH: Int} {aI: Bool} {aJ aK aM aN t k i z: Int}
theorem aed (h:g=false):xaC g a0 a1 a2 a3 a4 a5 a6 a7 a9 aE aI aJ aK t z=a0/\xaU g a0 a1 a2 a3 a4 a5 a6 a7 a9 aE aI aJ aK t z=a1/\xaE g a0 a1 a2 a3 a4 a5 a6 a7 a9 aE aI aJ aK t z=a2/\xaK g a0 a1 a2 a3 a4 a5 a6 a7 a9 aE aI aJ aK t z=a3/\xaF g a0 a1 a2 a3 a4 a5 a6 a7 a9 aE aI aJ aK t z=a5/\xaS g a0 a1 a2 a3 a4 a5 a6 a7 a9 aE aI aJ aK t z=a6/\xaL g a0 a1 a2 a3 a4 a5 a6 a7 a9 aE aI aJ aK t z=a7/\xaX g a0 a1 a2 a3 a4 a5 a6 a7 a9 aE aI aJ aK t z=a9/\xaD g a0 a1 a2 a3 a4 a5 a6 a7 a9 aE aI aJ aK t z=aE/\xaA g a0 a1 a2 a3 a4 a5 a6 a7 a9 aE aI aJ aK t z= -1:=by
 refine⟨?_,?_,?_,?_,?_,?_,?_,?_,?_,?_⟩
 ·unfold xaC;rw[h];rfl
 ·unfold xaU;rw[h];rfl
 ·unfold xaE;rw[h];rfl
 ·unfold xaK;rw[h];rfl
 ·unfold xaF;rw[h];rfl
 ·unfold xaS;rw[h];rfl
 ·unfold xaL;rw[h];rfl
 ·unfold xaX;rw[h];rfl
 ·unfold xaD;rw[h];rfl
 ·unfold xaA;rw[h];rfl
theorem aee (h:g=true)(c:0<=clsOf z):xaC g a0 a1 a2 a3 a4 a5 a6 a7 a9 aE aI aJ aK t z=xmC a0 a1 a2 a3 a4 a5 a6 a9 aE aI aJ aK t (clsOf z)/\xaU g a0 a1 a2 a3 a4 a5 a6 a7 a9 aE aI aJ aK t z=xmU a0 a1 a2 a3 a4 a5 a6 a9 aE aI aJ aK t (clsOf z)/\xaE g a0 a1 a2 a3 a4 a5 a6 a7 a9 aE aI aJ aK t z=xmE a0 a1 a2 a3 a4 a5 a6 a9 aE aI aJ aK t (clsOf z)/\xaK g a0 a1 a2 a3 a4 a5 a6 a7 a9 aE aI aJ aK t z=xmK a0 a1 a2 a3 a4 a5 a6 a9 aE aI aJ aK t (clsOf z)/\xaF g a0 a1 a2 a3 a4 a5 a6 a7 a9 aE aI aJ aK t z=xmF a0 a1 a2 a3 a4 a5 a6 a9 aE aI aJ aK t (clsOf z)/\xaS g a0 a1 a2 a3 a4 a5 a6 a7 a9 aE aI aJ aK t z=xmS a0 a1 a2 a3 a4 a5 a6 a9 aE aI aJ aK t (clsOf z)/\xaL g a0 a1 a2 a3 a4 a5 a6 a7 a9 aE aI aJ aK t z=a7/\xaX g a0 a1 a2 a3 a4 a5 a6 a7 a9 aE aI aJ aK t z=xmX a0 a1 a2 a3 a4 a5 a6 a9 aE aI aJ aK t (clsOf z)/\xaD g a0 a1 a2 a3 a4 a5 a6 a7 a9 aE aI aJ aK t z=xmD a0 a1 a2 a3 a4 a5 a6 a9 aE aI aJ aK t (clsOf z)/\xaA g a0 a1 a2 a3 a4 a5 a6 a7 a9 aE aI aJ aK t z=xmA a0 a1 a2 a3 a4 a5 a6 a9 aE aI aJ aK t (clsOf z):=by
 refine⟨?_,?_,?_,?_,?_,?_,?_,?_,?_,?_⟩
 ·unfold xaC;rw[VN h,VN c]
 ·unfold xaU;rw[VN h,VN c]
 ·unfold xaE;rw[VN h,VN c]
 ·unfold xaK;rw[VN h,VN c]
 ·unfold xaF;rw[VN h,VN c]
 ·unfold xaS;rw[VN h,VN c]
 ·unfold xaL;rw[VN h,VN c]
 ·unfold xaX;rw[VN h,VN c]
 ·unfold xaD;rw[VN h,VN c]
 ·unfold xaA;rw[VN h,VN c]
theorem aec (h:g=true)(c:clsOf z<0):xaC g a0 a1 a2 a3 a4 a5 a6 a7 a9 aE aI aJ aK t z=xpC a0 a1 a2 a3 a4 a5 (pfN z)/\xaU g a0 a1 a2 a3 a4 a5 a6 a7 a9 aE aI aJ aK t z=xpU a0 a1 a2 a3 a4 a5 (pfN z)/\xaE g a0 a1 a2 a3 a4 a5 a6 a7 a9 aE aI aJ aK t z=xpE a0 a1 a2 a3 a4 a5 (pfN z)/\xaK g a0 a1 a2 a3 a4 a5 a6 a7 a9 aE aI aJ aK t z=xpK a1 a2 a3 a4 a5 (pfN z)/\xaF g a0 a1 a2 a3 a4 a5 a6 a7 a9 aE aI aJ aK t z=xpF a1 a2 a3 a4 a5 (pfN z)/\xaS g a0 a1 a2 a3 a4 a5 a6 a7 a9 aE aI aJ aK t z=a6/\xaL g a0 a1 a2 a3 a4 a5 a6 a7 a9 aE aI aJ aK t z=xlL a1 a2 a3 a4 a5 a7 z/\xaX g a0 a1 a2 a3 a4 a5 a6 a7 a9 aE aI aJ aK t z=a9/\xaD g a0 a1 a2 a3 a4 a5 a6 a7 a9 aE aI aJ aK t z=aE/\xaA g a0 a1 a2 a3 a4 a5 a6 a7 a9 aE aI aJ aK t z=xlA a1 a2 a3 a4 a5 z:=by
 refine⟨?_,?_,?_,?_,?_,?_,?_,?_,?_,?_⟩
 ·unfold xaC;rw[VN h,VO (by omega)]
 ·unfold xaU;rw[VN h,VO (by omega)]
 ·unfold xaE;rw[VN h,VO (by omega)]
 ·unfold xaK;rw[VN h,VO (by omega)]
 ·unfold xaF;rw[VN h,VO (by omega)]
 ·unfold xaS;rw[VN h,VO (by omega)]
 ·unfold xaL;rw[VN h,VO (by omega)]
 ·unfold xaX;rw[VN h,VO (by omega)]
 ·unfold xaD;rw[VN h,VO (by omega)]
 ·unfold xaA;rw[VN h,VO (by omega)]
end
def xaP (a8:af)(aH t z w:Int):af:=if 0<=w then inL a8 (FC a8 1 w) [[.i aH,.i w,.i z,.i t]]else a8
def xaN (aH w:Int):Int:=if 0<=w then aH+1 else aH
def xaR (c w:Int):Int:=if c≠0 then c else if w<0 then 4 else 0
end Go.V
namespace Go.V
theorem ads {A B:Prop}(b:Bool)(h1:b=true->A)(h2:b=false->B):A\/B:=by
 cases b with
 |true=>exact .inl (h1 rfl)
 |false=>exact .inr (h2 rfl)
theorem Rj {ls:af}{k:Int}(h:ctB ls k=true):0<=ctA ls k/\ctA ls k<=511:=by
 have e:=(Rl h).2;unfold ctB clB at h;simp only[Zc,VM]at h;obtain⟨⟨r,ca⟩,l⟩:=h;have q:=bz.1 r;unfold caOk at ca;simp only[Zc]at ca;have a:=dp.1 ca.2.1 k q.1 (by omega);unfold J6 at a;rw[Zc]at a;have b:=dp.1 a.2 ((ax ls k 0).length-1) (by omega) (by omega);unfold J7 at b;rw[Zc]at b;rw[e];exact bz.1 b.1
theorem HD {es:af}{i:Int}{r:aO}{j:Nat}(i0:0<=i)(i1:i<=es.length):ag (inL es i [r]) i j=KH (r.getD j .g):=by
 have h:(inL es i [r]).getD i.toNat []=r:=by
  unfold inL;rw[Zo,ZM (by rw[Zh];omega),Zh,show i.toNat-min i.toNat es.length=0 by omega];rfl
 unfold ag;rw[h]
section
variable {a0 a1 a2: af} {a3: Int} {a4 a5 a6 a7 a8 a9 aA aB aD aL: af} {aC aE aF aG aH: Int} {aI: Bool} {aJ aK aM aN t k i z n p b w: Int} {g: Bool}
theorem abO (hc:Al a0 a1 a2 a4 a5 a6 a7 a8 a9 aA aB aD aL)(km:mX a0 a1 a2):Al (xpC a0 a1 a2 a3 a4 a5 n) (xpU a0 a1 a2 a3 a4 a5 n) (xpE a0 a1 a2 a3 a4 a5 n) a4 (xpF a1 a2 a3 a4 a5 n) a6 a7 a8 a9 aA aB aD aL:=by
 have m:=aej (a3:=a3) (a4:=a4) (a5:=a5) (n:=n) km hc.r0 hc.r1 hc.r2;have f:=Qk (a1:=a1) (a2:=a2) (a3:=a3) (a4:=a4) (n:=n) hc.r5;have c5:=hc.c5;rw[hc.r5.cnt rfl]at c5;exact {hc with r0:=m.2.1,r1:=m.2.2.1,r2:=m.2.2.2.1,r5:=f.1,c0:=ZN m.2.2.2.2.2.1 (by decide),c1:=ZN m.2.2.2.2.2.2.1 (by decide),c2:=ZN m.2.2.2.2.2.2.2 (by decide),c5:=by rw[f.1.cnt rfl];omega}
theorem OH (h:Rw [tI,tI,tI] a6)(l:a6.length<=1073741824)(hp: -9223372036854775808<=p/\p<=9223372036854775807)(hk: -9223372036854775808<=k/\k<=9223372036854775807)(hb: -9223372036854775808<=b/\b<=9223372036854775807):Rw [tI,tI,tI] (isL a6 p k b)/\(isL a6 p k b).length=a6.length+1:=by
 unfold isL;refine⟨SK h (Rw.one (show cy [tI,tI,tI] [.i p,.i k,.i b]from⟨⟨rfl,hp⟩,⟨rfl,hk⟩,⟨rfl,hb⟩,trivial⟩)) (by unfold maxLen;simp only[Zr,Zt];omega),Cs⟩
theorem SL (hc:Al a0 a1 a2 a4 a5 a6 a7 a8 a9 aA aB aD aL)(c6:bj a6<=1000000000)(hp: -9223372036854775808<=p/\p<=9223372036854775807)(hk: -9223372036854775808<=k/\k<=9223372036854775807)(hb: -9223372036854775808<=b/\b<=9223372036854775807):Al a0 a1 a2 a4 a5 (isL a6 p k b) a7 a8 a9 aA aB aD aL:=by
 have l:=av (es:=a6);have s:=OH (p:=p) (k:=k) (b:=b) hc.r6 (by omega) hp hk hb;rw[hc.r6.cnt rfl]at c6;exact {hc with r6:=s.1,c6:=by rw[s.1.cnt rfl,s.2];omega}
theorem Ng (h:xpB a1 a2 a3 a4 a5 1=true)(hk:inR k 0 3=true):spOk (ag (isL a6 (xpA a1 a2 a3 a4 a5 1) k 0) (isI a6 (xpA a1 a2 a3 a4 a5 1)) 0) (ag (isL a6 (xpA a1 a2 a3 a4 a5 1) k 0) (isI a6 (xpA a1 a2 a3 a4 a5 1)) 1) (ag (isL a6 (xpA a1 a2 a3 a4 a5 1) k 0) (isI a6 (xpA a1 a2 a3 a4 a5 1)) 2)=true:=by
 obtain⟨h1,h2,_⟩:=abM h;have q:=Jn h1;have lb:=HQ (rs:=a6) (j:=0) (x:=xpA a1 a2 a3 a4 a5 1);unfold isL isI;rw[HD lb.1 lb.2,HD lb.1 lb.2,HD lb.1 lb.2];show spOk (xpA a1 a2 a3 a4 a5 1) k 0=true;unfold spOk;rw[h2,bz.2 ⟨q.1,by omega⟩,YE];rcases GV hk with rfl|rfl|rfl|rfl<;>decide
theorem Jo (h:xpB a1 a2 a3 a4 a5 n=true):0<=xpA a1 a2 a3 a4 a5 n/\xpA a1 a2 a3 a4 a5 n<=31/\xpA a1 a2 a3 a4 a5 n+n<=a2.length/\1<=n/\n<=32:=by
 obtain⟨h1,h2,_⟩:=abM h;have q:=Jn h1;rw[h2];omega
theorem acZ (h6:Rw [tI,tI,tI] a6):0<=isI a6 p/\isI a6 p<(isL a6 p k b).length:=by
 have lb:=HQ (rs:=a6) (j:=0) (x:=p);unfold isI isL;rw[Cs];simp only[Zr,Zt];omega
theorem E8 (hk:hpI a0 a1 a2 a3 a4 a5 a6 a7 a8 a9 aA aB aC aD aE aF aG aH aI aJ aK aL aM aN=true)(i0:0<=i)(i1:i<a6.length):spOk (ag a6 i 0) (ag a6 i 1) (ag a6 i 2)=true:=by
 have s:=(O4 (DW hk).l).s i.toNat (by omega)
 rwa [Zp i0]at s
theorem vu (c:0<=clsOf z):inR (clsOf z) 0 3=true:=by
 refine bz.2 ⟨c,?_⟩;unfold clsOf;repeat' split
 all_goals omega
theorem Qi (hk:hpI a0 a1 a2 a3 a4 a5 a6 a7 a8 a9 aA aB aC aD aE aF aG aH aI aJ aK aL aM aN=true)(kk:inR k 0 3=true):(xmB a0 a1 a2 a3 a4 a5 a6 a9 aE aI aJ aK t k=true/\0<=xmA a0 a1 a2 a3 a4 a5 a6 a9 aE aI aJ aK t k/\xmA a0 a1 a2 a3 a4 a5 a6 a9 aE aI aJ aK t k<=511)\/(xmB a0 a1 a2 a3 a4 a5 a6 a9 aE aI aJ aK t k=false/\xmA a0 a1 a2 a3 a4 a5 a6 a9 aE aI aJ aK t k= -1):=by
 have H:=DW hk;cases c:ctB (ax a9 t 0) k with
 | true=>
   obtain⟨_,_,_,_,_,_,_,_,q9,q10⟩:=abD (a0:=a0) (a1:=a1) (a2:=a2) (a3:=a3) (a4:=a4) (a5:=a5) (a6:=a6) (aE:=aE) (aI:=aI) (aJ:=aJ) (aK:=aK) c;rw[q9,q10];exact .inl ⟨rfl,Rj c⟩
 | false=>
   by_cases i:0<=E7 a2 a6 aI aJ aK k
   ·obtain⟨_,_,_,_,_,_,_,_,q9,q10⟩:=abE (a0:=a0) (a1:=a1) (a3:=a3) (a4:=a4) (a5:=a5) (aE:=aE) c i rfl;rw[q9,q10];have il:=kF i;change E7 a2 a6 aI aJ aK k<a6.length/\BO a2 a6 aI aJ aK k (E7 a2 a6 aI aJ aK k)=true at il;have y:=il.2;unfold BO at y;simp only[Zc]at y;have n:¬ (oU a2 a6 (E7 a2 a6 aI aJ aK k)).length=0:=by have:=VP y.2.2;omega
    have X:=E6 (a2:=a2) (E8 hk i il.1) H.s n;rw[(Lv n).2.2.2];exact .inl ⟨rfl,X.a0,X.a1⟩
   ·cases d:xpB a1 a2 a3 a4 a5 1 with
    | false=>
      obtain⟨_,_,_,_,_,_,_,_,q9,q10⟩:=abF (a0:=a0) (aE:=aE) c (WN.1 i) d;rw[q9,q10];exact .inr ⟨rfl,rfl⟩
    | true=>
      obtain⟨_,_,_,_,_,_,_,_,q9,q10⟩:=abG (a0:=a0) (aE:=aE) c (WN.1 i) d;rw[q9,q10];by_cases n:(oU (xpE a0 a1 a2 a3 a4 a5 1) (isL a6 (xpA a1 a2 a3 a4 a5 1) k 0) (isI a6 (xpA a1 a2 a3 a4 a5 1))).length=0
      ·have q:=Lu (s:=aE) n;rw[q.1,q.2.2.2];exact .inr ⟨rfl,rfl⟩
      ·have q:=Lv (s:=aE) n;have X:=E6 (Ng d kk) H.s n;rw[q.1,q.2.2.2];exact .inl ⟨rfl,X.a0,X.a1⟩
theorem aby:(xpB a1 a2 a3 a4 a5 (pfN z)=true/\0<=xlA a1 a2 a3 a4 a5 z/\xlA a1 a2 a3 a4 a5 z<=511)\/(xpB a1 a2 a3 a4 a5 (pfN z)=false/\xlA a1 a2 a3 a4 a5 z= -1):=by
 unfold xlA;cases d:xpB a1 a2 a3 a4 a5 (pfN z)with
 |true=>have:=Jo d;exact .inl ⟨rfl,by rw[VN rfl];omega,by rw[VN rfl];omega⟩
 |false=>exact .inr ⟨rfl,rfl⟩
theorem abH (h:upto (bR (BO a2 a6 aI aJ aK k)) i)(i0:0<=i)(i1:i<a6.length)(e:ag a6 i 1=k)(f:bsB aI aJ aK (ag a6 i 0)=false)(x:xcB a2 a6 i=true):E7 a2 a6 aI aJ aK k=i:=
 dE h i0 i1 (by unfold BO;rw[sK e,f,x];rfl)
theorem Nb (h:upto (bR (BO a2 a6 aI aJ aK k)) i)(i1:(a6.length:Int)<=i):E7 a2 a6 aI aJ aK k<0:=by
 unfold E7;rw[dF h i1];omega
theorem abJ (h:upto (bR (BO a2 a6 aI aJ aK k)) i)(e:ag a6 i 1≠k):upto (bR (BO a2 a6 aI aJ aK k)) (i+1):=aU h (fX (by unfold BO;rw[sJ e];rfl))
theorem abK (h:upto (bR (BO a2 a6 aI aJ aK k)) i)(f:bsB aI aJ aK (ag a6 i 0)=true):upto (bR (BO a2 a6 aI aJ aK k)) (i+1):=aU h (fX (by unfold BO;rw[f];simp))
theorem abL (h:upto (bR (BO a2 a6 aI aJ aK k)) i)(x:xcB a2 a6 i=false):upto (bR (BO a2 a6 aI aJ aK k)) (i+1):=aU h (fX (by unfold BO;rw[x];simp))
theorem Qo (h:Nj a1 a2 a3 a4 a5 a6 k<0):xpB a1 a2 a3 a4 a5 1=false:=by
 cases c:xpB a1 a2 a3 a4 a5 1 with
 |false=>rfl
 | true=>
   unfold Nj isI at h;rw[VN c]at h;have:=HQ (rs:=a6) (j:=0) (x:=xpA a1 a2 a3 a4 a5 1);omega
theorem Qp (h:0<=Nj a1 a2 a3 a4 a5 a6 k):xpB a1 a2 a3 a4 a5 1=true:=by
 cases c:xpB a1 a2 a3 a4 a5 1 with
 |true=>rfl
 | false=>
   unfold Nj at h;rw[c]at h;exact absurd (show(0:Int)<= -1 from h) (by omega)
theorem abS (c:xpB a1 a2 a3 a4 a5 1=true):Nj a1 a2 a3 a4 a5 a6 k=isI a6 (xpA a1 a2 a3 a4 a5 1)/\xsL a1 a2 a3 a4 a5 a6 k=isL a6 (xpA a1 a2 a3 a4 a5 1) k 0:=by
 unfold Nj xsL;rw[VN c,VN c];exact⟨rfl,rfl⟩
theorem aeo (c:xpB a1 a2 a3 a4 a5 1=false):xsL a1 a2 a3 a4 a5 a6 k=a6:=by unfold xsL;rw[c];rfl
theorem abx (hs:spOk (ag a6 i 0) (ag a6 i 1) (ag a6 i 2)=true)(hd:inR aE 0 1073741823=true)(x:xcB a2 a6 i=true):0<=xcA a2 a6 aE i:=by
 have n:¬ (oU a2 a6 i).length=0:=by have:=VP x;omega
 rw[(Lv n).2.2.2];exact(E6 hs hd n).a0
theorem M9 {x:af}(h:Rw [.sl [.sl [tI]]] a9)(t0:0<=t)(t1:t<a9.length):pm (.s 1 a9) [(t.toNat,0)] [.s 1 x]=a9.set t.toNat [.s 1 x]:=oP (by rw[h.eta t0 t1];rfl)
theorem Qj (hc:Al a0 a1 a2 a4 a5 a6 a7 a8 a9 aA aB aD aL)(km:mX a0 a1 a2)(c6:bj a6<=1000000000)(kk:inR k 0 3=true)(hd:inR aE 0 1073741823=true)(c:xpB a1 a2 a3 a4 a5 1=true):
 Al (xpC a0 a1 a2 a3 a4 a5 1) (xpU a0 a1 a2 a3 a4 a5 1) (xpE a0 a1 a2 a3 a4 a5 1) a4 (xpF a1 a2 a3 a4 a5 1) (isL a6 (xpA a1 a2 a3 a4 a5 1) k 0) a7 a8 a9 aA aB aD aL/\0<=isI a6 (xpA a1 a2 a3 a4 a5 1)/\isI a6 (xpA a1 a2 a3 a4 a5 1)<(isL a6 (xpA a1 a2 a3 a4 a5 1) k 0).length/\spOk (ag (isL a6 (xpA a1 a2 a3 a4 a5 1) k 0) (isI a6 (xpA a1 a2 a3 a4 a5 1)) 0) (ag (isL a6 (xpA a1 a2 a3 a4 a5 1) k 0) (isI a6 (xpA a1 a2 a3 a4 a5 1)) 1) (ag (isL a6 (xpA a1 a2 a3 a4 a5 1) k 0) (isI a6 (xpA a1 a2 a3 a4 a5 1)) 2)=true/\inR aE 0 1073741823=true:=by
 have pg:=Jo c;have kr:=bz.1 kk;have ii:=acZ (p:=xpA a1 a2 a3 a4 a5 1) (k:=k) (b:=0) hc.r6;exact⟨SL (abO hc km) c6 (by omega) (by omega) (by omega),ii.1,ii.2,Ng c kk,hd⟩
end
end Go.V
namespace Go.V
section
variable {a0 a1 a2: af} {a3: Int} {a4 a5 a6 a7 a8 a9: af} {z: Int}
theorem adt (_: -9223372036854775808<=z)(_:z<=9223372036854775807): -9223372036854775808<=pfN z/\pfN z<=9223372036854775807:=by
 unfold pfN;split
 ·rename_i h;have:=bz.1 h;omega
 ·omega
theorem aeg (c:xpB a1 a2 a3 a4 a5 (pfN z)=true):xlL a1 a2 a3 a4 a5 a7 z=inL a7 (FC a7 0 (xpA a1 a2 a3 a4 a5 (pfN z))) [[.i (xpA a1 a2 a3 a4 a5 (pfN z)),.i (pfN z),.i z]]/\xlA a1 a2 a3 a4 a5 z=xpA a1 a2 a3 a4 a5 (pfN z)*16:=by
 unfold xlL xlA;rw[VN c,VN c];exact⟨rfl,rfl⟩
theorem abA (c:xpB a1 a2 a3 a4 a5 (pfN z)=false):xlL a1 a2 a3 a4 a5 a7 z=a7/\xlA a1 a2 a3 a4 a5 z= -1:=by
 unfold xlL xlA;rw[c];exact⟨rfl,rfl⟩
end
theorem Jm {h:Bool}{a3:Int}{a8 a9:af}{aG aH t z:Int}(e:h=false\/aH=1000000\/90000<a3):xaG h a3 a8 a9 aG aH t z=5:=by unfold xaG;rw[VN e]
theorem abn {h:Bool}{a3:Int}{a8 a9:af}{aG aH t z:Int}(e1:h=true)(e2:aH≠1000000)(e3:a3<=90000)(e4:inR t 0 (a9.length-1)=false):xaG h a3 a8 a9 aG aH t z=1:=by unfold xaG;rw[VO (by rintro(q|q|q);(rw[e1]at q;cases q);(exact e2 q);omega),VN e4]
theorem abo {h:Bool}{a3:Int}{a8 a9:af}{aG aH t z:Int}(e1:h=true)(e2:aH≠1000000)(e3:a3<=90000)(e4:inR t 0 (a9.length-1)=true)(e5:inR z 1 1000=false):xaG h a3 a8 a9 aG aH t z=2:=by unfold xaG;rw[VO (by rintro(q|q|q);(rw[e1]at q;cases q);(exact e2 q);omega),VO (by rw[e4];decide),VN e5]
theorem abp {h:Bool}{a3:Int}{a8 a9:af}{aG aH t z:Int}(e1:h=true)(e2:aH≠1000000)(e3:a3<=90000)(e4:inR t 0 (a9.length-1)=true)(e5:inR z 1 1000=true)(e6:aG<bK .add Za (lsI a8) z):xaG h a3 a8 a9 aG aH t z=3:=by unfold xaG;rw[VO (by rintro(q|q|q);(rw[e1]at q;cases q);(exact e2 q);omega),VO (by rw[e4];decide),VO (by rw[e5];decide),VN e6]
theorem abq {h:Bool}{a3:Int}{a8 a9:af}{aG aH t z:Int}(e1:h=true)(e2:aH≠1000000)(e3:a3<=90000)(e4:inR t 0 (a9.length-1)=true)(e5:inR z 1 1000=true)(e6:bK .add Za (lsI a8) z<=aG):xaG h a3 a8 a9 aG aH t z=0:=by unfold xaG;rw[VO (by rintro(q|q|q);(rw[e1]at q;cases q);(exact e2 q);omega),VO (by rw[e4];decide),VO (by rw[e5];decide),VO (by omega)]
theorem abr {h:Bool}{a3:Int}{a8 a9:af}{aG aH t z c:Int}(e:xaG h a3 a8 a9 aG aH t z=c)(n:c≠0):xaO h a3 a8 a9 aG aH t z=false:=VL (by rw[e];exact n)
theorem Na {h:Bool}{a3:Int}{a8 a9:af}{aG aH t z:Int}(e:xaG h a3 a8 a9 aG aH t z=0):xaO h a3 a8 a9 aG aH t z=true:=VK e
theorem abw {c w:Int}(h:c=0)(n:w<0):xaR c w=4:=by unfold xaR;rw[VO (fun q=>q h),VN n]
theorem abv {c w:Int}(h:c=0)(n:0<=w):xaR c w=0:=by unfold xaR;rw[VO (fun q=>q h),VO (by omega)]
theorem abt {a8:af}{aH t z w:Int}(n:w<0):xaP a8 aH t z w=a8/\xaN aH w=aH:=⟨VO (by omega),VO (by omega)⟩
theorem abu {a8:af}{aH t z w:Int}(n:0<=w):xaP a8 aH t z w=inL a8 (FC a8 1 w) [[.i aH,.i w,.i z,.i t]]/\xaN aH w=aH+1:=⟨VN n,VN n⟩
section
variable {g: Bool}
variable {a0 a1 a2: af} {a3: Int} {a4 a5 a6 a7 a8 a9 aA aB aD aL: af} {aC aE aF aG aH: Int} {aI: Bool} {aJ aK aM aN t k i z: Int}
theorem aeh {w:Int}(hk:hpI a0 a1 a2 a3 a4 a5 a6 a7 a8 a9 aA aB aC aD aE aF aG aH aI aJ aK aL aM aN=true)(kk:inR k 0 3=true)(b:xmB a0 a1 a2 a3 a4 a5 a6 a9 aE aI aJ aK t k=false)(hw:xmA a0 a1 a2 a3 a4 a5 a6 a9 aE aI aJ aK t k=w):w<0:=by
 rcases Qi (t:=t) hk kk with q|q
 ·rw[b]at q;cases q.1
 ·omega
theorem aei {w:Int}(hk:hpI a0 a1 a2 a3 a4 a5 a6 a7 a8 a9 aA aB aC aD aE aF aG aH aI aJ aK aL aM aN=true)(kk:inR k 0 3=true)(b:xmB a0 a1 a2 a3 a4 a5 a6 a9 aE aI aJ aK t k=true)(hw:xmA a0 a1 a2 a3 a4 a5 a6 a9 aE aI aJ aK t k=w):0<=w:=by
 rcases Qi (t:=t) hk kk with q|q;omega
 ·rw[b]at q;cases q.1
theorem abB {w:Int}(b:xpB a1 a2 a3 a4 a5 (pfN z)=false)(hw:xlA a1 a2 a3 a4 a5 z=w):w<0:=by
 have:=(abA (a7:=([]:af)) b).2;omega
theorem abC {w:Int}(b:xpB a1 a2 a3 a4 a5 (pfN z)=true)(hw:xlA a1 a2 a3 a4 a5 z=w):0<=w:=by
 rcases aby (a1:=a1) (a2:=a2) (a3:=a3) (a4:=a4) (a5:=a5) (z:=z)with q|q;omega
 ·rw[b]at q;cases q.1
theorem abI {w:Int}(hk:hpI a0 a1 a2 a3 a4 a5 a6 a7 a8 a9 aA aB aC aD aE aF aG aH aI aJ aK aL aM aN=true)(kk:inR k 0 3=true)(hw:xmA a0 a1 a2 a3 a4 a5 a6 a9 aE aI aJ aK t k=w)(h:w<0):w= -1:=by
 rcases Qi (t:=t) hk kk with q|q<;>omega
theorem abz {w:Int}(hw:xlA a1 a2 a3 a4 a5 z=w)(h:w<0):w= -1:=by
 rcases aby (a1:=a1) (a2:=a2) (a3:=a3) (a4:=a4) (a5:=a5) (z:=z)with q|q<;>omega
end
end Go.V
namespace Go.V
theorem rF {cs:af}{i i' h h':Int}(a:i=i')(b:h=h'):[H.ro (.s 1 cs),H.own (.i i),H.own (.i h)]=[H.ro (.s 1 cs),H.own (.i i'),H.own (.i h')]:=by rw[a,b]
def bgB (cs:af):Bool:=decide ((cs.length:Int)>1048576)
theorem Q0 {cs:af}(h:bgB cs=false):cs.length<=1048576:=by
 unfold bgB at h;simp only[decide_eq_false_iff_not]at h;omega
theorem EA {w:Nat}{l:af}{i:Int}{j:Nat}(h0:0<=i):uk (.s w l) [(i.toNat,j)]=ag l i j:=by
 rw[zn];unfold ag;rw[ZE]
theorem cm0 {x c:Int}(h:x=c):cU .eql x c=true:=by subst h;simp[cU]
theorem TN {x c:Int}(h:x=c)(q:cU .eql x c=false):False:=by rw[cm0 h]at q;cases q
theorem tf0 {b:Bool}(h:b=true)(q:b=false):False:=by rw[h]at q;cases q
theorem dbt {a:Bool}(h:a=true):[DV.k a]=[DV.k true]:=by rw[h]
end Go.V
namespace Go.V
structure HV where
 (a0 a1 a2:af) (a3:Int) (a4 a5 a6 a7 a8 a9 aA aB:af) (aC:Int) (aD:af) (aE aF aG aH:Int) (aI:Bool) (aJ aK:Int) (aL:af) (aM aN:Int)
def hvN (p f t l:Int)(rs:af):HV:=⟨hnC p f t l rs,hnU p f t l rs,hnE p f t l rs,0,hnR p f t l rs,hnF p f t l rs,[],[],[],hnK p f t l rs,hnM p f t l rs,hnI p f t l rs,hnQ p f t l rs,[],0,0,hnL p f t l rs,hnN p f t l rs,false,0,0,[],0,0⟩
def HV.hp (h:HV):Bool:=hpI h.a0 h.a1 h.a2 h.a3 h.a4 h.a5 h.a6 h.a7 h.a8 h.a9 h.aA h.aB h.aC h.aD h.aE h.aF h.aG h.aH h.aI h.aJ h.aK h.aL h.aM h.aN
def HV.ao (h:HV)(t z:Int):Bool:=xaO h.hp h.a3 h.a8 h.a9 h.aG h.aH t z
def HV.aQ (h:HV)(t z:Int):Int:=xaA (h.ao t z) h.a0 h.a1 h.a2 h.a3 h.a4 h.a5 h.a6 h.a7 h.a9 h.aE h.aI h.aJ h.aK t z
def HV.aR (h:HV)(t z:Int):Int:=xaR (xaG h.hp h.a3 h.a8 h.a9 h.aG h.aH t z) (h.aQ t z)
def HV.al (h:HV)(t z:Int):HV:=
 let g:=h.ao t z
 ⟨xaC g h.a0 h.a1 h.a2 h.a3 h.a4 h.a5 h.a6 h.a7 h.a9 h.aE h.aI h.aJ h.aK t z,xaU g h.a0 h.a1 h.a2 h.a3 h.a4 h.a5 h.a6 h.a7 h.a9 h.aE h.aI h.aJ h.aK t z,
  xaE g h.a0 h.a1 h.a2 h.a3 h.a4 h.a5 h.a6 h.a7 h.a9 h.aE h.aI h.aJ h.aK t z,xaK g h.a0 h.a1 h.a2 h.a3 h.a4 h.a5 h.a6 h.a7 h.a9 h.aE h.aI h.aJ h.aK t z,
  h.a4,xaF g h.a0 h.a1 h.a2 h.a3 h.a4 h.a5 h.a6 h.a7 h.a9 h.aE h.aI h.aJ h.aK t z,xaS g h.a0 h.a1 h.a2 h.a3 h.a4 h.a5 h.a6 h.a7 h.a9 h.aE h.aI h.aJ h.aK t z,
  xaL g h.a0 h.a1 h.a2 h.a3 h.a4 h.a5 h.a6 h.a7 h.a9 h.aE h.aI h.aJ h.aK t z,xaP h.a8 h.aH t z (h.aQ t z),xaX g h.a0 h.a1 h.a2 h.a3 h.a4 h.a5 h.a6 h.a7 h.a9 h.aE h.aI h.aJ h.aK t z,
  h.aA,h.aB,h.aC,h.aD,xaD g h.a0 h.a1 h.a2 h.a3 h.a4 h.a5 h.a6 h.a7 h.a9 h.aE h.aI h.aJ h.aK t z,h.aF,h.aG,xaN h.aH (h.aQ t z),h.aI,h.aJ,h.aK,h.aL,h.aM,h.aN⟩
def HV.lv (h:HV)(a:Int):Int:=hlV (ooI h.hp h.a8 a) (ldV h.a0 h.a1 h.a2 a)
def HV.lk (h:HV)(a:Int):Int:=hlK (ooI h.hp h.a8 a)
def HV.sk (h:HV)(a v:Int):Int:=hsK h.hp h.a0 h.a1 h.a2 h.a8 a v
def NI:Nat->Ty->L->Bool
 |_,.int k,.v (.int k' n)=>decide (k'=k)&&(decide (k.min<=n)&&decide (n<=k.max))
 |_,.bool,.v (.bool _)=>true
 |k+1,.sl fs,.s sz es=>decide (sz=fs.length)&&(decide (es.length<=maxLen)&&es.all fun e=>decide (e.length=fs.length)&&(fs.zip e).all fun p=>NI k p.1 p.2)
 |_,_,_=>false
theorem Jr {k:Nat}(ih:∀ {t:Ty} {l:L},NI k t l=true->dz t l):∀ {fs:List Ty} {e:aO},e.length=fs.length->((fs.zip e).all fun p=>NI k p.1 p.2)=true->cy fs e
 |[],[],_,_=>by simp[cy]
 |[],_::_,h,_=>by cases h
 |_::_,[],h,_=>by cases h
 | t::fs,l::e,h,q=>by
   simp only[List.zip_cons_cons,List.all_cons,Zc]at q;simp only[cy];exact⟨ih q.1,Jr ih (by simpa using h) q.2⟩
theorem NJ:∀ {k:Nat} {t:Ty} {l:L},NI k t l=true->dz t l:=by
 intro k
 induction k with
 | zero=>
   intro t l h;unfold NI at h;split at h
   ·simp only[Zc,VM]at h;simp only[dz];exact⟨h.1,h.2⟩
   ·simp only[dz]
   ·rename_i e;cases e
   ·cases h
 | succ k ih=>
   intro t l h;unfold NI at h;split at h
   ·simp only[Zc,VM]at h;simp only[dz];exact⟨h.1,h.2⟩
   ·simp only[dz]
   ·rename_i e;cases e;simp only[Zc,VM]at h;simp only[dz];refine⟨h.1,h.2.1,fun e he=>?_⟩;have q:=List.all_eq_true.1 h.2.2 e he;simp only[Zc,VM]at q;exact Jr ih q.1 q.2
   ·cases h
def ET (fs:List Ty)(es:af):Bool:=NI 4 (.sl fs) (.s fs.length es)
theorem hE {fs:List Ty}{es:af}(h:ET fs es=true):Rw fs es:=by
 have q:=NJ h;simp only[dz]at q;exact q.2
def HV.wf (h:HV):Bool:=
 ET [.sl [tI]] h.a0&&(ET [tB] h.a1&&(ET [tI,tI] h.a2&&(ET [tI] h.a4&&(ET [tI,tI] h.a5&&(ET [tI,tI,tI] h.a6&&(ET [tI,tI,tI] h.a7&&(ET [tI,tI,tI,tI] h.a8&&(ET [.sl [.sl [tI]]] h.a9&&
 (ET [.sl [tI,tI]] h.aA&&(ET [.sl [tI]] h.aB&&(ET [tI,tI,tI] h.aD&&(ET [tI] h.aL&&decide (xK [h.a0,h.a1,h.a2,h.a4,h.a5,h.a6,h.a7,h.a8,h.a9,h.aA,h.aB,h.aD,h.aL]<=1048576)))))))))))))
theorem HV.wf_hc {h:HV}(w:h.wf=true):Al h.a0 h.a1 h.a2 h.a4 h.a5 h.a6 h.a7 h.a8 h.a9 h.aA h.aB h.aD h.aL/\bj h.a6<=1000000000/\bj h.a7<=1000000000/\bj h.a8<=1000000000/\bj h.a9<=300000000/\bj h.aA<=500000000/\bj h.aB<=1000000000:=by
 simp only[HV.wf,Zc,VM]at w;obtain⟨h0,h1,h2,h4,h5,h6,h7,h8,h9,h10,h11,h13,h21,hs⟩:=w;have c:=LY hs;exact⟨Ob (hE h0) (hE h1) (hE h2) (hE h4) (hE h5) (hE h6) (hE h7) (hE h8) (hE h9) (hE h10) (hE h11) (hE h13) (hE h21) hs,by have:=c.2.2.2.2.2.1;omega,by have:=c.2.2.2.2.2.2.1;omega,by have:=c.2.2.2.2.2.2.2.1;omega,by have:=c.2.2.2.2.2.2.2.2.1;omega,by have:=c.2.2.2.2.2.2.2.2.2.1;omega,by have:=c.2.2.2.2.2.2.2.2.2.2.1;omega⟩
end Go.V
namespace Go.V
def E2:HV:=hvN 8 8 1 300 []
def M0:af:=[[.i 3],[.i 5],[.i 6],[.i 7]]
theorem La:Rw [tI] M0:=hE (by decide+kernel)
theorem aeB {r:Int}(h0:0<=r)(h1:r<4):uk (.s 1 M0) [(r.toNat,0)]∈[(3:Int),5,6,7]:=by
 have:r=0\/r=1\/r=2\/r=3:=by omega
 rcases this with rfl|rfl|rfl|rfl<;>decide+kernel
def Gr (s w:Int):Int:=bK .add Za (bK .add Za (E2.aQ 0 s) s) w
def JR (s:Int):Int:=bK .sub Za (bK .add Za (E2.aQ 0 s) s) 1
def o34 (s w:Int):Bool:=
 let x:=E2.al 0 s
 E2.wf&&(x.wf&&(decide (E2.aR 0 s=0)&&(decide (-9223372036854775808<=Gr s w/\Gr s w<=9223372036854775807)&&(decide (-9223372036854775808<=JR s/\JR s<=9223372036854775807)&&(decide (x.lv (Gr s w)=0)&&(decide (x.lk (Gr s w)=1)&&(decide (x.sk (Gr s w) 1=1)&&(decide (x.lv (JR s)=0)&&decide (x.lk (JR s)=0)))))))))
theorem qC:∀ s∈[(3:Int),5,6,7],0<waI s/\waI s<=4/\1<=s/\s<=8/\∀ w∈[(0:Int),1,2,3],w<waI s->o34 s w=true:=by decide+kernel
theorem w34 {s:Int}(hs:s∈[(3:Int),5,6,7]):0<waI s/\waI s<=4/\1<=s/\s<=8:=⟨(qC s hs).1,(qC s hs).2.1,(qC s hs).2.2.1,(qC s hs).2.2.2.1⟩
theorem f34 {s w:Int}(hs:s∈[(3:Int),5,6,7])(h0:0<=w)(h1:w<waI s):E2.wf=true/\(E2.al 0 s).wf=true/\E2.aR 0 s=0/\(-9223372036854775808<=Gr s w/\Gr s w<=9223372036854775807)/\(-9223372036854775808<=JR s/\JR s<=9223372036854775807)/\(E2.al 0 s).lv (Gr s w)=0/\(E2.al 0 s).lk (Gr s w)=1/\(E2.al 0 s).sk (Gr s w) 1=1/\(E2.al 0 s).lv (JR s)=0/\(E2.al 0 s).lk (JR s)=0:=by
 have q:=qC s hs;have hw:w∈[(0:Int),1,2,3]:=by
  have:w=0\/w=1\/w=2\/w=3:=by omega
  rcases this with rfl|rfl|rfl|rfl<;>decide
 have r:=q.2.2.2.2 w hw h1
 simpa only[o34,Zc,VM]using r
theorem acF:hnB 8 8 1 300 []=true:=by decide+kernel
end Go.V