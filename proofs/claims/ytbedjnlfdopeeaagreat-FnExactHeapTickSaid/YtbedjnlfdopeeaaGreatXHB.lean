/- Plain facts. -/
import Derived.Test.YtbedjnlfdopeeaaGreatXW2
import Derived.Test.YtbedjnlfdopeeaaGreatXW1
set_option linter.all false
open Go
open BitVec renaming ofInt->ZQ,toNat_and->aaD,ofInt_natCast->X1,toNat_ofNat->XB,toInt_eq_toNat_of_lt->aaE,getLsbD_ofNat->aaF
open Bool renaming and_eq_true->Zc,or_eq_true->Z9,and_false->Ya,true_and->YB,not_eq_true->Y6,or_true->aaC,eq_iff_iff->WW,not_eq_true'->YM,and_true->WF
open Decidable renaming not_not->aaW
open Int renaming mul_nonneg->WP,mul_le_mul_of_nonneg_right->Xz,toNat_of_nonneg->Zt,add_mul->aav,ediv_nonneg->WN,eq_ofNat_of_zero_le->Z3,mul_comm->X9,le_refl->Yn,toNat_natCast->ZG,toNat->X0,mul_ediv_add_emod->aaJ
open IntKind renaming i64->ZC,wrap->YT,i64->Za
open IntWalk renaming i64_in->Xw
open List renaming length_map->YG,mem_append->Ze,length_append->Zg,append_assoc->Zj,length_cons->Zq,length_nil->Zz,mem_cons->Zi,mem_singleton->Z1,nodup_append->Zr,nodup_nil->ZL,find?_eq_none->aaw,mem_range->Yg,mergeSort_perm->aax,getD_eq_getElem?_getD->Zp,take_append_drop->ZN,mem_map->ZM,getElem_mem->Xu,getElem?_eq_getElem->Zx,mem_iff_getElem->WT,map_append->YN,take->Yu,drop->Y4,getElem?_eq_none->ZV,length_take->Zl,count_eq_zero->aaz,take_length->Yt,drop_eq_getElem_cons->Xx,take_of_length_le->Yb,nodup_iff_count->aaA,count_pos_iff->aaB,mem_of_getElem?->Zs,not_mem_nil->YC,getLast?_append->WU,getLast?_singleton->WV,foldl_cons->ZI,foldl_append->YU,foldl_nil->YQ,replicate->ZP,length_set->Z6,getElem_of_mem->WQ,all_eq_false->aaG,mem_of_mem_drop->YK,mem_cons_of_mem->XM,all_eq_true->Yk,eq_nil_of_length_eq_zero->Ys,mem_cons_self->aaH,mem_of_mem_take->Xv,getElem?_append_left->Z5,getElem?_append_right->ZS,length_drop->Zv,getElem?_take_of_lt->Y5
open List.Nodup renaming length_le_of_subset->aay
open List.Pairwise renaming nil->aaU,imp₂->aaV
open Nat renaming zero_le->Zd,lt_trichotomy->XQ,le_refl->Zf,le_trans->Z4,not_lt_zero->XA,sub_self->YW
open Option.some renaming inj->YF,injEq->Yd
open Value renaming int->Zn
namespace Go.V
def zA (sp:aa)(i:Int):Nat->List Int
 |0=>[]
 |n+1=>zA sp i n++(if hsB (ag sp i 2) n then[aaI (ag sp i 0) (ag sp i 1) (ag sp i 2) n]else[])
def yo (sp:aa):Nat->List Int
 |0=>[]
 |n+1=>yo sp n++zA sp n (slN (ag sp n 1)).toNat
def A9 (lg:aa):Nat->List Int
 |0=>[]
 |n+1=>A9 lg n++[ag lg n 0*16]
def Mv (sp lg:aa):List Int:=yo sp sp.length++A9 lg lg.length
def iaL (sp lg:aa):aa:=if layOk sp lg then srtL (eU (Mv sp lg))else[]
theorem Nc {a b:Int}(h: -9223372036854775808<=a*b/\a*b<=9223372036854775807):bK .mul Za a b=a*b:=Xw _ h
theorem AK {l:aa}:(srtL l).length=l.length:=by unfold srtL;rw[bV,List.length_mergeSort];unfold kn;rw[YG]
def LK (l:List Int):Prop:=∀ x∈l,-1<=x/\x<=1000
theorem Cy {a b:List Int}(h:LK a)(g:LK b):LK (a++b):=fun x hx=>by
 rcases Ze.1 hx with q|q;exact h x q;exact g x q
theorem JO {x:Int}(h: -1<=x/\x<=1000):LK [x]:=fun y hy=>by simp at hy;rw[hy];exact h
theorem Ts {p k b s:Int}: -1<=aaI p k b s/\aaI p k b s<=1000:=by
 unfold aaI;by_cases h:LH p k b s=true
 ·rw[aa3 h];unfold LH at h;simp only[Zc]at h;have t:=gW h.1;have c:=gC t.2.2.1;have s1:=bB.1 h.2;have m0:0<=s*clsSz k:=WP (by omega) (by omega);have m1:s*clsSz k<=slN k*clsSz k:=Xz (by omega) (by omega);omega
 ·rw[aa4 h];omega
theorem yn {sp:aa}{i k:Int}(h:0<=k):zA sp i (k+1).toNat=zA sp i k.toNat++(if hsB (ag sp i 2) k then[aaI (ag sp i 0) (ag sp i 1) (ag sp i 2) k]else[]):=by
 rw[show(k+1).toNat=k.toNat+1 from by omega,zA,Zt h]
theorem FH {sp:aa}{i:Int}(h:0<=i):yo sp (i+1).toNat=yo sp i.toNat++zA sp i (slN (ag sp i 1)).toNat:=by
 rw[show(i+1).toNat=i.toNat+1 from by omega,yo,Zt h]
theorem BB {lg:aa}{i:Int}(h:0<=i):A9 lg (i+1).toNat=A9 lg i.toNat++[ag lg i 0*16]:=by
 rw[show(i+1).toNat=i.toNat+1 from by omega,A9,Zt h]
structure Oe (sp:aa)(i:Int)(o:aa):Prop where
 e:o=eU (yo sp i.toNat)
 b:LK (yo sp i.toNat)
 l:(yo sp i.toNat).length<=16*i.toNat
structure HO (sp:aa)(i k:Int)(o:aa):Prop where
 e:o=eU (yo sp i.toNat++zA sp i k.toNat)
 b:LK (yo sp i.toNat++zA sp i k.toNat)
 l:(yo sp i.toNat).length<=16*i.toNat
 k:(zA sp i k.toNat).length<=k.toNat
structure JH (sp lg:aa)(j:Int)(o:aa):Prop where
 e:o=eU (yo sp sp.length++A9 lg j.toNat)
 b:LK (yo sp sp.length++A9 lg j.toNat)
 l:(yo sp sp.length++A9 lg j.toNat).length<=16*sp.length+j.toNat
theorem TY {sp:aa}:Oe sp 0 []:=⟨rfl,(fun x hx=>by cases hx),Zd _⟩
theorem T0 {sp o:aa}{i:Int}(h:Oe sp i o):HO sp i 0 o:=
 ⟨by rw[h.e];simp[zA],by simpa[zA]using h.b,h.l,Zd _⟩
theorem My {sp o:aa}{i k:Int}(h:HO sp i k o):o.length<=16*i.toNat+k.toNat:=by
 have l:=h.l;have m:=h.k;rw[h.e,bV,Zg];omega
theorem Mz {sp o:aa}{i k:Int}(h:HO sp i k o)(k0:0<=k)(hh:hsB (ag sp i 2) k=true):HO sp i (k+1) (o++[[.i (aaI (ag sp i 0) (ag sp i 1) (ag sp i 2) k)]]):=by
 have m:=h.k;have e:=h.e;refine⟨?_,?_,h.l,?_⟩
 ·rw[yn k0,aa3 hh, <-Zj,eE, <-e];rfl
 ·rw[yn k0,aa3 hh, <-Zj];exact Cy h.b (JO Ts)
 ·rw[yn k0,aa3 hh,Zg,Zq,Zz];omega
theorem PV {sp o:aa}{i k:Int}(h:HO sp i k o)(k0:0<=k)(hh:hsB (ag sp i 2) k=false):HO sp i (k+1) o:=by
 have m:=h.k;have e:=h.e;have u:zA sp i (k+1).toNat=zA sp i k.toNat:=by rw[yn k0,hh];simp
 refine⟨?_,?_,h.l,?_⟩
 ·rw[u];exact e
 ·rw[u];exact h.b
 ·rw[u];omega
theorem UZ {sp lg:aa}{i:Int}(hl:layOk sp lg=true)(h0:0<=i)(h1:i<sp.length):0<=slN (ag sp i 1)/\slN (ag sp i 1)<=16:=by
 have t:=gW ((F1 hl).1 i h0 h1);have c:=gC t.2.2.1;omega
theorem Mx {sp o:aa}{i k:Int}(h:HO sp i k o)(i0:0<=i)(k1:k<=slN (ag sp i 1))(k2:slN (ag sp i 1)<=k)(hs:0<=slN (ag sp i 1)/\slN (ag sp i 1)<=16):Oe sp (i+1) o:=by
 have ek:k=slN (ag sp i 1):=by omega
 have e:=h.e;have b:=h.b;have l:=h.l;have m:=h.k;rw[ek, <-FH i0]at e b;rw[ek]at m;refine⟨e,b,?_⟩;rw[FH i0,Zg];omega
theorem T4 {sp lg o:aa}{i:Int}(h:Oe sp i o)(h1:i<=sp.length)(h2:(sp.length:Int)<=i):JH sp lg 0 o:=by
 have ei:i.toNat=sp.length:=by omega
 have e:=h.e;have b:=h.b;have l:=h.l;rw[ei]at e b l;exact⟨by rw[e];simp[A9],by simpa[A9]using b,by simpa[A9]using l⟩
theorem FK {sp lg o:aa}{j:Int}(h:JH sp lg j o):o.length<=16*sp.length+j.toNat:=by
 have l:=h.l;rw[h.e,bV];exact l
theorem Ue {sp lg:aa}{j:Int}(hl:layOk sp lg=true)(h0:0<=j)(h1:j<lg.length):0<=ag lg j 0/\ag lg j 0<=32:=by
 have t:=iu ((F1 hl).2.1 j h0 h1);have b:=gV t.1;omega
theorem PX {sp lg o:aa}{j:Int}(h:JH sp lg j o)(j0:0<=j)(hb:0<=ag lg j 0/\ag lg j 0<=32):JH sp lg (j+1) (o++[[.i (ag lg j 0*16)]]):=by
 have e:=h.e;have l:=h.l;refine⟨?_,?_,?_⟩
 ·rw[BB j0, <-Zj,eE, <-e];rfl
 ·rw[BB j0, <-Zj];exact Cy h.b (JO (by omega))
 ·rw[BB j0, <-Zj,Zg,Zq,Zz];omega
theorem PW {sp lg o:aa}{j:Int}(h:JH sp lg j o)(h1:sp.length<=1073741824)(h2:j<=1073741824):Rw [tI] o/\o.length<=70368744177664:=by
 have l:=FK h;refine⟨?_,by omega⟩;have e:=h.e;have l2:=h.l;rw[e];exact pf (fun x hx=>by have:=h.b x hx;omega) (by omega)
theorem MA {sp lg o:aa}{j:Int}(h:JH sp lg j o)(j1:j<=lg.length)(j2:(lg.length:Int)<=j)(hl:layOk sp lg=true):srtL o=iaL sp lg:=by
 have ej:j.toNat=lg.length:=by omega
 have e:=h.e;rw[ej]at e;unfold iaL Mv;rw[aa3 hl, <-e]
theorem TZ {sp lg:aa}(hl:layOk sp lg=false):([]:aa)=iaL sp lg:=by unfold iaL;rw[hl];rfl
end Go.V
namespace Go.V
theorem sI:∀ {a b:List Int},a.Pairwise (· < ·)->b.Pairwise (· < ·)->(∀ x,x∈a↔x∈b)->a=b
 |[],[],_,_,_=>rfl
 |[],y::b,_,_,h=>by have:=(h y).2 (by simp);simp at this
 |x::a,[],_,_,h=>by have:=(h x).1 (by simp);simp at this
 | x::a,y::b,ha,hb,h=>by
   rw[List.pairwise_cons]at ha hb;have e:x=y:=by
    rcases Zi.1 ((h x).1 (by simp))with q|q;exact q
    ·rcases Zi.1 ((h y).2 (by simp))with r|r;exact r.symm
     ·have:=hb.1 x q;have:=ha.1 y r;omega
   subst e;rw[sI ha.2 hb.2 (fun z=>?_)]
   constructor
   ·intro m;rcases Zi.1 ((h z).1 (by simp[m]))with q|q
    ·have:=ha.1 z m;omega
    ·exact q
   ·intro m;rcases Zi.1 ((h z).2 (by simp[m]))with q|q
    ·have:=hb.1 z m;omega
    ·exact q
theorem kW {sp:aa}{x:Int}:∀ {n:Nat},x∈iH sp n↔∃ i:Nat,i<n/\ag sp i 0=x
 |0=>by simp[iH]
 | n+1=>by
   rw[iH,Ze,kW,Z1]
   constructor
   ·rintro(⟨i,h,e⟩|rfl);exact⟨i,by omega,e⟩;exact⟨n,by omega,rfl⟩
   ·rintro⟨i,h,e⟩;by_cases c:i=n
    ·subst c;exact .inr e.symm
    ·exact .inl ⟨i,by omega,e⟩
theorem yD {p x:Int}:∀ {n:Nat},x∈kZ p n↔p<=x/\x<p+n
 |0=>⟨(fun h=>by cases h),(fun h=>absurd h (by omega))⟩
 | n+1=>by
   rw[kZ,Ze,yD,Z1];omega
theorem nH {lg:aa}{x:Int}:∀ {n:Nat},x∈iG lg n↔∃ j:Nat,j<n/\ag lg j 0<=x/\x<ag lg j 0+(ag lg j 1).toNat
 |0=>by simp[iG]
 | n+1=>by
   rw[iG,Ze,nH,yD]
   constructor
   ·rintro(⟨i,h,e⟩|h);exact⟨i,by omega,e⟩;exact⟨n,by omega,h⟩
   ·rintro⟨i,h,e⟩;by_cases c:i=n
    ·subst c;exact .inr e
    ·exact .inl ⟨i,by omega,e⟩
theorem Hm {sp:aa}:∀ {n:Nat},(iH sp n).Nodup->∀ i i':Nat,i<i'->i'<n->ag sp i 0≠ag sp i' 0
 |0,_,i,i',_,h=>by omega
 | n+1,hn,i,i',h1,h2=>by
   rw[iH,Zr]at hn;by_cases c:i'=n
   ·subst c;exact hn.2.2 _ (kW.2 ⟨i,h1,rfl⟩) _ (by simp)
   ·exact Hm hn.1 i i' h1 (by omega)
theorem F8 {lg:aa}:∀ {n:Nat},(iG lg n).Nodup->∀ (j j':Nat) (x:Int),j<j'->j'<n->ag lg j 0<=x->x<ag lg j 0+(ag lg j 1).toNat->ag lg j' 0<=x->x<ag lg j' 0+(ag lg j' 1).toNat->False
 |0,_,j,j',x,_,h,_,_,_,_=>by omega
 | n+1,hn,j,j',x,h1,h2,a,b,c,d=>by
   rw[iG,Zr]at hn;by_cases e:j'=n
   ·subst e;exact hn.2.2 x (nH.2 ⟨j,h1,a,b⟩) x (yD.2 ⟨c,d⟩) rfl
   ·exact F8 hn.1 j j' x h1 (by omega) a b c d
structure Lx (sp lg:aa):Prop where
 s:∀ i:Nat,i<sp.length->spOk (ag sp i 0) (ag sp i 1) (ag sp i 2)=true
 l:∀ j:Nat,j<lg.length->lgOk (ag lg j 0) (ag lg j 1) (ag lg j 2)=true
 ss:∀ i i':Nat,i<sp.length->i'<sp.length->ag sp i 0=ag sp i' 0->i=i'
 sl:∀ i j:Nat,i<sp.length->j<lg.length->ag lg j 0<=ag sp i 0->ag sp i 0<ag lg j 0+ag lg j 1->False
 ll:∀ (j j':Nat) (x:Int),j<lg.length->j'<lg.length->ag lg j 0<=x->x<ag lg j 0+ag lg j 1->ag lg j' 0<=x->x<ag lg j' 0+ag lg j' 1->j=j'
theorem M1 {sp lg:aa}(h:layOk sp lg=true):Lx sp lg:=by
 obtain⟨h1,h2,h3⟩:=F1 h;unfold uZ at h3;rw[Zr]at h3;have n0:∀ j:Nat,j<lg.length->((ag lg j 1).toNat:Int)=ag lg j 1:=fun j hj=>by
  have t:=iu (h2 j (by omega) (by omega));have b:=gV t.1;omega
 refine⟨fun i hi=>h1 i (by omega) (by omega),fun j hj=>h2 j (by omega) (by omega),fun i i' a b e=>?_,fun i j a b c d=>?_,fun j j' x a b c d e f=>?_⟩
 ·rcases XQ i i' with q|q|q;exact absurd e (Hm h3.1 i i' q b);exact q;exact absurd e.symm (Hm h3.1 i' i q a)
 ·exact h3.2.2 _ (kW.2 ⟨i,a,rfl⟩) _ (nH.2 ⟨j,b,c,by rw[n0 j b];exact d⟩) rfl
 ·rcases XQ j j' with q|q|q;exact(F8 h3.2.1 j j' x q b c (by rw[n0 j a];exact d) e (by rw[n0 j' b];exact f)).elim;exact q;exact(F8 h3.2.1 j' j x q a e (by rw[n0 j' b];exact f) c (by rw[n0 j a];exact d)).elim
theorem jX {p k b s:Int}(h:spOk p k b=true)(h0:0<=s)(h1:s<slN k):aaI p k b s=p*16+s*clsSz k/\0<=s*clsSz k/\s*clsSz k+clsSz k<=16/\1<=clsSz k:=by
 have t:=gW h;have c:=gC t.2.2.1;have a:LH p k b s=true:=by unfold LH;rw[h,bB.2 ⟨h0,by omega⟩];rfl
 have m0:0<=s*clsSz k:=WP h0 (by omega);have m1:(s+1)*clsSz k<=slN k*clsSz k:=Xz (by omega) (by omega);rw[aav]at m1;unfold aaI;rw[aa3 a];exact⟨rfl,m0,by omega,by omega⟩
theorem sj {sp:aa}{i x:Int}:∀ {n:Nat},x∈zA sp i n↔∃ k:Nat,k<n/\hsB (ag sp i 2) k=true/\x=aaI (ag sp i 0) (ag sp i 1) (ag sp i 2) k
 |0=>by simp[zA]
 | n+1=>by
   rw[zA,Ze,sj]
   constructor
   ·rintro(⟨k,h,e⟩|h);exact⟨k,by omega,e⟩
    ·by_cases c:hsB (ag sp i 2) n=true
     ·rw[aa3 c,Z1]at h;exact⟨n,by omega,c,h⟩
     ·rw[aa4 c]at h;simp at h
   ·rintro⟨k,h,c,e⟩;by_cases q:k=n
    ·subst q;rw[aa3 c];exact .inr (by simp[e])
    ·exact .inl ⟨k,by omega,c,e⟩
theorem sk {sp:aa}{x:Int}:∀ {n:Nat},x∈yo sp n↔∃ i k:Nat,i<n/\k<(slN (ag sp i 1)).toNat/\hsB (ag sp i 2) k=true/\x=aaI (ag sp i 0) (ag sp i 1) (ag sp i 2) k
 |0=>by simp[yo]
 | n+1=>by
   rw[yo,Ze,sk,sj]
   constructor
   ·rintro(⟨i,k,h,e⟩|⟨k,h⟩);exact⟨i,k,by omega,e⟩;exact⟨n,k,by omega,h⟩
   ·rintro⟨i,k,h,e⟩;by_cases q:i=n
    ·subst q;exact .inr ⟨k,e⟩
    ·exact .inl ⟨i,k,by omega,e⟩
theorem si {lg:aa}{x:Int}:∀ {n:Nat},x∈A9 lg n↔∃ j:Nat,j<n/\x=ag lg j 0*16
 |0=>by simp[A9]
 | n+1=>by
   rw[A9,Ze,si,Z1]
   constructor
   ·rintro(⟨i,h,e⟩|h);exact⟨i,by omega,e⟩;exact⟨n,by omega,h⟩
   ·rintro⟨i,h,e⟩;by_cases q:i=n
    ·subst q;exact .inr e
    ·exact .inl ⟨i,by omega,e⟩
theorem BC {sp:aa}{i:Nat}(h:spOk (ag sp i 0) (ag sp i 1) (ag sp i 2)=true):∀ {n:Nat},n<=(slN (ag sp i 1)).toNat->(zA sp i n).Nodup
 |0,_=>ZL
 | n+1,hn=>by
   rw[zA];by_cases c:hsB (ag sp i 2) n=true
   ·rw[aa3 c];refine hY (BC h (by omega)) (fun m=>?_);obtain⟨k,k1,_,k3⟩:=sj.1 m;have a:=jX (s:=(n:Int)) h (by omega) (by omega);have b:=jX (s:=(k:Int)) h (by omega) (by omega);have q:((k:Int)+1)*clsSz (ag sp i 1)<=(n:Int)*clsSz (ag sp i 1):=Xz (by omega) (by omega);rw[aav]at q;omega
   ·rw[aa4 c,List.append_nil];exact BC h (by omega)
theorem FF {sp lg:aa}(F:Lx sp lg):∀ {n:Nat},n<=sp.length->(yo sp n).Nodup
 |0,_=>ZL
 | n+1,hn=>by
   rw[yo,Zr];refine⟨FF F (by omega),BC (F.s n (by omega)) (Zf _),fun x hx y hy e=>?_⟩;subst e;obtain⟨i,k,i1,k1,_,e1⟩:=sk.1 hx;obtain⟨k',k2,_,e2⟩:=sj.1 hy;have a:=jX (s:=(k:Int)) (F.s i (by omega)) (by omega) (by omega);have b:=jX (s:=(k':Int)) (F.s n (by omega)) (by omega) (by omega);have:=F.ss i n (by omega) (by omega) (by omega);omega
theorem FE {sp lg:aa}(F:Lx sp lg):∀ {n:Nat},n<=lg.length->(A9 lg n).Nodup
 |0,_=>ZL
 | n+1,hn=>by
   rw[A9];refine hY (FE F (by omega)) (fun m=>?_);obtain⟨j,j1,e⟩:=si.1 m;have t:=iu (F.l j (by omega));have b:=gV t.1;have t':=iu (F.l n (by omega));have b':=gV t'.1;have:=F.ll j n (ag lg j 0) (by omega) (by omega) (by omega) (by omega) (by omega) (by omega);omega
theorem Mw {sp lg:aa}(F:Lx sp lg):(Mv sp lg).Nodup:=by
 unfold Mv;rw[Zr];refine⟨FF F (Zf _),FE F (Zf _),fun x hx y hy e=>?_⟩;subst e;obtain⟨i,k,i1,k1,_,e1⟩:=sk.1 hx;obtain⟨j,j1,e2⟩:=si.1 hy;have a:=jX (s:=(k:Int)) (F.s i (by omega)) (by omega) (by omega);have t:=iu (F.l j (by omega));have b:=gV t.1;exact F.sl i j i1 j1 (by omega) (by omega)
end Go.V
namespace Go.V
theorem hN {p:Int->Bool}{n:Nat}(h:0<=cr p n):cr p n<n/\p (cr p n)=true:=by
 refine⟨by rcases np (p:=p) (n:=n)with q|q<;>omega,?_⟩;unfold cr at h ⊢;split at h
 ·rename_i j e;have q:=List.find?_some e;exact q
 ·omega
theorem nu {p:Int->Bool}{n i:Nat}(h:i<n)(hp:p i=true):0<=cr p n:=by
 unfold cr;split;omega
 ·rename_i e;rw[aaw]at e;exact absurd hp (e i (Yg.2 h))
theorem xG {sp:aa}{a i:Int}:wJ sp a i=true↔zC (ag sp i 0) (ag sp i 1) (ag sp i 2) a=true:=by
 unfold wJ;rw[aa2]
 constructor
 ·intro h;cases c:zC (ag sp i 0) (ag sp i 1) (ag sp i 2) a with
  |true=>rfl
  |false=>rw[(xH c).1]at h;omega
 ·intro h;obtain⟨h1,h2,h3⟩:=rQ.1 h;have cb:=gC (gW h1).2.2.1;rw[(vj h).1];exact WN (by omega) (by omega)
def Tn (sp lg:aa)(x:Int):Prop:=(∃ i k:Nat,i<sp.length/\k<(slN (ag sp i 1)).toNat/\hsB (ag sp i 2) k=true/\x=aaI (ag sp i 0) (ag sp i 1) (ag sp i 2) k)\/∃ j:Nat,j<lg.length/\x=ag lg j 0*16
theorem Df {sp lg:aa}{x:Int}:x∈Mv sp lg↔Tn sp lg x:=by
 unfold Mv Tn;rw[Ze,sk,si]
theorem O6 {sp lg:aa}{a:Int}(h:0<=fk sp a):dnK sp lg a=(if hsB (ag sp (fk sp a) 2) (sy sp a (fk sp a))then 1 else 2)/\dnO sp lg a=NN sp a (fk sp a):=by
 unfold dnK dnO;rw[aa3 h,aa3 h];exact⟨rfl,rfl⟩
theorem O4 {sp lg:aa}{a:Int}(h:¬ 0<=fk sp a)(g:0<=wF lg a):dnK sp lg a=3/\dnO sp lg a=Tm lg a (wF lg a):=by
 unfold dnK dnO;rw[aa4 h,aa4 h,aa3 g,aa3 g];exact⟨rfl,rfl⟩
theorem TA {sp lg:aa}{a:Int}(h:¬ 0<=fk sp a)(g:¬ 0<=wF lg a):dnK sp lg a=0/\dnO sp lg a=0:=by
 unfold dnK dnO;rw[aa4 h,aa4 h,aa4 g,aa4 g];exact⟨rfl,rfl⟩
theorem Da {sp lg:aa}{a:Int}(hl:layOk sp lg=true):rK sp lg a=true↔dnO sp lg a=0/\(dnK sp lg a=1\/dnK sp lg a=3):=by
 unfold rK dzO dzK;rw[aa3 hl,aa3 hl];simp only[Zc,Z9,aa2]
theorem KC {sp lg:aa}{x:Int}(F:Lx sp lg)(hl:layOk sp lg=true)(h:rK sp lg x=true):Tn sp lg x:=by
 obtain⟨h1,h2⟩:=(Da hl).1 h;by_cases c:0<=fk sp x
 ·obtain⟨d1,d2⟩:=O6 (lg:=lg) c;obtain⟨b,q⟩:=hN c;change fk sp x<sp.length at b;change wJ sp x (fk sp x)=true at q;rw[d1]at h2;rw[d2]at h1;generalize hF:fk sp x=f at*;obtain⟨f,rfl⟩:=Z3 c;have bf:f<sp.length:=by omega
  have q':=xG.1 q;obtain⟨a1,a2,a3⟩:=rQ.1 q';obtain⟨e1,e2⟩:=vj q';have cb:=gC (gW a1).2.2.1;have hh:hsB (ag sp f 2) (sy sp x f)=true:=by
   cases c:hsB (ag sp f 2) (sy sp x f)with
   |true=>rfl
   |false=>rw[c]at h2;simp at h2
  unfold NN at h1;rw[e2]at h1;unfold sy at hh;rw[e1]at hh;have dv:clsSz (ag sp f 1)*((x-ag sp f 0*16)/clsSz (ag sp f 1))=x-ag sp f 0*16:=Int.mul_ediv_cancel_of_emod_eq_zero h1;have nn:0<=(x-ag sp f 0*16)/clsSz (ag sp f 1):=WN (by omega) (by omega);generalize hs:(x-ag sp f 0*16)/clsSz (ag sp f 1)=s at*;have lt:s<slN (ag sp f 1):=by
   by_cases w:s<slN (ag sp f 1);exact w
   ·have m:slN (ag sp f 1)*clsSz (ag sp f 1)<=s*clsSz (ag sp f 1):=Xz (by omega) (by omega);rw[X9 s]at m;omega
  obtain⟨s,rfl⟩:=Z3 nn;have ae:=jX a1 nn lt;refine .inl ⟨f,s,bf,by omega,hh,?_⟩;have ae1:=ae.1;rw[X9 (s:Int)]at ae1;show x=aaI (ag sp f 0) (ag sp f 1) (ag sp f 2) s;rw[ae1];omega
 ·by_cases g:0<=wF lg x
  ·obtain⟨d1,d2⟩:=O4 c g;obtain⟨b,q⟩:=hN g;change wF lg x<lg.length at b;change Ap lg x (wF lg x)=true at q;rw[d2]at h1;generalize hF:wF lg x=f at*;obtain⟨f,rfl⟩:=Z3 g;refine .inr ⟨f,by omega,?_⟩;unfold Tm loI at h1;unfold Ap at q;rw[aa3 q]at h1;show x=ag lg f 0*16;omega
  ·obtain⟨d1,d2⟩:=TA c g;rw[d1]at h2;omega
theorem Kk {sp lg:aa}{x:Int}(h:0<=fk sp x):∃ f:Nat,fk sp x=f/\f<sp.length/\zC (ag sp f 0) (ag sp f 1) (ag sp f 2) x=true:=by
 obtain⟨b,q⟩:=hN h;obtain⟨f,e⟩:=Z3 h;refine⟨f,e,?_,?_⟩
 ·have:fk sp x<sp.length:=b;rw[e]at this;exact Int.ofNat_lt.1 this
 ·have:wJ sp x (fk sp x)=true:=q;rw[e]at this;exact xG.1 this
theorem Qr {sp lg:aa}{x:Int}(F:Lx sp lg)(hl:layOk sp lg=true)(h:Tn sp lg x):rK sp lg x=true:=by
 rw[Da hl];rcases h with⟨i,k,i1,k1,hh,e⟩|⟨j,j1,e⟩
 ·have a1:=F.s i i1;have cb:=gC (gW a1).2.2.1;have ae:=jX (s:=(k:Int)) a1 (by omega) (by omega);have sb:zC (ag sp i 0) (ag sp i 1) (ag sp i 2) x=true:=rQ.2 ⟨a1,by omega,by omega⟩;have c:0<=fk sp x:=nu i1 (xG.2 sb);obtain⟨f,e1,f1,f2⟩:=Kk (lg:=lg) c;obtain⟨_,g2,g3⟩:=rQ.1 f2;have:f=i:=F.ss f i f1 i1 (by omega);subst this;obtain⟨d1,d2⟩:=O6 (lg:=lg) c;rw[d1,d2,e1];obtain⟨y1,y2⟩:=vj sb;have xe:x-ag sp f 0*16=k*clsSz (ag sp f 1):=by omega
  unfold sy NN;rw[y1,y2,xe,Int.mul_ediv_cancel _ (by omega),aa3 hh];exact⟨Int.mul_emod_left _ _,.inl rfl⟩
 ·have t:=iu (F.l j j1);have b:=gV t.1;have r:=bB.1 t.1;have c:¬ 0<=fk sp x:=fun c=>by
   obtain⟨f,e1,f1,f2⟩:=Kk (lg:=lg) c;obtain⟨_,g2,g3⟩:=rQ.1 f2;exact F.sl f j f1 j1 (by omega) (by omega)
  have lb:lhB (ag lg j 0) (ag lg j 1) (ag lg j 2) x=true:=MS.2 ⟨F.l j j1,by omega,by omega⟩;have g:0<=wF lg x:=nu j1 (show Ap lg x j=true from lb);obtain⟨d1,d2⟩:=O4 c g;obtain⟨b1,q⟩:=hN g;change wF lg x<lg.length at b1;change Ap lg x (wF lg x)=true at q;rw[d1,d2];generalize hF:wF lg x=f at*;obtain⟨f,rfl⟩:=Z3 g;have f1:f<lg.length:=by omega
  have q':lhB (ag lg f 0) (ag lg f 1) (ag lg f 2) x=true:=q;obtain⟨_,u1,u2⟩:=MS.1 q';have t2:=iu (F.l f f1);have b2:=gV t2.1;have:f=j:=F.ll f j (ag lg j 0) f1 j1 (by omega) (by omega) (by omega) (by omega);subst this;refine⟨?_,.inr rfl⟩;show loI (ag lg f 0) (ag lg f 1) (ag lg f 2) x=0;unfold loI;rw[aa3 lb];omega
def KA (sp lg:aa):Nat->List Int
 |0=>[]
 |n+1=>KA sp lg n++(if rK sp lg n then[(n:Int)]else[])
theorem uH {sp lg:aa}:∀ n:Nat,HM sp lg n=eU (KA sp lg n)
 |0=>rfl
 | n+1=>by
   rw[HM,KA,eE,uH n];by_cases c:rK sp lg n=true
   ·rw[aa3 c,aa3 c];rfl
   ·rw[aa4 c,aa4 c];rfl
theorem nI {sp lg:aa}{x:Int}:∀ {n:Nat},x∈KA sp lg n↔0<=x/\x<n/\rK sp lg x=true
 |0=>⟨(fun h=>by cases h),(fun h=>absurd h.2.1 (by omega))⟩
 | n+1=>by
   rw[KA,Ze,nI]
   constructor
   ·rintro(h|h);exact⟨h.1,by omega,h.2.2⟩
    ·by_cases c:rK sp lg n=true
     ·rw[aa3 c,Z1]at h;subst h;exact⟨by omega,by omega,c⟩
     ·rw[aa4 c]at h;cases h
   ·rintro⟨h1,h2,h3⟩;by_cases q:x=n
    ·subst q;rw[aa3 h3];exact .inr (by simp)
    ·exact .inl ⟨h1,by omega,h3⟩
theorem B0 {sp lg:aa}:∀ n:Nat,(KA sp lg n).Pairwise (· < ·)
 |0=>aaU
 | n+1=>by
   rw[KA,List.pairwise_append];refine⟨B0 n,?_,fun a ha b hb=>?_⟩
   ·by_cases c:rK sp lg n=true
    ·rw[aa3 c];simp
    ·rw[aa4 c];simp
   ·have m:=nI.1 ha;by_cases c:rK sp lg n=true
    ·rw[aa3 c,Z1]at hb;omega
    ·rw[aa4 c]at hb;cases hb
theorem I3 {l:List Int}(h:l.Nodup):(l.mergeSort fun x y=>decide (x<=y)).Pairwise (· < ·):=by
 have p:=List.pairwise_mergeSort (le:=fun x y:Int=>decide (x<=y)) (fun a b c h1 h2=>by simp only[aa2]at*;omega) (fun a b=>by simp only[Z9,aa2];omega) l;have n:(l.mergeSort fun x y=>decide (x<=y)).Nodup:=(aax l _).nodup_iff.2 h;refine aaV (R:=fun a b=>decide (a<=b)=true) (S:=(· ≠ ·)) (T:=(· < ·)) (fun a b h1 h2=>?_) p n;simp only[aa2]at h1;omega
theorem IL {sp lg:aa}:iaL sp lg=laL sp lg:=by
 unfold iaL laL;by_cases hl:layOk sp lg=true
 ·rw[aa3 hl,aa3 hl];have F:=M1 hl;unfold srtL;rw[BE,uH];refine congrArg eU (sI (I3 (Mw F)) (B0 512) (fun x=>?_));rw[(aax _ _).mem_iff,Df,nI]
  constructor
  ·intro h;have v:=Qr F hl h;refine⟨?_,?_,v⟩
   ·rcases h with⟨i,k,i1,k1,_,e⟩|⟨j,j1,e⟩
    ·have ae:=jX (s:=(k:Int)) (F.s i i1) (by omega) (by omega);have t:=gW (F.s i i1);omega
    ·have t:=iu (F.l j j1);omega
   ·rcases h with⟨i,k,i1,k1,_,e⟩|⟨j,j1,e⟩
    ·have ae:=jX (s:=(k:Int)) (F.s i i1) (by omega) (by omega);have t:=gW (F.s i i1);omega
    ·have t:=iu (F.l j j1);have b:=gV t.1;omega
  ·rintro⟨_,_,h⟩;exact KC F hl h
 ·rw[aa4 hl,aa4 hl]
end Go.V
namespace Go.V
def uB (qs:aa)(a j:Int):Bool:=eqB (ag qs j 0) a
def qtI (qs:aa)(a:Int):Int:=cr (uB qs a) qs.length
def qtB (qs:aa)(a:Int):Bool:=decide (0<=qtI qs a)
theorem Nw {qs:aa}{a i:Int}(h:upto (cv (uB qs a)) i)(h0:0<=i)(h1:i<qs.length)(e:ag qs i 0=a):qtB qs a=true:=by
 unfold qtB qtI;rw[dz h h0 h1 (ui e)];exact aa0 h0
theorem Rs {qs:aa}{a i:Int}(h:upto (cv (uB qs a)) i)(h1:(qs.length:Int)<=i):qtB qs a=false:=by
 unfold qtB qtI;rw[dP h h1];rfl
end Go.V
namespace Go.V
structure JI (ls:aa):Prop where
 w:Rw [.sl [tI]] ls
 l:ls.length<=1099511627776
 n:∀ i:Int,(aR ls i 0).length<=1099511627776
theorem JI.el {ls:aa}(h:JI ls){i:Int}(h0:0<=i)(h1:i<ls.length):Rw [tI] (aR ls i 0)/\(aR ls i 0).length<=1099511627776:=
 ⟨Rw.sub (fs:=[.sl [tI]]) h.w (by omega) rfl,h.n i⟩
end Go.V
namespace Go.V
def El (b:aa)(i k:Int):Bool:=inR (ag (aR b i 0) k 0) 0 ((b.length:Int)-1)&&decide (0<=ag (aR b i 0) k 1)
def EM (x:aa)(i k:Int):Bool:=decide (0<=ag (aR x i 0) k 0)
def Ow (b x:aa)(i:Int):Bool:=cd (El b i) (aR b i 0).length&&cd (EM x i) (aR x i 0).length
def IR (b x:aa):Nat->Int
 |0=>0
 |n+1=>IR b x n+((aR b n 0).length+(aR x n 0).length)
def mailOk (b x:aa):Bool:=inR b.length 1 4&&(decide (x.length=b.length)&&(cd (Ow b x) b.length&&decide (IR b x b.length<=30)))
structure zy (b x:aa):Prop where
 bw:Rw [.sl [tI,tI]] b
 xw:Rw [.sl [tI]] x
 bl:b.length<=1099511627776
 xl:x.length<=1099511627776
 bn:∀ i:Int,(aR b i 0).length<=1099511627776
 xn:∀ i:Int,(aR x i 0).length<=1099511627776
theorem KG {b x:aa}(h:zy b x):∀ n:Nat,0<=IR b x n/\IR b x n<=2199023255552*n
 |0=>⟨Yn _,Yn _⟩
 | n+1=>by
   have q:=KG h n;have p1:=h.bn n;have p2:=h.xn n;rw[IR];omega
structure HU (b x:aa)(i t:Int):Prop where
 ok:upto (Ow b x) i
 t:t=IR b x i.toNat
theorem Um {b x:aa}:HU b x 0 0:=⟨bC,rfl⟩
theorem QA {b x:aa}{i t:Int}(N:zy b x)(h:HU b x i t)(i0:0<=i)(i1:i<=4):0<=t/\t<=8796093022208:=by
 have q:=KG N i.toNat;have e:=h.t;omega
theorem QB {b x:aa}{i t k j:Int}(h:HU b x i t)(i0:0<=i)(hp:upto (El b i) k)(k1:((aR b i 0).length:Int)<=k)(ha:upto (EM x i) j)(j1:((aR x i 0).length:Int)<=j):HU b x (i+1) (t+((aR b i 0).length+(aR x i 0).length)):=by
 refine⟨aW h.ok ?_,?_⟩
 ·unfold Ow;rw[bD hp k1,bD ha j1];rfl
 ·rw[show(i+1).toNat=i.toNat+1 from by omega,IR, <-h.t,Zt i0]
theorem M7 {b x:aa}(h:inR b.length 1 4=false):mailOk b x=false:=by unfold mailOk;rw[h];rfl
theorem M8 {b x:aa}(h:(x.length:Int)≠b.length):mailOk b x=false:=by
 unfold mailOk;rw[aa1 (p:=x.length=b.length) (by omega)];simp
theorem KF {b x:aa}{i:Int}(i0:0<=i)(i1:i<b.length)(h:Ow b x i=false):mailOk b x=false:=by
 unfold mailOk;rw[bM i0 i1 h];simp
theorem Gt {b x:aa}{i k:Int}(i0:0<=i)(i1:i<b.length)(k0:0<=k)(k1:k<(aR b i 0).length)(h:El b i k=false):mailOk b x=false:=
 KF i0 i1 (by unfold Ow;rw[bM k0 k1 h];rfl)
theorem M9 {b x:aa}{i k:Int}(i0:0<=i)(i1:i<b.length)(k0:0<=k)(k1:k<(aR x i 0).length)(h:EM x i k=false):mailOk b x=false:=
 KF i0 i1 (by unfold Ow;rw[bM k0 k1 h,Ya])
theorem M6 {b x:aa}{i t:Int}(h:HU b x i t)(h1:inR b.length 1 4=true)(h2:(x.length:Int)=b.length)(i1:i<=b.length)(i2:(b.length:Int)<=i):mailOk b x=decide (t<=30):=by
 have e:i.toNat=b.length:=by omega
 have q:=h.t;rw[e]at q;unfold mailOk;rw[h1,aa0 (p:=x.length=b.length) (by omega),bD h.ok i2, <-q];rfl
theorem QU {b:aa}{i k:Int}(h:inR (ag (aR b i 0) k 0) 0 ((b.length:Int)-1)=false):El b i k=false:=by unfold El;rw[h];rfl
theorem QV {b:aa}{i k:Int}(h:ag (aR b i 0) k 1<0):El b i k=false:=by unfold El;rw[aa1 (by omega),Ya]
theorem QW {b:aa}{i k:Int}(h:inR (ag (aR b i 0) k 0) 0 ((b.length:Int)-1)=true)(g:0<=ag (aR b i 0) k 1):El b i k=true:=by unfold El;rw[h,aa0 g];rfl
theorem Tq {x:aa}{i k:Int}(h:ag (aR x i 0) k 0<0):EM x i k=false:=by unfold EM;rw[aa1 (by omega)]
theorem OJ {x:aa}{i k:Int}(h:0<=ag (aR x i 0) k 0):EM x i k=true:=by unfold EM;rw[aa0 h]
end Go.V
namespace Go.V
def Kf (b:aa)(i:Int):Nat->aa
 |0=>[]
 |n+1=>Kf b i n++[[.i (ag (aR b i 0) n 1)]]
def Fo (b:aa):Nat->aa
 |0=>[]
 |n+1=>Fo b n++Kf b n (aR b n 0).length
def HL (x:aa):Nat->aa
 |0=>[]
 |n+1=>HL x n++aR x n 0
def ifL (b x:aa):aa:=if mailOk b x then Fo b b.length++HL x x.length else[]
theorem Na {b x:aa}(h:mailOk b x=true):b.length<=4/\x.length=b.length:=by
 unfold mailOk at h;simp only[Zc,aa2,bB]at h;omega
structure JD (b:aa)(i:Int)(o:aa):Prop where
 e:o=Fo b i.toNat
 l:o.length<=1099511627776*i.toNat
structure JE (b:aa)(i k:Int)(o:aa):Prop where
 e:o=Fo b i.toNat++Kf b i k.toNat
 l:o.length<=1099511627776*i.toNat+k.toNat
structure JF (b x:aa)(j:Int)(o:aa):Prop where
 e:o=Fo b b.length++HL x j.toNat
 l:o.length<=1099511627776*b.length+1099511627776*j.toNat
theorem TF {b:aa}:JD b 0 []:=⟨rfl,Zd _⟩
theorem TG {b o:aa}{i:Int}(h:JD b i o):JE b i 0 o:=⟨by rw[h.e];simp[Kf],by have:=h.l;omega⟩
theorem Pg {b o:aa}{i k:Int}(h:JE b i k o)(k0:0<=k):JE b i (k+1) (o++[[.i (ag (aR b i 0) k 1)]]):=by
 have l:=h.l;have e:=h.e;refine⟨?_,?_⟩
 ·rw[show(k+1).toNat=k.toNat+1 from by omega,Kf,Zt k0, <-Zj, <-e]
 ·rw[Zg,Zq,Zz];omega
theorem L9 {b o:aa}{i k:Int}(h:JE b i k o)(i0:0<=i)(hn:(aR b i 0).length<=1099511627776)(k1:k<=((aR b i 0).length:Int))(k2:((aR b i 0).length:Int)<=k):JD b (i+1) o:=by
 have l:=h.l;have e:=h.e;have ek:k.toNat=(aR b i 0).length:=by omega
 refine⟨?_,by omega⟩;rw[show(i+1).toNat=i.toNat+1 from by omega,Fo,Zt i0, <-ek];exact e
theorem TK {b x o:aa}{i:Int}(h:JD b i o)(i1:i<=b.length)(i2:(b.length:Int)<=i):JF b x 0 o:=by
 have l:=h.l;have e:=h.e;have ei:i.toNat=b.length:=by omega
 rw[ei]at e l;exact⟨by rw[e];simp[HL],by omega⟩
theorem Po {b x o:aa}{j:Int}(h:JF b x j o)(j0:0<=j)(hn:(aR x j 0).length<=1099511627776):JF b x (j+1) (o++aR x j 0):=by
 have l:=h.l;have e:=h.e;refine⟨?_,?_⟩
 ·rw[show(j+1).toNat=j.toNat+1 from by omega,HL,Zt j0, <-Zj, <-e]
 ·rw[Zg];omega
theorem Mf {b x o:aa}{j:Int}(h:JF b x j o)(hm:mailOk b x=true)(j1:j<=x.length)(j2:(x.length:Int)<=j):o=ifL b x:=by
 have e:=h.e;rw[show j.toNat=x.length from by omega]at e;unfold ifL;rw[aa3 hm];exact e
theorem T5 {b x:aa}(hm:mailOk b x=false):([]:aa)=ifL b x:=by unfold ifL;rw[hm];rfl
end Go.V
namespace Go.V
structure Ve (cs:aa):Prop where
 w:Rw [.sl [.sl [tI]]] cs
 l:cs.length<=1099511627776
 n:∀ i:Int,0<=i->i<cs.length->JI (aR cs i 0)
end Go.V
namespace Go.V
theorem wS:∀ {fs:List Ty} {e:ay} {j:Nat},cf fs e->fs[j]?=some tI->∃ n,e[j]?=some (.i n)/\ -9223372036854775808<=n/\n<=9223372036854775807
 |[],_,j,_,h=>by simp at h
 |_::_,[],j,h,_=>h.elim
 | t::ts,l::ls,0,h,e=>by
   simp at e;subst e;have h1:=h.1;cases l with
   | v x=>cases x with
     |int k n=>simp only[cD]at h1;exact⟨n,by simp[h1.1],rJ h1.2⟩
     |_=>simp[cD]at h1
   |_=>simp[cD]at h1
 | t::ts,l::ls,j+1,h,e=>by
   simp at e;obtain⟨n,h1,h2⟩:=wS h.2 e;exact⟨n,by simpa using h1,h2⟩
theorem uv {fs:List Ty}{es:aa}{i:Int}{j:Nat}(h:Rw fs es)(hj:fs[j]?=some tI)(h1:i.toNat<es.length): -9223372036854775808<=ag es i j/\ag es i j<=9223372036854775807:=by
 obtain⟨n,e,b⟩:=wS (h.at h1) hj;unfold ag;rw[Zp (l:=es.getD i.toNat []),e];exact b
theorem UH {x:Int}(h: -9223372036854775808<=x/\x<=9223372036854775807):Rw [tI] [[.i x]]:=Rw.one (fs:=[tI]) ⟨⟨rfl,h⟩,trivial⟩
def Ot (os:aa)(f:Nat):Nat->aa
 |0=>[]
 |n+1=>Ot os f n++[[.i (ag os n f)]]
def Tv (ls:aa):Nat->aa
 |0=>[]
 |n+1=>Tv ls n++aR ls n 0
def Tg (cs:aa):Nat->aa
 |0=>[]
 |n+1=>Tg cs n++Tv (aR cs n 0) (aR cs n 0).length
theorem ux {es:aa}{n j:Nat}(h:n<es.length):ah (aR es n j)<=cP (es.getD n []):=by
 unfold aR;rw[ZG];generalize es.getD n []=r;cases e:r[j]? with
 |none=>rw[Zp,e];exact Zd _
 | some l=>
   rw[Zp,e];have q:=CG e;cases l with
   |s sz es=>exact q
   |_=>exact Zd _
theorem iY {es:aa}{n:Nat}(h:n<es.length):bG (es.take (n+1))=bG (es.take n)+cP (es.getD n []):=by
 rw[dA (d:=[]) h,d7];simp[bG]
theorem zV {es:aa}{n:Nat}:bG (es.take n)<=bG es:=by
 conv=>rhs;rw[<-ZN n es,d7]
 omega
theorem ny {b:aa}{i:Int}:∀ n,(Kf b i n).length=n
 |0=>rfl
 |n+1=>by rw[Kf,Zg,ny n];rfl
theorem Gy {b x:aa}:∀ n:Nat,(((Fo b n).length+(HL x n).length:Nat):Int)=IR b x n
 |0=>rfl
 | n+1=>by
   have q:=Gy (b:=b) (x:=x) n;rw[IR,Fo,HL,Zg,Zg,ny, <-q];omega
theorem BD {b x:aa}:(ifL b x).length<=30:=by
 unfold ifL;by_cases c:mailOk b x=true
 ·rw[aa3 c,Zg];have t:=Na c;unfold mailOk at c;simp only[Zc,aa2]at c;have q:=Gy (b:=b) (x:=x) b.length;rw[t.2];omega
 ·rw[aa4 c];exact Zd _
theorem Fs {b x:aa}{i:Int}(h:zy b x)(i0:0<=i)(i1:i<b.length):∀ n,n<=(aR b i 0).length->Rw [tI] (Kf b i n)
 |0,_=>Rw.nil
 | n+1,hn=>Rw.append (Fs h i0 i1 n (by omega)) (UH (uv (fs:=[tI,tI]) (Rw.sub (fs:=[.sl [tI,tI]]) h.bw (by omega) rfl) rfl (by omega))) (by
    have:=h.bn i;rw[ny];unfold maxLen;simp only[Zq,Zz];omega)
theorem Fp {b x:aa}(h:zy b x)(hb:b.length<=4):∀ n,n<=b.length->Rw [tI] (Fo b n)/\(Fo b n).length<=n*1099511627776
 |0,_=>⟨Rw.nil,Zd _⟩
 | n+1,hn=>by
   obtain⟨q1,q2⟩:=Fp h hb n (by omega);have l:=h.bn n;refine⟨Rw.append q1 (Fs h (by omega) (by omega) _ (Zf _)) (by rw[ny];unfold maxLen;omega),?_⟩;rw[Fo,Zg,ny];omega
theorem Fw {b x:aa}(h:zy b x)(hb:x.length<=4):∀ n,n<=x.length->Rw [tI] (HL x n)/\(HL x n).length<=n*1099511627776
 |0,_=>⟨Rw.nil,Zd _⟩
 | n+1,hn=>by
   obtain⟨q1,q2⟩:=Fw h hb n (by omega);have l:=h.xn n;refine⟨Rw.append q1 (Rw.sub (fs:=[.sl [tI]]) h.xw (by omega) rfl) (by unfold maxLen;omega),?_⟩;rw[HL,Zg];omega
theorem FL {b x:aa}(h:zy b x):Rw [tI] (ifL b x):=by
 unfold ifL;by_cases c:mailOk b x=true
 ·rw[aa3 c];have t:=Na c;obtain⟨q1,l1⟩:=Fp h t.1 b.length (Zf _);obtain⟨q2,l2⟩:=Fw h (by omega) x.length (Zf _);exact Rw.append q1 q2 (by unfold maxLen;omega)
 ·rw[aa4 c];exact Rw.nil
structure zx (sp lg os cs b x qs:aa):Prop where
 sw:Rw [tI,tI,tI] sp
 lw:Rw [tI,tI,tI] lg
 ow:Rw [tI,tI,tI,tI] os
 cw:Rw [.sl [.sl [tI]]] cs
 qw:Rw [tI,tI,tI] qs
 m:zy b x
 c:Ve cs
 sl:sp.length<=1073741824
 ll:lg.length<=1073741824
 ol:os.length<=1073741824
 ql:qs.length<=1073741824
 cl:ah cs<=1073741824
structure Wi (os:aa)(i:Int)(o:aa):Prop where
 e:o=Ot os 1 i.toNat
structure Wj (os cs:aa)(i:Int)(o:aa):Prop where
 e:o=Ot os 1 os.length++Tg cs i.toNat
structure Wk (os cs:aa)(i k:Int)(o:aa):Prop where
 e:o=Ot os 1 os.length++Tg cs i.toNat++Tv (aR cs i 0) k.toNat
structure Wl (os cs qs:aa)(j:Int)(o:aa):Prop where
 e:o=Ot os 1 os.length++Tg cs cs.length++Ot qs 0 j.toNat
section
variable {sp lg os cs b x qs o: aa} {i k j: Int}
end
def Ix (e:ay):Int:=IK (e.getD 0 .g)
theorem xk {l:aa}{a:Int}:hasB l a=true↔a∈l.map Ix:=by
 rw[CR,ZM]
 constructor
 ·rintro⟨k,hk,e⟩;refine⟨l[k],Xu _,?_⟩;rw[<-e];unfold ag Ix;rw[ZG,Zp (l:=l),Zx hk];rfl
 ·rintro⟨e,he,q⟩;obtain⟨k,hk,rfl⟩:=WT.1 he;refine⟨k,hk,?_⟩;rw[<-q];unfold ag Ix;rw[ZG,Zp (l:=l),Zx hk];rfl
theorem Iv {l m:aa}{a:Int}:hasB (l++m) a=(hasB l a||hasB m a):=by
 refine er ?_;rw[Z9,xk,xk,xk,YN,Ze]
theorem Iw {x a:Int}:hasB [[.i x]] a=true↔x=a:=by
 rw[xk];show a∈[x]↔x=a;rw[Z1];exact⟨Eq.symm,Eq.symm⟩
theorem xd {p:Int->Bool}{n:Nat}:0<=cr p n↔∃ k:Nat,k<n/\p k=true:=by
 constructor
 ·intro h;obtain⟨h1,h2⟩:=hN h;obtain⟨k,e⟩:=Z3 h;rw[e]at h1 h2;exact⟨k,by omega,h2⟩
 ·rintro⟨k,h1,h2⟩;exact nu h1 h2
def Vn (p:Int->Bool)(l:aa):Nat->aa
 |0=>[]
 |n+1=>Vn p l n++(if p (ag l n 0)then[[.i (ag l n 0)]]else[])
structure VM (p:Int->Bool)(l:aa)(i:Int)(o:aa):Prop where
 e:o=Vn p l i.toNat
 l:o.length<=i.toNat
section
variable {p: Int -> Bool} {l o: aa} {i: Int}
end
theorem FY {sp lg:aa}:(laL sp lg).length<=512:=by
 have k:∀ n,(HM sp lg n).length<=n:=by
  intro n
  induction n with
  |zero=>exact Zf _
  |succ n ih=>rw[HM,Zg];split<;>simp<;>omega
 unfold laL;split;exact k 512;exact Zd _
theorem Qf {sp lg:aa}:Rw [tI] (laL sp lg):=by
 unfold laL;by_cases c:layOk sp lg=true
 ·rw[aa3 c,uH];refine pf (fun x hx=>?_) ?_
  ·have:=nI.1 hx;omega
  ·have q:=FY (sp:=sp) (lg:=lg);unfold laL at q;rw[aa3 c,uH,bV]at q;omega
 ·rw[aa4 c];exact Rw.nil
theorem xA {l:aa}{i:Int}(h:Rw [tI] l)(h0:0<=i)(h1:i<l.length):∃ rec o,bR (L.s 1 l) [(i.toNat,0)]=some (rec,o)/\o+[L.v (Zn ZC 0)].length<=rec.length/\Yu [L.v (Zn ZC 0)].length (Y4 o rec)=jT ak (L.s 1 l) [(i.toNat,0)] 0 [L.v (Zn ZC 0)]:=
 gN (z0:=[.i 0]) (z:=[.i 0]) h.wf (by omega) rfl (by decide)
theorem yk {es:aa}{i:Int}{j:Nat}:ah (aR es i j)<=ah es:=by
 by_cases c:i.toNat<es.length
 ·have q:=ux (j:=j) c;rw[show aR es (i.toNat:Nat) j=aR es i j from by unfold aR;rw[ZG]]at q;have d:=iY c;have e:=zV (es:=es) (n:=i.toNat+1);unfold ah at q ⊢;omega
 ·have e:aR es i j=[]:=by
   unfold aR;rw[Zp (l:=es),ZV (by omega)];simp[EG]
  rw[e];exact Zd _
theorem Ni {ls:aa}(h:Rw [.sl [tI]] ls)(hc:ah ls<=1073741824):JI ls:=by
 refine⟨h,by unfold ah at hc;omega,fun i=>?_⟩;have:=yk (es:=ls) (i:=i) (j:=0);unfold ah at this hc;omega
theorem Nh {cs:aa}(h:Rw [.sl [.sl [tI]]] cs)(hc:ah cs<=1073741824):Ve cs:=by
 refine⟨h,by unfold ah at hc;omega,fun i i0 i1=>Ni (Rw.sub (fs:=[.sl [.sl [tI]]]) h (by omega) rfl) ?_⟩;exact Z4 yk hc
theorem Nj {b x:aa}(hb:Rw [.sl [tI,tI]] b)(hx:Rw [.sl [tI]] x)(cb:ah b<=1073741824)(cx:ah x<=1073741824):zy b x:=by
 refine⟨hb,hx,by unfold ah at cb;omega,by unfold ah at cx;omega,fun i=>?_,fun i=>?_⟩
 ·have:=yk (es:=b) (i:=i) (j:=0);unfold ah at this cb;omega
 ·have:=yk (es:=x) (i:=i) (j:=0);unfold ah at this cx;omega
end Go.V
namespace Go.V
theorem wK {i:Int}(h:0<=i)(h1:i<=9223372036854775807):bK .sub Za i 1=i-1:=cN (by omega)
theorem vp {es:aa}{i:Int}:jU es (X0 0) (Bs i 0)=es.take i.toNat:=by simp[jU,Bs]
theorem cmp_eq {a b:Int}:cA .eql a b=decide (a=b):=by unfold cA;by_cases c:a=b<;>simp[c]
theorem ye {a b:Int}:cA .neq a b=decide (a≠b):=by unfold cA;by_cases c:a=b<;>simp[c]
def rngIn (n a l:Int):Bool:=inR l 1 n&&inR a 0 (n-l)
def o9 (n:Int)(rs:aa)(i:Int):Bool:=rngIn n (ag rs i 0) (ag rs i 1)&& !(decide (0<i)&&decide (ag rs i 0<=bK .add Za (ag rs (i-1) 0) (ag rs (i-1) 1)))
def rgOk (n:Int)(rs:aa):Bool:=cd (o9 n rs) rs.length&&inR n 1 32
section
variable {n i: Int} {rs: aa}
theorem Ny (i0:0<=i)(i1:i<rs.length)(h:rngIn n (ag rs i 0) (ag rs i 1)=false):rgOk n rs=false:=by
 unfold rgOk;rw[bM i0 i1 (by unfold o9;rw[h];rfl)];rfl
theorem Nz (i0:0<=i)(i1:i<rs.length)(h:0<i)(g:ag rs i 0<=bK .add Za (ag rs (i-1) 0) (ag rs (i-1) 1)):rgOk n rs=false:=by
 unfold rgOk;rw[bM i0 i1 (by unfold o9;rw[aa0 h,aa0 g];simp)];rfl
theorem Ja (h:rngIn n (ag rs i 0) (ag rs i 1)=true)(g:i<=0):o9 n rs i=true:=by
 unfold o9;rw[h,aa1 (by omega)];rfl
theorem Jb (h:rngIn n (ag rs i 0) (ag rs i 1)=true)(g:bK .add Za (ag rs (i-1) 0) (ag rs (i-1) 1)<ag rs i 0):o9 n rs i=true:=by
 unfold o9;rw[h,aa1 (p:=ag rs i 0<=_) (by omega)];simp
theorem Nx (h:upto (o9 n rs) i)(g:(rs.length:Int)<=i):inR n 1 32=rgOk n rs:=by unfold rgOk;rw[bD h g];rfl
end
def nD (rs:aa)(p j:Int):Bool:=decide (ag rs j 0<=p)&&decide (p<bK .add Za (ag rs j 0) (ag rs j 1))
def rhI (rs:aa)(p:Int):Int:=cr (nD rs p) rs.length
def rhB (rs:aa)(p:Int):Bool:=decide (0<=rhI rs p)
def rh1 (a l p:Int):Bool:=decide (a<=p)&&decide (p<bK .add Za a l)
theorem NA {rs:aa}{p i:Int}(h:upto (cv (nD rs p)) i)(h0:0<=i)(h1:i<rs.length)(a:ag rs i 0<=p)(b:p<bK .add Za (ag rs i 0) (ag rs i 1)):rhB rs p=true:=by
 unfold rhB rhI;rw[dz h h0 h1 (by unfold nD;rw[aa0 a,aa0 b];rfl)];exact aa0 h0
theorem Rv {rs:aa}{p i:Int}(h:upto (cv (nD rs p)) i)(h1:(rs.length:Int)<=i):rhB rs p=false:=by
 unfold rhB rhI;rw[dP h h1];rfl
theorem Rt {rs:aa}{p i:Int}(a:p<ag rs i 0):cv (nD rs p) i=true:=by unfold cv nD;rw[aa1 (by omega)];rfl
theorem Ru {rs:aa}{p i:Int}(b:bK .add Za (ag rs i 0) (ag rs i 1)<=p):cv (nD rs p) i=true:=by unfold cv nD;rw[aa1 (p:=p<_) (by omega)];simp
def mshB (p1 k1 b1 p2 k2 b2:Int):Bool:=spOk p1 k1 b1&&(spOk p2 k2 b2&&(decide (k1=k2)&&(decide (p1≠p2)&&decide (bK .and Za b1 b2=0))))
def Ns (qs:aa):Nat->Int
 |0=>0
 |n+1=>Ns qs n+clsSz (ag qs n 1)
def qcI (qs:aa):Int:=Ns qs qs.length
theorem CE {k:Int}:0<=clsSz k/\clsSz k<=8:=by
 unfold clsSz;repeat' split
 all_goals omega
theorem KX {qs:aa}:∀ n:Nat,0<=Ns qs n/\Ns qs n<=8*n
 |0=>⟨Yn _,Yn _⟩
 |n+1=>by have q:=KX (qs:=qs) n;have c:=CE (k:=ag qs n 1);rw[Ns];omega
structure HV (qs:aa)(i t:Int):Prop where
 e:t=Ns qs i.toNat
theorem Us {qs:aa}:HV qs 0 0:=⟨rfl⟩
theorem Ut {qs:aa}{i t:Int}(h:HV qs i t)(i0:0<=i):0<=t/\t<=8*i:=by have q:=KX (qs:=qs) i.toNat;rw[<-h.e]at q;omega
theorem Rf {qs:aa}{i t:Int}(h:HV qs i t)(i0:0<=i)(i1:i<=1099511627776):HV qs (i+1) (bK .add Za t (clsSz (ag qs i 1))):=by
 have b:=Ut h i0;have c:=CE (k:=ag qs i 1);refine⟨?_⟩;rw[show bK .add Za t (clsSz (ag qs i 1))=t+clsSz (ag qs i 1)from bh (by omega),show(i+1).toNat=i.toNat+1 from by omega,Ns, <-h.e,Zt i0]
theorem Nt {qs:aa}{i t:Int}(h:HV qs i t)(i1:i<=qs.length)(i2:(qs.length:Int)<=i):t=qcI qs:=by unfold qcI;rw[h.e,show i.toNat=qs.length from by omega]
def stlOk (b:aa)(a c s:Int):Bool:=inR c 0 3&&(decide (0<=a)&&(decide (0<=s)&&(!qtB b a&&(decide (b.length=0)||decide (ag b (b.length-1:Int) 2<=s)))))
def yM (qs:aa)(i:Int):Bool:=stlOk (qs.take i.toNat) (ag qs i 0) (ag qs i 1) (ag qs i 2)
def quarOk (rm:Int)(qs:aa):Bool:=cd (yM qs) qs.length&&(inR rm 0 500&&decide (qcI qs<=rm))
def staB (a c s:Int):Bool:=inR c 0 3&&(decide (0<=a)&&decide (0<=s))
theorem se {es:aa}{n:Nat}{i:Int}{j:Nat}(h:i.toNat<n):ag (es.take n) i j=ag es i j:=by
 unfold ag;rw[Zp (l:=es.take n),List.getElem?_take,aa3 h,Zp (l:=es)]
section
variable {rm i: Int} {qs: aa}
theorem Dx (i0:0<=i)(i1:i<qs.length)(h:yM qs i=false):quarOk rm qs=false:=by unfold quarOk;rw[bM i0 i1 h];rfl
theorem GX (h:upto (yM qs) i)(g:(qs.length:Int)<=i):quarOk rm qs=(inR rm 0 500&&decide (qcI qs<=rm)):=by unfold quarOk;rw[bD h g];rfl
theorem Q9 (h:staB (ag qs i 0) (ag qs i 1) (ag qs i 2)=false):yM qs i=false:=by
 unfold yM stlOk;unfold staB at h
 revert h
 cases inR (ag qs i 1) 0 3<;>cases decide (0<=ag qs i 0)<;>cases decide (0<=ag qs i 2)<;>simp
theorem Dv (i0:0<i)(i1:i<qs.length):(decide ((qs.take i.toNat).length=0)||decide (ag (qs.take i.toNat) ((qs.take i.toNat).length-1:Int) 2<=ag qs i 2))=decide (ag qs (i-1) 2<=ag qs i 2):=by
 have e:(qs.take i.toNat).length=i.toNat:=by rw[Zl];omega
 rw[e,se (by omega),aa1 (p:=i.toNat=0) (by omega),show((i.toNat:Nat):Int)-1=i-1 from by omega];rfl
theorem Ra (i0:0<i)(i1:i<qs.length)(h:ag qs i 2<ag qs (i-1) 2):yM qs i=false:=by
 unfold yM stlOk;rw[Dv i0 i1,aa1 (p:=ag qs (i-1) 2<=ag qs i 2) (by omega)];simp
theorem Rb (h:qtB (qs.take i.toNat) (ag qs i 0)=true):yM qs i=false:=by unfold yM stlOk;rw[h];simp
theorem Rc (h:staB (ag qs i 0) (ag qs i 1) (ag qs i 2)=true)(g:qtB (qs.take i.toNat) (ag qs i 0)=false)(i0:0<=i)(z:i<=0):yM qs i=true:=by
 unfold yM stlOk;unfold staB at h;simp only[Zc]at h;have e:i=0:=by omega
 subst e;rw[h.1,h.2.1,h.2.2,g];rfl
theorem Re (h:staB (ag qs i 0) (ag qs i 1) (ag qs i 2)=true)(g:qtB (qs.take i.toNat) (ag qs i 0)=false)(i0:0<i)(i1:i<qs.length)(z:ag qs (i-1) 2<=ag qs i 2):yM qs i=true:=by
 unfold yM stlOk;unfold staB at h;simp only[Zc]at h;rw[Dv i0 i1,h.1,h.2.1,h.2.2,g,aa0 z];rfl
end
def rW (ls:aa)(i:Int):Nat->List Int
 |0=>[]
 |n+1=>rW ls i n++[ag (aR ls i 0) n 0]
def rY (ls:aa):Nat->List Int
 |0=>[]
 |n+1=>rY ls n++rW ls n (aR ls n 0).length
def JR (ls:aa)(i k:Int):Bool:=inR (ag (aR ls i 0) k 0) 0 511&&decide (bK .rem Za (ag (aR ls i 0) k 0) (clsSz i)=0)
def LP (ls:aa)(i:Int):Bool:=decide ((aR ls i 0).length<=8)&&cd (JR ls i) (aR ls i 0).length
def caOk (ls:aa):Bool:=decide (ls.length=4)&&(cd (LP ls) 4&&decide ((rY ls 4).Nodup))
theorem rX {ls:aa}{i:Int}:∀ n,(rW ls i n).length=n
 |0=>rfl
 |n+1=>by rw[rW,Zg,rX n];rfl
theorem Cz {ls:aa}{i:Int}:∀ (m n:Nat),n<=m->∃ r,rW ls i m=rW ls i n++r
 |0,n,h=>⟨[],by rw[show n=0 from by omega];rfl⟩
 | m+1,n,h=>by
   by_cases c:n=m+1
   ·subst c;exact⟨[],by simp⟩
   ·obtain⟨r,e⟩:=Cz (ls:=ls) (i:=i) m n (by omega);exact⟨r++[ag (aR ls i 0) m 0],by rw[rW,e,Zj]⟩
theorem CB {ls:aa}:∀ (m n:Nat),n<=m->∃ r,rY ls m=rY ls n++r
 |0,n,h=>⟨[],by rw[show n=0 from by omega];rfl⟩
 | m+1,n,h=>by
   by_cases c:n=m+1
   ·subst c;exact⟨[],by simp⟩
   ·obtain⟨r,e⟩:=CB (ls:=ls) m n (by omega);exact⟨r++rW ls m (aR ls m 0).length,by rw[rY,e,Zj]⟩
theorem ua {ls:aa}{i k:Int}(h:0<=k):rW ls i (k+1).toNat=rW ls i k.toNat++[ag (aR ls i 0) k 0]:=by
 rw[show(k+1).toNat=k.toNat+1 from by omega,rW,Zt h]
theorem uc {ls:aa}{i:Int}(h:0<=i):rY ls (i+1).toNat=rY ls i.toNat++rW ls i (aR ls i 0).length:=by
 rw[show(i+1).toNat=i.toNat+1 from by omega,rY,Zt h]
structure Lp (ls:aa)(i:Int):Prop where
 ok:upto (LP ls) i
 nd:(rY ls i.toNat).Nodup
 l:i<=4
 b:∀ x∈rY ls i.toNat,0<=x/\x<=511
 n:(rY ls i.toNat).length<=8*i.toNat
structure N5 (ls:aa)(i k:Int):Prop where
 ok:upto (LP ls) i
 nd:(rY ls i.toNat++rW ls i k.toNat).Nodup
 l:i<=3
 s:(aR ls i 0).length<=8
 bk:upto (JR ls i) k
 b:∀ x∈rY ls i.toNat++rW ls i k.toNat,0<=x/\x<=511
 n:(rY ls i.toNat).length<=8*i.toNat
section
variable {ls: aa} {i k: Int}
theorem OP:Lp ls 0:=⟨bC,ZL,by omega,(fun x hx=>by cases hx),Zd _⟩
theorem OR (h:Lp ls i)(i0:0<=i)(c:inR i 0 3=true)(s:(aR ls i 0).length<=8):N5 ls i 0:=
 ⟨h.ok,by simpa[rW]using h.nd,(bB.1 c).2,s,bC,by simpa[rW]using h.b,h.n⟩
theorem JX (h:N5 ls i k)(k0:0<=k)(h1:inR (ag (aR ls i 0) k 0) 0 511=true)(h2:bK .rem Za (ag (aR ls i 0) k 0) (clsSz i)=0)(h3:ag (aR ls i 0) k 0∉rY ls i.toNat++rW ls i k.toNat):N5 ls i (k+1):=by
 refine⟨h.ok,?_,h.l,h.s,aW h.bk (by unfold JR;rw[h1,aa0 h2];rfl),?_,h.n⟩
 ·rw[ua k0, <-Zj];exact hY h.nd h3
 ·rw[ua k0, <-Zj];intro x hx;rcases Ze.1 hx with q|q;exact h.b x q
  ·simp at q;subst q;exact bB.1 h1
theorem JU (h:N5 ls i k)(i0:0<=i)(k1:k<=((aR ls i 0).length:Int))(k2:((aR ls i 0).length:Int)<=k):Lp ls (i+1):=by
 have e:k.toNat=(aR ls i 0).length:=by omega
 have nd:=h.nd;have b:=h.b;have n:=h.n;have s:=h.s;have l:=h.l;rw[e, <-uc i0]at nd b;refine⟨aW h.ok (by unfold LP;rw[aa0 h.s,bD h.bk k2];rfl),nd,by omega,b,?_⟩;rw[uc i0,Zg,rX];omega
theorem ya (h:(ls.length:Int)≠4):caOk ls=false:=by unfold caOk;rw[aa1 (by omega)];rfl
theorem JS (i0:0<=i)(l:i<=3)(h:LP ls i=false):caOk ls=false:=by unfold caOk;rw[bM (n:=4) i0 (by omega) h];simp
theorem E3 (i0:0<=i)(h:8<(aR ls i 0).length)(l:i<=3):caOk ls=false:=JS i0 l (by unfold LP;rw[aa1 (by omega)];rfl)
theorem yb (i0:0<=i)(l:i<=3)(k0:0<=k)(k1:k<(aR ls i 0).length)(h:JR ls i k=false):caOk ls=false:=JS i0 l (by unfold LP;rw[bM k0 k1 h,Ya])
theorem JV (h:inR (ag (aR ls i 0) k 0) 0 511=false):JR ls i k=false:=by unfold JR;rw[h];rfl
theorem JW (h:bK .rem Za (ag (aR ls i 0) k 0) (clsSz i)≠0):JR ls i k=false:=by unfold JR;rw[aa1 h,Ya]
theorem E2 (i0:0<=i)(l:i<=3)(k0:0<=k)(k1:k<(aR ls i 0).length)(h:ag (aR ls i 0) k 0∈rY ls i.toNat++rW ls i k.toNat):caOk ls=false:=by
 obtain⟨r,e⟩:=CB (ls:=ls) 4 (i+1).toNat (by omega);obtain⟨r2,e2⟩:=Cz (ls:=ls) (i:=i) (aR ls i 0).length (k+1).toNat (by omega);rw[uc i0,e2,ua k0]at e;have:¬ (rY ls 4).Nodup:=dup (a:=rY ls i.toNat++rW ls i k.toNat) (b:=r2++r) (x:=ag (aR ls i 0) k 0) (by rw[e];simp only[Zj];rfl) h;unfold caOk;rw[aa1 this];simp
theorem E4 (h:Lp ls i)(h1:(ls.length:Int)=4)(i2:4<=i):caOk ls=true:=by
 have l:=h.l;have e:i=4:=by omega
 subst e;unfold caOk;rw[aa0 (by omega),bD h.ok (by omega),aa0 (p:=(rY ls 4).Nodup) h.nd];rfl
theorem LQ (h:Lp ls i)(i1:i<=ls.length)(i2:(ls.length:Int)<=i):decide ((ls.length:Int)=4)=caOk ls:=by
 by_cases c:(ls.length:Int)=4
 ·rw[E4 h c (by omega)];exact aa0 c
 ·rw[ya c];exact aa1 c
end
structure OI (ls:aa)(i:Int)(o:aa):Prop where
 p:Lp ls i
 e:o=eU (rY ls i.toNat)
structure JL (ls:aa)(i k:Int)(o:aa):Prop where
 p:N5 ls i k
 e:o=eU (rY ls i.toNat++rW ls i k.toNat)
structure Bc (ls:aa)(i:Int)(es:aa):Prop where
 p:Lp ls i
 s:lC es (rY ls i.toNat)
structure Bd (ls:aa)(i k:Int)(es:aa):Prop where
 p:N5 ls i k
 s:lC es (rY ls i.toNat++rW ls i k.toNat)
section
variable {ls o es: aa} {i k: Int}
theorem UW:OI ls 0 []:=⟨OP,rfl⟩
theorem UY (h:OI ls i o)(i0:0<=i)(i1:i<4)(s:(aR ls i 0).length<=8):JL ls i 0 o:=⟨OR h.p i0 (bB.2 (by omega)) s,by rw[h.e];simp[rW]⟩
theorem RS (h:JL ls i k o)(k0:0<=k)(h1:inR (ag (aR ls i 0) k 0) 0 511=true)(h2:bK .rem Za (ag (aR ls i 0) k 0) (clsSz i)=0)(h3:hasB o (ag (aR ls i 0) k 0)=false):JL ls i (k+1) (o++[[.i (ag (aR ls i 0) k 0)]]):=by
 have e:=h.e;rw[e]at h3;refine⟨JX h.p k0 h1 h2 (sf h3),?_⟩;rw[ua k0, <-Zj,eE, <-e];rfl
theorem RQ (h:JL ls i k o)(i0:0<=i)(k1:k<=((aR ls i 0).length:Int))(k2:((aR ls i 0).length:Int)<=k):OI ls (i+1) o:=
 ⟨JU h.p i0 k1 k2,by rw[uc i0,h.e,show k.toNat=(aR ls i 0).length from by omega]⟩
theorem NH (h:JL ls i k o)(i0:0<=i)(k0:0<=k)(k1:k<(aR ls i 0).length)(h3:hasB o (ag (aR ls i 0) k 0)=true):caOk ls=false:=by
 rw[h.e,kS]at h3;exact E2 i0 h.p.l k0 k1 h3
theorem NI (h:JL ls i k o)(k0:0<=k):o.length<=40+k.toNat/\Rw [tI] o:=by
 have n:=h.p.n;have l:=h.p.l;have s:=h.p.s;have q:o.length<=40+k.toNat:=by rw[h.e,bV,Zg,rX];omega
 refine⟨q,?_⟩;rw[h.e];have nd:=h.p.nd;refine pf (fun x hx=>by have:=h.p.b x hx;omega) ?_;rw[<-bV, <-h.e];have bd:k.toNat<=512\/512<k.toNat:=by omega
 rcases bd with bd|bd;omega
 ·exfalso;have c:=aay (l₁:=rY ls i.toNat++rW ls i k.toNat) (l₂:=(List.range 512).map fun j:Nat=>(j:Int)) nd (fun x hx=>by
   have b:=h.p.b x hx;rw[ZM];exact⟨x.toNat,Yg.2 (by omega),by omega⟩)
  rw[Zg,rX,YG,List.length_range]at c;omega
theorem PY:Bc ls 0 []:=⟨OP,Ca⟩
theorem PZ (h:Bc ls i es)(i0:0<=i)(c:inR i 0 3=true)(s:(aR ls i 0).length<=8):Bd ls i 0 es:=⟨OR h.p i0 c s,by simpa[rW]using h.s⟩
theorem MC (h:Bd ls i k es)(k0:0<=k)(h1:inR (ag (aR ls i 0) k 0) 0 511=true)(h2:bK .rem Za (ag (aR ls i 0) k 0) (clsSz i)=0)(h3:mgbI es (ag (aR ls i 0) k 0)=false):Bd ls i (k+1) (iT es (ag (aR ls i 0) k 0) (.v (.bool true))):=by
 refine⟨JX h.p k0 h1 h2 (fun m=>by rw[(h.s.at_ _).2 m]at h3;cases h3),?_⟩;rw[ua k0, <-Zj];exact sx h.s
theorem MB (h:Bd ls i k es)(i0:0<=i)(k1:k<=((aR ls i 0).length:Int))(k2:((aR ls i 0).length:Int)<=k):Bc ls (i+1) es:=
 ⟨JU h.p i0 k1 k2,by have s:=h.s;rw[show k.toNat=(aR ls i 0).length from by omega]at s;rw[uc i0];exact s⟩
theorem IC (h:Bd ls i k es)(i0:0<=i)(k0:0<=k)(k1:k<(aR ls i 0).length)(h3:mgbI es (ag (aR ls i 0) k 0)=true):caOk ls=false:=E2 i0 h.p.l k0 k1 ((h.s.at_ _).1 h3)
theorem IA (h:Bc ls i es)(i0:0<=i)(s:8<(aR ls i 0).length)(i1:i<ls.length):caOk ls=false:=by
 by_cases c:(ls.length:Int)=4;exact E3 i0 s (by omega);exact ya c
theorem IB (h:Bc ls i es)(i0:0<=i)(c:inR i 0 3=false)(i1:i<ls.length):caOk ls=false:=by
 have:=pM.1 c;exact ya (by omega)
end
def EJ (cs:aa)(i:Int):Bool:=inR (ag cs i 0) 0 15&& !(decide (0<i)&&decide (ag cs i 0<=ag cs (i-1) 0))
def plOk (k m:Int)(cs:aa):Bool:=cd (EJ cs) cs.length&&(inR k 0 31&&(inR m 0 31&&decide (k≠m)))
def jbOk (k m:Int)(cs:aa)(ph nx:Int):Bool:=plOk k m cs&&(inR ph 0 5&&inR nx 0 cs.length)
section
variable {k m i: Int} {cs: aa}
theorem GR (i0:0<=i)(i1:i<cs.length)(h:inR (ag cs i 0) 0 15=false):plOk k m cs=false:=by
 unfold plOk;rw[bM i0 i1 (by unfold EJ;rw[h];rfl)];rfl
theorem GT (i0:0<=i)(i1:i<cs.length)(h:0<i)(g:ag cs i 0<=ag cs (i-1) 0):plOk k m cs=false:=by
 unfold plOk;rw[bM i0 i1 (by unfold EJ;rw[aa0 h,aa0 g];simp)];rfl
theorem Dr (h:inR (ag cs i 0) 0 15=true)(g:i<=0):EJ cs i=true:=by unfold EJ;rw[h,aa1 (by omega)];rfl
theorem Ds (h:inR (ag cs i 0) 0 15=true)(g:ag cs (i-1) 0<ag cs i 0):EJ cs i=true:=by
 unfold EJ;rw[h,aa1 (p:=ag cs i 0<=_) (by omega)];simp
theorem yL (h:upto (EJ cs) i)(g:(cs.length:Int)<=i):plOk k m cs=(inR k 0 31&&(inR m 0 31&&decide (k≠m))):=by unfold plOk;rw[bD h g];rfl
end
end Go.V
namespace Go.V
theorem J5 {sp lg:aa}{a:Int}(h:layOk sp lg=true):dzK sp lg a=dnK sp lg a:=by unfold dzK;rw[aa3 h]
theorem J6 {sp lg:aa}{a:Int}(h:layOk sp lg=true):dzI sp lg a=dnI sp lg a:=by unfold dzI;rw[aa3 h]
theorem J7 {sp lg:aa}{a:Int}(h:layOk sp lg=true):dzO sp lg a=dnO sp lg a:=by unfold dzO;rw[aa3 h]
theorem CK {sp lg:aa}{a:Int}(h:dnK sp lg a=1):0<=dnI sp lg a/\dnI sp lg a<sp.length:=by
 unfold dnK at h;by_cases c:0<=fk sp a
 ·unfold dnI;rw[aa3 c];rcases np (p:=wJ sp a) (n:=sp.length)with q|q
  ·have:fk sp a= -1:=q;omega
  ·exact q
 ·rw[aa4 c]at h;by_cases d:0<=wF lg a
  ·rw[aa3 d]at h;omega
  ·rw[aa4 d]at h;omega
theorem J4 {sp lg:aa}{a:Int}(h:dnK sp lg a=3):0<=dnI sp lg a/\dnI sp lg a<lg.length:=by
 unfold dnK at h;by_cases c:0<=fk sp a
 ·rw[aa3 c]at h;split at h<;>omega
 ·rw[aa4 c]at h;by_cases d:0<=wF lg a
  ·unfold dnI;rw[aa4 c,aa3 d];rcases np (p:=Ap lg a) (n:=lg.length)with q|q
   ·have:wF lg a= -1:=q;omega
   ·exact q
  ·rw[aa4 d]at h;omega
def BG (os:aa)(x j:Int):Bool:=eqB (ag os j 0) x
def oiI (os:aa)(x:Int):Int:=cr (BG os x) os.length
def oiB (os:aa)(x:Int):Bool:=decide (0<=oiI os x)
def okO (sp lg:aa)(a s:Int):Bool:=decide (dnO sp lg a=0)&&((decide (dnK sp lg a=1)&&decide (ag sp (dnI sp lg a) 1=clsOf s))||(decide (dnK sp lg a=3)&&decide (ag lg (dnI sp lg a) 2=s)))
def xx (sp lg os cs:aa)(nx i:Int):Bool:=
 !(decide (0<i)&&decide (ag os i 1<=ag os (i-1) 1))&&(inR (ag os i 0) 1 (bK .sub Za nx 1)&&(inR (ag os i 3) 0 (cs.length-1:Int)&&(!oiB (os.take i.toNat) (ag os i 0)&&okO sp lg (ag os i 1) (ag os i 2))))
def objOk (sp lg os cs:aa)(nx:Int):Bool:=cd (xx sp lg os cs nx) os.length
section
variable {sp lg os cs: aa} {nx i k: Int}
theorem jP (i0:0<=i)(i1:i<os.length)(h:xx sp lg os cs nx i=false):objOk sp lg os cs nx=false:=bM i0 i1 h
theorem GE (h:upto (xx sp lg os cs nx) i)(g:(os.length:Int)<=i):objOk sp lg os cs nx=true:=bD h g
theorem KH (h:0<i)(g:ag os i 1<=ag os (i-1) 1):xx sp lg os cs nx i=false:=by unfold xx;rw[aa0 h,aa0 g];rfl
theorem KI (h:inR (ag os i 0) 1 (bK .sub Za nx 1)=false):xx sp lg os cs nx i=false:=by unfold xx;rw[h];simp
theorem KJ (h:inR (ag os i 3) 0 (cs.length-1:Int)=false):xx sp lg os cs nx i=false:=by unfold xx;rw[h];simp
theorem KL (h:oiB (os.take i.toNat) (ag os i 0)=true):xx sp lg os cs nx i=false:=by unfold xx;rw[h];simp
theorem Dk (h:okO sp lg (ag os i 1) (ag os i 2)=false):xx sp lg os cs nx i=false:=by unfold xx;rw[h];simp
theorem IY (h1:i<=0\/ag os (i-1) 1<ag os i 1)(h2:inR (ag os i 0) 1 (bK .sub Za nx 1)=true)(h3:inR (ag os i 3) 0 (cs.length-1:Int)=true)(h4:oiB (os.take i.toNat) (ag os i 0)=false)(h5:okO sp lg (ag os i 1) (ag os i 2)=true):xx sp lg os cs nx i=true:=by
 unfold xx;rw[h2,h3,h4,h5];rcases h1 with h|h
 ·rw[aa1 (p:=0<i) (by omega)];rfl
 ·rw[aa1 (p:=ag os i 1<=ag os (i-1) 1) (by omega)];simp
theorem KM {a s:Int}(h:dnO sp lg a≠0):okO sp lg a s=false:=by unfold okO;rw[aa1 h];rfl
theorem QP {a s:Int}(h1:dnK sp lg a≠1\/ag sp (dnI sp lg a) 1≠clsOf s)(h2:dnK sp lg a≠3\/ag lg (dnI sp lg a) 2≠s):okO sp lg a s=false:=by
 unfold okO;rcases h1 with h|h<;>rcases h2 with g|g<;>simp[h,g]
theorem KN {a s:Int}(h0:dnO sp lg a=0)(h1:dnK sp lg a=1)(h2:ag sp (dnI sp lg a) 1=clsOf s):okO sp lg a s=true:=by unfold okO;rw[aa0 h0,aa0 h1,aa0 h2];rfl
theorem KO {a s:Int}(h0:dnO sp lg a=0)(h1:dnK sp lg a=3)(h2:ag lg (dnI sp lg a) 2=s):okO sp lg a s=true:=by unfold okO;rw[aa0 h0,aa0 h1,aa0 h2];simp
theorem Nk (k0:0<=k)(k1:k<i)(i1:i<os.length)(h:ag os k 0=ag os i 0):oiB (os.take i.toNat) (ag os i 0)=true:=by
 unfold oiB oiI;rw[aa2,xd];refine⟨k.toNat,by rw[Zl];omega,?_⟩;unfold BG;rw[Zt k0,se (by omega)];exact ui h
theorem QO {x:Int}(h:upto (fun j=> !eqB (ag os j 0) x) k)(k1:i<=k)(i0:0<=i):oiB (os.take i.toNat) x=false:=by
 unfold oiB oiI;refine aa1 (fun c=>?_);obtain⟨m,m1,m2⟩:=xd.1 c;rw[Zl]at m1;have q:=h m (by omega) (by omega);unfold BG at m2;rw[se (by omega)]at m2;simp only at q;rw[m2]at q;cases q
end
end Go.V
namespace Go.V
def Te (es:aa):Prop:=∀ e∈es,∃ k b:Int,e=[.i k,.i b]
theorem pP {k b:Int}{es:aa}{n:Int}:dh ([.i k,.i b]::es) n=if k=n then some (0,.int Za b)else(dh es n).map fun p=>(p.1+1,p.2):=rfl
theorem kv {k b:Int}{es:aa}{n:Int}:fu ([.i k,.i b]::es) n=if k=n then b else fu es n:=by
 unfold fu;rw[pP];by_cases c:k=n
 ·rw[aa3 c,aa3 c]
 ·rw[aa4 c,aa4 c];cases dh es n with
  |none=>rfl
  |some p=>obtain⟨j,v⟩:=p;cases v<;>rfl
theorem Gz {k b x:Int}{es:aa}{n:Int}:iT ([.i k,.i b]::es) n (.i x)=if k=n then[.i n,.i x]::es else[.i k,.i b]::iT es n (.i x):=by
 unfold iT;rw[pP];by_cases c:k=n
 ·rw[aa3 c,aa3 c];rfl
 ·rw[aa4 c,aa4 c];cases dh es n with
  |none=>rfl
  |some p=>rfl
theorem QG {x n:Int}:∀ {es:aa},Te es->Te (iT es n (.i x))/\∀ m,fu (iT es n (.i x)) m=if m=n then x else fu es m
 | [],_=>by
   refine⟨fun e he=>?_,fun m=>?_⟩
   ·have:e=[.i n,.i x]:=by simpa[iT,dh]using he
    exact⟨n,x,this⟩
   ·show fu [[.i n,.i x]] m=_;rw[kv];by_cases c:m=n
    ·rw[aa3 c.symm,aa3 c]
    ·rw[aa4 (fun e=>c e.symm),aa4 c]
 | e::es,h=>by
   obtain⟨k,b,rfl⟩:=h e (by simp);have h':Te es:=fun e he=>h e (by simp[he])
   obtain⟨a1,a2⟩:=QG (x:=x) (n:=n) h';rw[Gz];by_cases c:k=n
   ·rw[aa3 c];refine⟨fun e he=>?_,fun m=>?_⟩
    ·rcases Zi.1 he with rfl|he;exact⟨n,x,rfl⟩;exact h' e he
    ·rw[kv,kv];by_cases d:m=n
     ·rw[aa3 d.symm,aa3 d]
     ·rw[aa4 (fun e=>d e.symm),aa4 d,aa4 (fun e=>d (by rw[<-e,c]))]
   ·rw[aa4 c];refine⟨fun e he=>?_,fun m=>?_⟩
    ·rcases Zi.1 he with rfl|he;exact⟨k,b,rfl⟩;exact a1 e he
    ·rw[kv,kv,a2 m];by_cases d:k=m
     ·rw[aa3 d,aa3 d,aa4 (fun e=>c (d.trans e))]
     ·rw[aa4 d,aa4 d]
def huI (es:aa)(a:Int):aa:=iT es a (.i (bK .add Za (fu es a) 1))
structure xQ (es:aa)(l:List Int):Prop where
 wf:Te es
 c:∀ m,fu es m=(l.count m:Int)
theorem Tw:xQ [] []:=⟨(fun e he=>by cases he),fun m=>rfl⟩
theorem CF {es:aa}{l:List Int}{a:Int}(h:xQ es l)(hl:l.length<=1099511627776):xQ (huI es a) (l++[a]):=by
 have q:=QG (x:=bK .add Za (fu es a) 1) (n:=a) h.wf;refine⟨q.1,fun m=>?_⟩;show fu (iT es a _) m=_;have b:l.count a<=l.length:=List.count_le_length;have e:=h.c a;rw[q.2 m,List.count_append,show bK .add Za (fu es a) 1=fu es a+1 from bh (by omega)];by_cases c:m=a
 ·subst c;rw[aa3 rfl,e];simp
 ·rw[aa4 c,h.c m];have:[a].count m=0:=aaz.2 (by simpa using c);rw[this];rfl
def gE (l:aa)(f:Nat):Nat->List Int
 |0=>[]
 |n+1=>gE l f n++[ag l n f]
def wE (ls:aa):Nat->List Int
 |0=>[]
 |n+1=>wE ls n++gE (aR ls n 0) 0 (aR ls n 0).length
def oc (cs:aa):Nat->List Int
 |0=>[]
 |n+1=>oc cs n++wE (aR cs n 0) (aR cs n 0).length
theorem cQ {l:aa}{f:Nat}:∀ n,(gE l f n).length=n
 |0=>rfl
 |n+1=>by rw[gE,Zg,cQ n];rfl
theorem kq {l:aa}{f:Nat}{i:Int}(h:0<=i):gE l f (i+1).toNat=gE l f i.toNat++[ag l i f]:=by
 rw[show(i+1).toNat=i.toNat+1 from by omega,gE,Zt h]
theorem E9 {l:aa}{i:Int}(h:0<=i):wE l (i+1).toNat=wE l i.toNat++gE (aR l i 0) 0 (aR l i 0).length:=by
 rw[show(i+1).toNat=i.toNat+1 from by omega,wE,Zt h]
theorem E6 {l:aa}{i:Int}(h:0<=i):oc l (i+1).toNat=oc l i.toNat++wE (aR l i 0) (aR l i 0).length:=by
 rw[show(i+1).toNat=i.toNat+1 from by omega,oc,Zt h]
theorem kV {l:aa}{f:Nat}{x:Int}:∀ {n},x∈gE l f n↔∃ k:Nat,k<n/\x=ag l k f
 |0=>⟨(fun h=>by cases h),fun⟨k,h,_⟩=>absurd h (XA _)⟩
 | n+1=>by
   rw[gE,Ze,kV,Z1]
   constructor
   ·rintro(⟨k,h,e⟩|e);exact⟨k,by omega,e⟩;exact⟨n,by omega,e⟩
   ·rintro⟨k,h,e⟩;by_cases c:k=n
    ·subst c;exact .inr e
    ·exact .inl ⟨k,by omega,e⟩
theorem yC {ls:aa}{x:Int}:∀ {n},x∈wE ls n↔∃ k:Nat,k<n/\x∈gE (aR ls k 0) 0 (aR ls k 0).length
 |0=>⟨(fun h=>by cases h),fun⟨k,h,_⟩=>absurd h (XA _)⟩
 | n+1=>by
   rw[wE,Ze,yC]
   constructor
   ·rintro(⟨k,h,e⟩|e);exact⟨k,by omega,e⟩;exact⟨n,by omega,e⟩
   ·rintro⟨k,h,e⟩;by_cases c:k=n
    ·subst c;exact .inr e
    ·exact .inl ⟨k,by omega,e⟩
theorem yB {cs:aa}{x:Int}:∀ {n},x∈oc cs n↔∃ k:Nat,k<n/\x∈wE (aR cs k 0) (aR cs k 0).length
 |0=>⟨(fun h=>by cases h),fun⟨k,h,_⟩=>absurd h (XA _)⟩
 | n+1=>by
   rw[oc,Ze,yB]
   constructor
   ·rintro(⟨k,h,e⟩|e);exact⟨k,by omega,e⟩;exact⟨n,by omega,e⟩
   ·rintro⟨k,h,e⟩;by_cases c:k=n
    ·subst c;exact .inr e
    ·exact .inl ⟨k,by omega,e⟩
theorem yd {ls:aa}:∀ n,n<=ls.length->(wE ls n).length<=bG (ls.take n)
 |0,_=>Zd _
 | n+1,h=>by
   have q:=yd n (by omega:n<=ls.length);have c:=ux (es:=ls) (n:=n) (j:=0) (by omega);unfold ah at c;rw[wE,Zg,cQ,iY (by omega)];omega
theorem hL {cs:aa}:∀ n,n<=cs.length->(oc cs n).length<=bG (cs.take n)
 |0,_=>Zd _
 | n+1,h=>by
   have q:=hL n (by omega:n<=cs.length);have c:=ux (es:=cs) (n:=n) (j:=0) (by omega);have d:=yd (ls:=aR cs n 0) (aR cs n 0).length (Zf _);rw[Yt]at d;unfold ah at c;rw[oc,Zg,iY (by omega)];omega
theorem Ic {cs:aa}{i k:Int}(i0:0<=i)(i1:i<cs.length)(k1:k<=(aR cs i 0).length):(oc cs i.toNat++wE (aR cs i 0) k.toNat).length+bG ((aR cs i 0).drop k.toNat)<=bG cs:=by
 have q:=hL (cs:=cs) i.toNat (by omega);have c:=zV (es:=cs) (n:=i.toNat+1);have d:=iY (es:=cs) (n:=i.toNat) (by omega);have e:=ux (es:=cs) (n:=i.toNat) (j:=0) (by omega);rw[Zt i0]at e;have f:=yd (ls:=aR cs i 0) k.toNat (by omega);have g:bG (aR cs i 0)=bG ((aR cs i 0).take k.toNat)+bG ((aR cs i 0).drop k.toNat):=by rw[<-d7,ZN]
 rw[Zg];unfold ah at e;omega
theorem CC {cs:aa}{i k j:Int}(i0:0<=i)(i1:i<cs.length)(k0:0<=k)(k1:k<(aR cs i 0).length)(j0:0<=j)(j1:j<=(aR (aR cs i 0) k 0).length):(oc cs i.toNat++wE (aR cs i 0) k.toNat++gE (aR (aR cs i 0) k 0) 0 j.toNat).length<=bG cs:=by
 have q:=Ic i0 i1 (by omega:k<=(aR cs i 0).length);have e:=ux (es:=aR cs i 0) (n:=k.toNat) (j:=0) (by omega);rw[Zt k0]at e;have d:cP ((aR cs i 0).getD k.toNat [])<=bG ((aR cs i 0).drop k.toNat):=by
  rw[Xx (by omega)];rw[Zp,Zx (by omega)];simp[bG]
 rw[Zg,cQ];unfold ah at e;omega
def hlB (sp lg:aa)(a k:Int):Bool:=decide (dnK sp lg a=1)&&(decide (dnO sp lg a=0)&&(decide (k<0)||decide (ag sp (dnI sp lg a) 1=k)))
def jA (sp lg l:aa)(k j:Int):Bool:=hlB sp lg (ag l j 0) k
def kA (sp lg ls:aa)(k:Int):Bool:=cd (jA sp lg (aR ls k 0) k) (aR ls k 0).length
def iA (sp lg cs:aa)(i:Int):Bool:=cd (kA sp lg (aR cs i 0)) (aR cs i 0).length
def qA (sp lg qs:aa)(i:Int):Bool:=hlB sp lg (ag qs i 0) (ag qs i 1)
def sA (qs:aa)(c i:Int):Bool:=decide (ag qs i 2<=c)
def B4 (sp lg qs:aa)(c i:Int):Bool:=qA sp lg qs i&&sA qs c i
def Iy (os cs qs fl:aa):List Int:=oc cs cs.length++gE qs 0 qs.length++gE fl 0 fl.length++gE os 1 os.length
def Bw (os cs qs fl:aa):List Int:=gE os 1 os.length++oc cs cs.length++gE qs 0 qs.length++gE fl 0 fl.length
def JQ (l:List Int)(lv:aa)(i:Int):Bool:=decide (l.count (ag lv i 0)=1)
def hoI (sp lg os cs b x qs:aa)(c:Int):Bool:=cd (iA sp lg cs) cs.length&&(cd (B4 sp lg qs c) qs.length&&(cd (jA sp lg (ifL b x) (-1)) (ifL b x).length&&cd (JQ (Iy os cs qs (ifL b x)) (laL sp lg)) (laL sp lg).length))
def hoS (sp lg os cs b x qs:aa):Bool:=cd (iA sp lg cs) cs.length&&(cd (qA sp lg qs) qs.length&&(cd (jA sp lg (ifL b x) (-1)) (ifL b x).length&&(decide ((Bw os cs qs (ifL b x)).Nodup)&&decide ((Bw os cs qs (ifL b x)).length=(laL sp lg).length))))
section
variable {sp lg os cs b x qs fl es: aa} {i k j c: Int}
theorem PU (k0:0<=k)(k1:k<(aR cs i 0).length)(j0:0<=j)(j1:j<(aR (aR cs i 0) k 0).length)(h:hlB sp lg (ag (aR (aR cs i 0) k 0) j 0) k=false):iA sp lg cs i=false:=
 bM k0 k1 (bM (p:=jA sp lg (aR (aR cs i 0) k 0) k) j0 j1 h)
theorem Mm (i0:0<=i)(i1:i<cs.length)(h:iA sp lg cs i=false):hoI sp lg os cs b x qs c=false:=by unfold hoI;rw[bM i0 i1 h];rfl
theorem Fz (i0:0<=i)(i1:i<qs.length)(h:B4 sp lg qs c i=false):hoI sp lg os cs b x qs c=false:=by unfold hoI;rw[bM i0 i1 h];simp
theorem Mn (i0:0<=i)(i1:i<(ifL b x).length)(h:hlB sp lg (ag (ifL b x) i 0) (-1)=false):hoI sp lg os cs b x qs c=false:=by unfold hoI;rw[bM (p:=jA sp lg (ifL b x) (-1)) i0 i1 h];simp
theorem Mo (i0:0<=i)(i1:i<(laL sp lg).length)(h:JQ (Iy os cs qs (ifL b x)) (laL sp lg) i=false):hoI sp lg os cs b x qs c=false:=by unfold hoI;rw[bM i0 i1 h];simp
theorem Mp (i0:0<=i)(i1:i<cs.length)(h:iA sp lg cs i=false):hoS sp lg os cs b x qs=false:=by unfold hoS;rw[bM i0 i1 h];rfl
theorem Mq (i0:0<=i)(i1:i<qs.length)(h:qA sp lg qs i=false):hoS sp lg os cs b x qs=false:=by unfold hoS;rw[bM i0 i1 h];simp
theorem Mr (i0:0<=i)(i1:i<(ifL b x).length)(h:hlB sp lg (ag (ifL b x) i 0) (-1)=false):hoS sp lg os cs b x qs=false:=by unfold hoS;rw[bM (p:=jA sp lg (ifL b x) (-1)) i0 i1 h];simp
theorem Rq (h:hlB sp lg (ag qs i 0) (ag qs i 1)=false):B4 sp lg qs c i=false:=by unfold B4 qA;rw[h];rfl
theorem Rr (h:c<ag qs i 2):B4 sp lg qs c i=false:=by unfold B4 sA;rw[aa1 (by omega),Ya]
theorem UE (h:hlB sp lg (ag qs i 0) (ag qs i 1)=true)(g:ag qs i 2<=c):B4 sp lg qs c i=true:=by unfold B4 qA sA;rw[h,aa0 g];rfl
structure Oa (sp lg cs:aa)(i:Int)(es:aa):Prop where
 ok:upto (iA sp lg cs) i
 c:xQ es (oc cs i.toNat)
structure Oc (sp lg cs:aa)(i k:Int)(es:aa):Prop where
 ok:upto (iA sp lg cs) i
 ok2:upto (kA sp lg (aR cs i 0)) k
 c:xQ es (oc cs i.toNat++wE (aR cs i 0) k.toNat)
structure Ob (sp lg cs:aa)(i k j:Int)(es:aa):Prop where
 ok:upto (iA sp lg cs) i
 ok2:upto (kA sp lg (aR cs i 0)) k
 ok3:upto (jA sp lg (aR (aR cs i 0) k 0) k) j
 c:xQ es (oc cs i.toNat++wE (aR cs i 0) k.toNat++gE (aR (aR cs i 0) k 0) 0 j.toNat)
structure Od (sp lg cs qs:aa)(t j:Int)(es:aa):Prop where
 ok:cd (iA sp lg cs) cs.length=true
 ok2:upto (B4 sp lg qs t) j
 c:xQ es (oc cs cs.length++gE qs 0 j.toNat)
structure N9 (sp lg cs qs fl:aa)(t j:Int)(es:aa):Prop where
 ok:cd (iA sp lg cs) cs.length=true
 ok2:cd (B4 sp lg qs t) qs.length=true
 ok3:upto (jA sp lg fl (-1)) j
 c:xQ es (oc cs cs.length++gE qs 0 qs.length++gE fl 0 j.toNat)
structure Lr (sp lg os cs qs fl:aa)(t j:Int)(es:aa):Prop where
 ok:cd (iA sp lg cs) cs.length=true
 ok2:cd (B4 sp lg qs t) qs.length=true
 ok3:cd (jA sp lg fl (-1)) fl.length=true
 c:xQ es (oc cs cs.length++gE qs 0 qs.length++gE fl 0 fl.length++gE os 1 j.toNat)
theorem TN:Oa sp lg cs 0 []:=⟨bC,Tw⟩
theorem TP (h:Oa sp lg cs i es):Oc sp lg cs i 0 es:=⟨h.ok,bC,by simpa[wE]using h.c⟩
theorem TO (h:Oc sp lg cs i k es):Ob sp lg cs i k 0 es:=⟨h.ok,h.ok2,bC,by simpa[gE]using h.c⟩
theorem Pu (h:Ob sp lg cs i k j es)(i0:0<=i)(i1:i<cs.length)(k0:0<=k)(k1:k<(aR cs i 0).length)(j0:0<=j)(j1:j<(aR (aR cs i 0) k 0).length)(hc:ah cs<=1073741824)(hh:hlB sp lg (ag (aR (aR cs i 0) k 0) j 0) k=true):
 Ob sp lg cs i k (j+1) (huI es (ag (aR (aR cs i 0) k 0) j 0)):=by
 have l:=CC (cs:=cs) i0 i1 k0 k1 j0 (by omega);unfold ah at hc;exact⟨h.ok,h.ok2,aW h.ok3 hh,by rw[kq j0, <-Zj];exact CF h.c (by omega)⟩
theorem Pv (h:Ob sp lg cs i k j es)(k0:0<=k)(j1:j<=((aR (aR cs i 0) k 0).length:Int))(j2:((aR (aR cs i 0) k 0).length:Int)<=j):Oc sp lg cs i (k+1) es:=by
 refine⟨h.ok,aW h.ok2 (bD h.ok3 j2),?_⟩;have c:=h.c;rw[show j.toNat=(aR (aR cs i 0) k 0).length from by omega,Zj, <-E9 k0]at c;exact c
theorem Ps (h:Oc sp lg cs i k es)(i0:0<=i)(k1:k<=((aR cs i 0).length:Int))(k2:((aR cs i 0).length:Int)<=k):Oa sp lg cs (i+1) es:=by
 refine⟨aW h.ok (bD h.ok2 k2),?_⟩;have c:=h.c;rw[show k.toNat=(aR cs i 0).length from by omega, <-E6 i0]at c;exact c
theorem TX (h:Oa sp lg cs i es)(i1:i<=cs.length)(i2:(cs.length:Int)<=i):Od sp lg cs qs c 0 es:=
 ⟨bD h.ok i2,bC,by have c:=h.c;rw[show i.toNat=cs.length from by omega]at c;simpa[gE]using c⟩
theorem PS (h:Od sp lg cs qs c j es)(j0:0<=j)(j1:j<qs.length)(hc:ah cs<=1073741824)(hq:qs.length<=1073741824)(hh:B4 sp lg qs c j=true):Od sp lg cs qs c (j+1) (huI es (ag qs j 0)):=by
 have l:=hL (cs:=cs) cs.length (Zf _);rw[Yt]at l;unfold ah at hc;refine⟨h.ok,aW h.ok2 hh,?_⟩;rw[kq j0, <-Zj];refine CF h.c ?_;rw[Zg,cQ];omega
theorem TM (h:Od sp lg cs qs c i es)(i1:i<=qs.length)(i2:(qs.length:Int)<=i):N9 sp lg cs qs fl c 0 es:=
 ⟨h.ok,bD h.ok2 i2,bC,by have c:=h.c;rw[show i.toNat=qs.length from by omega]at c;simpa[gE]using c⟩
theorem Pq (h:N9 sp lg cs qs fl c j es)(j0:0<=j)(j1:j<fl.length)(hc:ah cs<=1073741824)(hq:qs.length<=1073741824)(hf:fl.length<=30)(hh:hlB sp lg (ag fl j 0) (-1)=true):N9 sp lg cs qs fl c (j+1) (huI es (ag fl j 0)):=by
 have l:=hL (cs:=cs) cs.length (Zf _);rw[Yt]at l;unfold ah at hc;refine⟨h.ok,h.ok2,aW h.ok3 hh,?_⟩;rw[kq j0, <-Zj];refine CF h.c ?_;rw[Zg,Zg,cQ,cQ];omega
theorem TS (h:N9 sp lg cs qs fl c i es)(i1:i<=fl.length)(i2:(fl.length:Int)<=i):Lr sp lg os cs qs fl c 0 es:=
 ⟨h.ok,h.ok2,bD h.ok3 i2,by have c:=h.c;rw[show i.toNat=fl.length from by omega]at c;simpa[gE]using c⟩
theorem Py (h:Lr sp lg os cs qs fl c j es)(j0:0<=j)(j1:j<os.length)(hc:ah cs<=1073741824)(hq:qs.length<=1073741824)(ho:os.length<=1073741824)(hf:fl.length<=30):Lr sp lg os cs qs fl c (j+1) (huI es (ag os j 1)):=by
 have l:=hL (cs:=cs) cs.length (Zf _);rw[Yt]at l;unfold ah at hc;refine⟨h.ok,h.ok2,h.ok3,?_⟩;rw[kq j0, <-Zj];refine CF h.c ?_;rw[Zg,Zg,Zg,cQ,cQ,cQ];omega
structure JG (sp lg os cs qs fl:aa)(t i:Int)(es:aa):Prop where
 p:Lr sp lg os cs qs fl t os.length es
 ok:upto (JQ (Iy os cs qs fl) (laL sp lg)) i
theorem TQ (h:Lr sp lg os cs qs fl c i es)(i1:i<=os.length)(i2:(os.length:Int)<=i):JG sp lg os cs qs fl c 0 es:=⟨by rw[show(os.length:Int)=i from by omega];exact h,bC⟩
theorem Pw (h:JG sp lg os cs qs fl c i es)(m:Int):fu es m=((Iy os cs qs fl).count m:Int):=by
 have q:=h.p.c.c m;rw[ZG]at q;exact q
theorem Px (h:JG sp lg os cs qs fl c i es)(e:fu es (ag (laL sp lg) i 0)=1):JG sp lg os cs qs fl c (i+1) es:=
 ⟨h.p,aW h.ok (by unfold JQ;rw[Pw h]at e;exact aa0 (by omega))⟩
theorem TR (h:JG sp lg os cs qs (ifL b x) c i es)(i0:0<=i)(i1:i<(laL sp lg).length)(e:fu es (ag (laL sp lg) i 0)≠1):hoI sp lg os cs b x qs c=false:=
 Mo i0 i1 (by unfold JQ;rw[Pw h]at e;exact aa1 (by omega))
theorem Mk (h:JG sp lg os cs qs (ifL b x) c i es)(i2:((laL sp lg).length:Int)<=i):hoI sp lg os cs b x qs c=true:=by
 unfold hoI;rw[h.p.ok,h.p.ok2,h.p.ok3,bD h.ok i2];rfl
end
end Go.V
namespace Go.V
structure LC (os:aa)(i:Int)(o:aa):Prop where
 e:o=eU (gE os 1 i.toNat)
structure Ol (sp lg os cs:aa)(i:Int)(o:aa):Prop where
 ok:upto (iA sp lg cs) i
 e:o=eU (gE os 1 os.length++oc cs i.toNat)
structure Om (sp lg os cs:aa)(i k:Int)(o:aa):Prop where
 ok:upto (iA sp lg cs) i
 ok2:upto (kA sp lg (aR cs i 0)) k
 e:o=eU (gE os 1 os.length++(oc cs i.toNat++wE (aR cs i 0) k.toNat))
structure LD (sp lg os cs:aa)(i k j:Int)(o:aa):Prop where
 ok:upto (iA sp lg cs) i
 ok2:upto (kA sp lg (aR cs i 0)) k
 ok3:upto (jA sp lg (aR (aR cs i 0) k 0) k) j
 e:o=eU (gE os 1 os.length++(oc cs i.toNat++wE (aR cs i 0) k.toNat++gE (aR (aR cs i 0) k 0) 0 j.toNat))
structure LE (sp lg os cs qs:aa)(j:Int)(o:aa):Prop where
 ok:cd (iA sp lg cs) cs.length=true
 ok2:upto (qA sp lg qs) j
 e:o=eU (gE os 1 os.length++oc cs cs.length++gE qs 0 j.toNat)
structure LF (sp lg os cs qs fl:aa)(j:Int)(o:aa):Prop where
 ok:cd (iA sp lg cs) cs.length=true
 ok2:cd (qA sp lg qs) qs.length=true
 ok3:upto (jA sp lg fl (-1)) j
 e:o=eU (gE os 1 os.length++oc cs cs.length++gE qs 0 qs.length++gE fl 0 j.toNat)
structure HW (sp lg os cs qs fl:aa)(j:Int)(o:aa):Prop where
 ok:cd (iA sp lg cs) cs.length=true
 ok2:cd (qA sp lg qs) qs.length=true
 ok3:cd (jA sp lg fl (-1)) fl.length=true
 e:o=eU (Bw os cs qs fl)
 nd:((Bw os cs qs fl).take j.toNat).Nodup
section
variable {sp lg os cs b x qs fl o: aa} {i k j: Int}
theorem UI:LC os 0 []:=⟨rfl⟩
theorem UJ (h:LC os i o):o.length=i.toNat:=by rw[h.e,bV,cQ]
theorem RD (h:LC os i o)(i0:0<=i):LC os (i+1) (o++[[.i (ag os i 1)]]):=⟨by rw[kq i0,eE, <-h.e];rfl⟩
theorem UK (h:LC os i o)(i1:i<=os.length)(i2:(os.length:Int)<=i):Ol sp lg os cs 0 o:=⟨bC,by rw[h.e,show i.toNat=os.length from by omega];simp[oc]⟩
theorem UL (h:Ol sp lg os cs i o):Om sp lg os cs i 0 o:=⟨h.ok,bC,by rw[h.e];simp[wE]⟩
theorem UM (h:Om sp lg os cs i k o):LD sp lg os cs i k 0 o:=⟨h.ok,h.ok2,bC,by rw[h.e];simp[gE]⟩
theorem UN (h:LD sp lg os cs i k j o)(i0:0<=i)(i1:i<cs.length)(k0:0<=k)(k1:k<(aR cs i 0).length)(j0:0<=j)(j1:j<=(aR (aR cs i 0) k 0).length)(hc:ah cs<=1073741824)(ho:os.length<=1073741824):o.length<=2147483648:=by
 have l:=CC (cs:=cs) i0 i1 k0 k1 j0 j1;unfold ah at hc;rw[h.e,bV,Zg,cQ];omega
theorem RG (h:LD sp lg os cs i k j o)(j0:0<=j)(hh:hlB sp lg (ag (aR (aR cs i 0) k 0) j 0) k=true):LD sp lg os cs i k (j+1) (o++[[.i (ag (aR (aR cs i 0) k 0) j 0)]]):=
 ⟨h.ok,h.ok2,aW h.ok3 hh,by rw[kq j0, <-Zj (oc cs i.toNat++wE (aR cs i 0) k.toNat), <-Zj (gE os 1 os.length),eE, <-h.e];rfl⟩
theorem RF (h:LD sp lg os cs i k j o)(k0:0<=k)(j1:j<=((aR (aR cs i 0) k 0).length:Int))(j2:((aR (aR cs i 0) k 0).length:Int)<=j):Om sp lg os cs i (k+1) o:=by
 refine⟨h.ok,aW h.ok2 (bD h.ok3 j2),?_⟩;rw[h.e,show j.toNat=(aR (aR cs i 0) k 0).length from by omega,Zj (oc cs i.toNat), <-E9 k0]
theorem RE (h:Om sp lg os cs i k o)(i0:0<=i)(k1:k<=((aR cs i 0).length:Int))(k2:((aR cs i 0).length:Int)<=k):Ol sp lg os cs (i+1) o:=by
 refine⟨aW h.ok (bD h.ok2 k2),?_⟩;rw[h.e,show k.toNat=(aR cs i 0).length from by omega, <-E6 i0]
theorem UO (h:Ol sp lg os cs i o)(i1:i<=cs.length)(i2:(cs.length:Int)<=i):LE sp lg os cs qs 0 o:=⟨bD h.ok i2,bC,by rw[h.e,show i.toNat=cs.length from by omega];simp[gE]⟩
theorem UP (h:LE sp lg os cs qs j o)(j1:j<=qs.length)(hc:ah cs<=1073741824)(ho:os.length<=1073741824)(hq:qs.length<=1073741824):o.length<=4294967296:=by
 have l:=hL (cs:=cs) cs.length (Zf _);rw[Yt]at l;unfold ah at hc;rw[h.e,bV,Zg,Zg,cQ,cQ];omega
theorem RH (h:LE sp lg os cs qs j o)(j0:0<=j)(hh:hlB sp lg (ag qs j 0) (ag qs j 1)=true):LE sp lg os cs qs (j+1) (o++[[.i (ag qs j 0)]]):=
 ⟨h.ok,aW h.ok2 hh,by rw[kq j0, <-Zj,eE, <-h.e];rfl⟩
theorem UQ (h:LE sp lg os cs qs i o)(i1:i<=qs.length)(i2:(qs.length:Int)<=i):LF sp lg os cs qs fl 0 o:=⟨h.ok,bD h.ok2 i2,bC,by rw[h.e,show i.toNat=qs.length from by omega];simp[gE]⟩
theorem UR (h:LF sp lg os cs qs fl j o)(j1:j<=fl.length)(hc:ah cs<=1073741824)(ho:os.length<=1073741824)(hq:qs.length<=1073741824)(hf:fl.length<=30):o.length<=4294967400:=by
 have l:=hL (cs:=cs) cs.length (Zf _);rw[Yt]at l;unfold ah at hc;rw[h.e,bV,Zg,Zg,Zg,cQ,cQ,cQ];omega
theorem RI (h:LF sp lg os cs qs fl j o)(j0:0<=j)(hh:hlB sp lg (ag fl j 0) (-1)=true):LF sp lg os cs qs fl (j+1) (o++[[.i (ag fl j 0)]]):=
 ⟨h.ok,h.ok2,aW h.ok3 hh,by rw[kq j0, <-Zj,eE, <-h.e];rfl⟩
theorem US (h:LF sp lg os cs qs fl i o)(i1:i<=fl.length)(i2:(fl.length:Int)<=i):HW sp lg os cs qs fl 0 o:=
 ⟨h.ok,h.ok2,bD h.ok3 i2,by rw[h.e,show i.toNat=fl.length from by omega];rfl,ZL⟩
theorem RJ (h:HW sp lg os cs qs fl j o)(hc:ah cs<=1073741824)(ho:os.length<=1073741824)(hq:qs.length<=1073741824)(hf:fl.length<=30):o.length<=4294967400:=by
 have l:=hL (cs:=cs) cs.length (Zf _);rw[Yt]at l;unfold ah at hc;rw[h.e,bV];unfold Bw;rw[Zg,Zg,Zg,cQ,cQ,cQ];omega
theorem AH {l:List Int}{n:Nat}:(eU l).take n=eU (l.take n):=by unfold eU;rw[List.map_take]
theorem yO {l:List Int}{i:Int}(h0:0<=i)(h:i<(eU l).length):∃ x,l[i.toNat]?=some x/\ag (eU l) i 0=x:=by
 rw[bV]at h;have q:=pe (l:=l) (k:=i.toNat) (by omega);rw[Zt h0]at q;exact⟨_,Zx (by omega),q⟩
theorem RN (h:HW sp lg os cs qs fl j o)(j0:0<=j)(j1:j<o.length)(hh:hasB (o.take j.toNat) (ag o j 0)=false):HW sp lg os cs qs fl (j+1) o:=by
 refine⟨h.ok,h.ok2,h.ok3,h.e,?_⟩;have e:=h.e;rw[e]at j1 hh;obtain⟨v,q1,q2⟩:=yO j0 j1;rw[AH,q2]at hh;have nm:=sf hh;rw[show(j+1).toNat=j.toNat+1 from by omega,List.take_succ,q1];exact hY h.nd nm
theorem UT (h:HW sp lg os cs qs (ifL b x) j o)(j0:0<=j)(j1:j<o.length)(hh:hasB (o.take j.toNat) (ag o j 0)=true):hoS sp lg os cs b x qs=false:=by
 have e:=h.e;rw[e]at j1 hh;obtain⟨v,q1,q2⟩:=yO j0 j1;rw[AH,q2,kS]at hh;have:¬ (Bw os cs qs (ifL b x)).Nodup:=fun nd=>by
  have lt:j.toNat<(Bw os cs qs (ifL b x)).length:=by rw[bV]at j1;omega
  have sp:=ZN j.toNat (Bw os cs qs (ifL b x));rw[Xx lt]at sp;have gv:(Bw os cs qs (ifL b x))[j.toNat]=v:=by rw[Zx lt]at q1;exact YF q1
  rw[gv]at sp;exact dup sp.symm hh nd
 unfold hoS;rw[aa1 this];simp
theorem NG (h:HW sp lg os cs qs (ifL b x) j o)(j2:(o.length:Int)<=j):decide ((o.length:Int)=(laL sp lg).length)=hoS sp lg os cs b x qs:=by
 have e:=h.e;have nd:=h.nd;have l:(Bw os cs qs (ifL b x)).length=o.length:=by rw[e,bV]
 rw[Yb (by omega)]at nd;unfold hoS;rw[h.ok,h.ok2,h.ok3,aa0 nd,l];simp only[YB];exact er (by rw[aa2,aa2];omega)
def Oq (l:List Int):Prop:=∀ v∈l,-9223372036854775808<=v/\v<=9223372036854775807
theorem yp {l m:List Int}(h:Oq l)(g:Oq m):Oq (l++m):=fun v hv=>by
 rcases Ze.1 hv with q|q;exact h v q;exact g v q
theorem yq {fs:List Ty}{l:aa}{f:Nat}(h:Rw fs l)(hf:fs[f]?=some tI):Oq (gE l f l.length):=fun v hv=>by
 obtain⟨n,n1,rfl⟩:=kV.1 hv;exact uv h hf (by omega)
theorem MI {ls:aa}(h:Rw [.sl [tI]] ls):Oq (wE ls ls.length):=fun v hv=>by
 obtain⟨n,n1,q⟩:=yC.1 hv;exact yq (fs:=[tI]) (Rw.sub (fs:=[.sl [tI]]) h (by omega) rfl) rfl v q
theorem MH {cs:aa}(h:Rw [.sl [.sl [tI]]] cs):Oq (oc cs cs.length):=fun v hv=>by
 obtain⟨n,n1,q⟩:=yB.1 hv;exact MI (Rw.sub (fs:=[.sl [.sl [tI]]]) h (by omega) rfl) v q
theorem RL (N:zx sp lg os cs b x qs)(h:HW sp lg os cs qs (ifL b x) j o)(n:Nat):Rw [tI] (o.take n):=by
 have l:=RJ h N.cl N.ol N.ql BD;refine Rw.take ?_ n;rw[h.e]at l ⊢;rw[bV]at l;refine pf ?_ (by omega);unfold Bw;exact yp (yp (yp (yq N.ow rfl) (MH N.cw)) (yq N.qw rfl)) (yq (FL N.m) rfl)
theorem Fy {a k:Int}(hl:layOk sp lg=true)(h:hlB sp lg a k=true):rK sp lg a=true:=by
 unfold hlB at h;simp only[Zc,aa2]at h;exact(Da hl).2 ⟨h.2.1,.inl h.1⟩
theorem QQ {a s:Int}(hl:layOk sp lg=true)(h:okO sp lg a s=true):rK sp lg a=true:=by
 unfold okO at h;simp only[Zc,Z9,aa2]at h;exact(Da hl).2 ⟨h.1,h.2.elim (fun q=>.inl q.1) (fun q=>.inr q.1)⟩
def M0 (sp lg:aa):List Int:=KA sp lg 512
theorem Qe (hl:layOk sp lg=true):laL sp lg=eU (M0 sp lg):=by unfold laL M0;rw[aa3 hl,uH]
theorem IQ (hl:layOk sp lg=true){a:Int}:a∈M0 sp lg↔rK sp lg a=true:=by
 unfold M0;rw[nI]
 constructor;exact fun h=>h.2.2
 ·intro h;have F:=M1 hl;have v:=KC F hl h;have r:a∈Mv sp lg:=Df.2 v;refine⟨?_,?_,h⟩
  ·rcases v with⟨i,k,i1,k1,_,e⟩|⟨j,j1,e⟩
   ·have ae:=jX (s:=(k:Int)) (F.s i i1) (by omega) (by omega);have t:=gW (F.s i i1);omega
   ·have t:=iu (F.l j j1);omega
  ·rcases v with⟨i,k,i1,k1,_,e⟩|⟨j,j1,e⟩
   ·have ae:=jX (s:=(k:Int)) (F.s i i1) (by omega) (by omega);have t:=gW (F.s i i1);omega
   ·have t:=iu (F.l j j1);have b:=gV t.1;omega
theorem Nf:(M0 sp lg).Nodup:=(B0 512).imp (fun h=>by omega)
theorem Dp:(Iy os cs qs fl).Perm (Bw os cs qs fl):=by
 unfold Iy Bw;have q:=List.perm_append_comm (l₁:=oc cs cs.length++gE qs 0 qs.length++gE fl 0 fl.length) (l₂:=gE os 1 os.length);refine q.trans ?_;rw[Zj,Zj,Zj]
theorem GD {l m:List Int}(hm:m.Nodup)(hs:∀ v∈l,v∈m):(∀ v∈m,l.count v=1)↔l.Nodup/\l.length=m.length:=by
 constructor
 ·intro h;have nd:l.Nodup:=aaA.2 (fun v=>by
   by_cases c:v∈l
   ·rw[h v (hs v c)];exact Zf _
   ·rw[aaz.2 c];omega)
  refine⟨nd,?_⟩;have p:l.Perm m:=by
   rw[List.perm_ext_iff_of_nodup nd hm];intro v;refine⟨hs v,fun hv=>?_⟩;have:=h v hv;exact aaB.1 (by omega)
  exact p.length_eq
 ·rintro⟨nd,len⟩ v hv;have hv':v∈l:=by
   by_cases c:v∈l;exact c
   ·exfalso;have q:=aay (l₁:=v::l) (l₂:=m) (List.nodup_cons.2 ⟨c,nd⟩) (fun y hy=>by
     rcases Zi.1 hy with rfl|hy;exact hv
     ·exact hs y hy)
    rw[Zq]at q;omega
  have p1:=aaA.1 nd v;have p2:=aaB.2 hv';omega
theorem ea {p:Int->Bool}{n:Nat}(h:cd p n=true):∀ k:Nat,k<n->p k=true:=fun k hk=>cG.1 h k (by omega) (by omega)
theorem I6 {c:Int}:cd (B4 sp lg qs c) qs.length=(cd (qA sp lg qs) qs.length&&cd (sA qs c) qs.length):=by
 refine er ?_;rw[Zc,cG,cG,cG];unfold upto B4
 constructor
 ·intro h;refine⟨fun j h0 h1=>?_,fun j h0 h1=>?_⟩
  ·have:=h j h0 h1;rw[Zc]at this;exact this.1
  ·have:=h j h0 h1;rw[Zc]at this;exact this.2
 ·rintro⟨h,g⟩ j h0 h1;rw[h j h0 h1,g j h0 h1];rfl
theorem FA {nx c:Int}(hl:layOk sp lg=true)(ho:objOk sp lg os cs nx=true):hoI sp lg os cs b x qs c=(hoS sp lg os cs b x qs&&cd (sA qs c) qs.length):=by
 unfold hoI hoS;rw[I6];by_cases h1:cd (iA sp lg cs) cs.length=true
 case neg=>rw[Y6]at h1;rw[h1];rfl
 by_cases h2:cd (qA sp lg qs) qs.length=true
 case neg=>rw[Y6]at h2;rw[h2];simp
 by_cases h3:cd (jA sp lg (ifL b x) (-1)) (ifL b x).length=true
 case neg=>rw[Y6]at h3;rw[h3];simp
 have sub:∀ v∈Iy os cs qs (ifL b x),v∈M0 sp lg:=by
  intro v hv;rw[IQ hl];unfold Iy at hv;rw[Ze,Ze,Ze]at hv;rcases hv with((hv|hv)|hv)|hv
  ·obtain⟨i,i1,hv⟩:=yB.1 hv;obtain⟨k,k1,hv⟩:=yC.1 hv;obtain⟨j,j1,rfl⟩:=kV.1 hv;have q1:=ea h1 i i1;have q2:=ea q1 k k1;have q3:=ea q2 j j1;exact Fy hl q3
  ·obtain⟨j,j1,rfl⟩:=kV.1 hv;exact Fy hl (ea h2 j j1)
  ·obtain⟨j,j1,rfl⟩:=kV.1 hv;exact Fy hl (ea h3 j j1)
  ·obtain⟨j,j1,rfl⟩:=kV.1 hv;have q:=ea ho j j1;unfold xx at q;simp only[Zc]at q;exact QQ hl q.2.2.2.2
 have key:=GD Nf sub;have e1:cd (JQ (Iy os cs qs (ifL b x)) (laL sp lg)) (laL sp lg).length=(decide (Bw os cs qs (ifL b x)).Nodup&&decide ((Bw os cs qs (ifL b x)).length=(laL sp lg).length)):=by
  refine er ?_;rw[Zc,aa2,aa2, <-Dp.nodup_iff, <-Dp.length_eq,Qe hl,bV, <-key]
  constructor
  ·intro h v hv;obtain⟨n,n1,rfl⟩:=WT.1 hv;have q:=ea h n n1;unfold JQ at q;rw[pe n1,aa2]at q;exact q
  ·intro h;rw[cG];intro j h0 h1;have n1:j.toNat<(M0 sp lg).length:=by omega
   have q:=pe n1;rw[Zt h0]at q;unfold JQ;rw[q,aa2];exact h _ (Xu n1)
 rw[h1,h2,h3,e1];simp only[YB];exact Bool.and_comm _ _
end
end Go.V
namespace Go.V
theorem C0 {n:Int}:∀ {es:aa},Oo es->∀ m,m∈je (iT es n (.v (.bool true)))↔m∈je es\/m=n
 | [],_,m=>by
   show m∈je [[.i n,.v (.bool true)]]↔_;simp[je,Tl]
 | e::es,h,m=>by
   obtain⟨k,b,rfl⟩:=h e (by simp);have h':Oo es:=fun e he=>h e (by simp[he])
   have ih:=C0 (n:=n) h' m;rw[Dg];by_cases c:k=n
   ·rw[aa3 c];subst c;show m∈k::je es↔m∈k::je es\/m=k;simp only[Zi]
    constructor;exact fun h=>.inl h
    ·rintro(h|h);exact h;exact .inl h
   ·rw[aa4 c];show m∈k::je (iT es n (.v (.bool true)))↔m∈k::je es\/m=n;simp only[Zi,ih,or_assoc]
structure sD (es:aa)(l:List Int):Prop where
 s:lC es l
 k:∀ m,m∈je es↔m∈l
theorem QS:sD [] []:=⟨Ca,fun m=>Iff.rfl⟩
theorem GI {es:aa}{l:List Int}{n:Int}(h:sD es l):sD (iT es n (.v (.bool true))) (l++[n]):=
 ⟨sx h.s,fun m=>by rw[C0 h.s.wf,h.k,Ze,Z1]⟩
def sv (sp:aa)(i:Int):Bool:= !(decide (0<i)&&decide (ag sp i 0<=ag sp (i-1) 0))
def L8 (es:aa)(p:Int):Bool:=decide ((fpg es p).length=1)
def yx (es lg:aa)(i:Int):Bool:=sv lg i&&cd (fun k=>L8 es (ag lg i 0+k)) (ag lg i 1).toNat
def ownB (sp lg:aa)(p:Int):Bool:=decide (p∈uZ sp lg)
def mapB (es:aa)(p:Int):Bool:=decide (peM es p≠0)
def wV (es fr sp lg:aa)(p:Int):Bool:=(mapB es p==ownB sp lg p)&& !(rhB fr p==ownB sp lg p)
def GC (es sp lg:aa):Bool:=decide (∀ p∈uZ sp lg,p<es.length)
def uR (sp:aa)(i j:Int):Bool:=mshB (ag sp i 0) (ag sp i 1) (ag sp i 2) (ag sp j 0) (ag sp j 1) (ag sp j 2)
def EH (es sp:aa)(i j:Int):Bool:= !decide (peF es (ag sp i 0)=peF es (ag sp j 0))||uR sp i j
def HN (es sp:aa)(i:Int):Bool:=cd (EH es sp i) i.toNat
def Gj (es sp:aa)(i k:Int):Bool:=decide (spI sp (ag (fpg es (ag sp i 0)) k 0)=i)||(decide (0<=spI sp (ag (fpg es (ag sp i 0)) k 0))&&uR sp i (spI sp (ag (fpg es (ag sp i 0)) k 0)))
def msA (es sp:aa)(i:Int):Bool:=cd (Gj es sp i) (fpg es (ag sp i 0)).length
def pgI (es fr sp lg:aa):Bool:=cd (sv sp) sp.length&&(cd (yx es lg) lg.length&&(cd (wV es fr sp lg) es.length&&(GC es sp lg&&cd (HN es sp) sp.length)))
def pgS (es fr sp lg:aa):Bool:=cd (sv sp) sp.length&&(cd (yx es lg) lg.length&&(GC es sp lg&&cd (wV es fr sp lg) es.length))
def smS (es sp:aa):Bool:=cd (msA es sp) sp.length
section
variable {es fr sp lg m: aa} {i j k p: Int} {vs: List Int}
theorem DK (h:0<i)(g:ag sp i 0<=ag sp (i-1) 0):sv sp i=false:=by unfold sv;rw[aa0 h,aa0 g];rfl
theorem DL (h:i<=0):sv sp i=true:=by unfold sv;rw[aa1 (by omega)];rfl
theorem DN (h:ag sp (i-1) 0<ag sp i 0):sv sp i=true:=by unfold sv;rw[aa1 (p:=ag sp i 0<=_) (by omega)];simp
theorem QZ (i0:0<=i)(i1:i<sp.length)(h:sv sp i=false):pgI es fr sp lg=false:=by unfold pgI;rw[bM i0 i1 h];rfl
theorem KS (i0:0<=i)(i1:i<lg.length)(h:yx es lg i=false):pgI es fr sp lg=false:=by unfold pgI;rw[bM i0 i1 h];simp
theorem KT (i0:0<=i)(i1:i<es.length)(h:wV es fr sp lg i=false):pgI es fr sp lg=false:=by unfold pgI;rw[bM i0 i1 h];simp
theorem Q0 (h:GC es sp lg=false):pgI es fr sp lg=false:=by unfold pgI;rw[h];simp
theorem Q1 (i0:0<=i)(i1:i<sp.length)(h:HN es sp i=false):pgI es fr sp lg=false:=by unfold pgI;rw[bM i0 i1 h];simp
theorem Up {a b c d:Int}(h1:upto (sv sp) a)(g1:(sp.length:Int)<=a)(h2:upto (yx es lg) b)(g2:(lg.length:Int)<=b)(h3:upto (wV es fr sp lg) c)(g3:(es.length:Int)<=c)(h4:GC es sp lg=true)(h5:upto (HN es sp) d)(g5:(sp.length:Int)<=d):pgI es fr sp lg=true:=by
 unfold pgI;rw[bD h1 g1,bD h2 g2,bD h3 g3,h4,bD h5 g5];rfl
theorem Q7 (i0:0<=i)(i1:i<sp.length)(h:sv sp i=false):pgS es fr sp lg=false:=by unfold pgS;rw[bM i0 i1 h];rfl
theorem KU (i0:0<=i)(i1:i<lg.length)(h:yx es lg i=false):pgS es fr sp lg=false:=by unfold pgS;rw[bM i0 i1 h];simp
theorem KV (i0:0<=i)(i1:i<es.length)(h:wV es fr sp lg i=false):pgS es fr sp lg=false:=by unfold pgS;rw[bM i0 i1 h];simp
theorem Q8 (h:GC es sp lg=false):pgS es fr sp lg=false:=by unfold pgS;rw[h];simp
theorem Ur {a b c:Int}(h1:upto (sv sp) a)(g1:(sp.length:Int)<=a)(h2:upto (yx es lg) b)(g2:(lg.length:Int)<=b)(h3:upto (wV es fr sp lg) c)(g3:(es.length:Int)<=c)(h4:GC es sp lg=true):pgS es fr sp lg=true:=by
 unfold pgS;rw[bD h1 g1,bD h2 g2,bD h3 g3,h4];rfl
theorem Kx (h:sv lg i=false):yx es lg i=false:=by unfold yx;rw[h];rfl
theorem Ky (k0:0<=k)(k1:k<ag lg i 1)(h:(fpg es (ag lg i 0+k)).length≠1):yx es lg i=false:=by
 unfold yx;rw[bM (i:=k) (n:=(ag lg i 1).toNat) k0 (by omega) (show L8 es (ag lg i 0+k)=false from aa1 h),Ya]
theorem Qg (h:sv lg i=true)(g:upto (fun k=>L8 es (ag lg i 0+k)) k)(k1:ag lg i 1<=k)(n0:0<=ag lg i 1):yx es lg i=true:=by
 unfold yx;rw[h,bD g (by omega)];rfl
theorem Ke (g:upto (fun k=>L8 es (ag lg i 0+k)) k)(h:(fpg es (ag lg i 0+k)).length=1):upto (fun k=>L8 es (ag lg i 0+k)) (k+1):=aW g (aa0 h)
structure Oj (es sp lg:aa)(j:Int)(m:aa):Prop where
 ok:upto (yx es lg) j
 o:sD m (iH sp sp.length++iG lg j.toNat)
structure Oi (es sp lg:aa)(j k:Int)(m:aa):Prop where
 ok:upto (yx es lg) j
 h:sv lg j=true
 g:upto (fun k=>L8 es (ag lg j 0+k)) k
 o:sD m (iH sp sp.length++iG lg j.toNat++kZ (ag lg j 0) k.toNat)
theorem Uq (h:sD m (iH sp i.toNat))(i1:i<=sp.length)(i2:(sp.length:Int)<=i):Oj es sp lg 0 m:=⟨bC,by rw[show i.toNat=sp.length from by omega]at h;simpa[iG]using h⟩
theorem Q2 (h:Oj es sp lg j m)(g:sv lg j=true):Oi es sp lg j (ag lg j 0-ag lg j 0) m:=by
 rw[Int.sub_self];exact⟨h.ok,g,bC,by simpa[kZ]using h.o⟩
theorem Q4 (h:Oi es sp lg j (p-ag lg j 0) m)(p0:ag lg j 0<=p)(g:(fpg es p).length=1):Oi es sp lg j (p+1-ag lg j 0) (iT m p (.v (.bool true))):=by
 have e:ag lg j 0+(p-ag lg j 0)=p:=by omega
 rw[show p+1-ag lg j 0=(p-ag lg j 0)+1 from by omega];refine⟨h.ok,h.h,Ke h.g (by rw[e];exact g),?_⟩;rw[u6 (by omega),e, <-Zj];exact GI h.o
theorem Q3 (p0:ag lg j 0<=p)(p1:p<ag lg j 0+ag lg j 1)(h:(fpg es p).length≠1):yx es lg j=false:=
 Ky (k:=p-ag lg j 0) (by omega) (by omega) (by rw[show ag lg j 0+(p-ag lg j 0)=p from by omega];exact h)
theorem Q5 (h:Oi es sp lg j (p-ag lg j 0) m)(j0:0<=j)(n0:0<=ag lg j 1)(p1:p<=ag lg j 0+ag lg j 1)(p2:ag lg j 0+ag lg j 1<=p):Oj es sp lg (j+1) m:=by
 refine⟨aW h.ok (Qg h.h h.g (by omega) n0),?_⟩;have o:=h.o;rw[show(p-ag lg j 0).toNat=(ag lg j 1).toNat from by omega,Zj, <-mh j0]at o;exact o
theorem Np (h:Oj es sp lg j m)(j1:j<=lg.length)(j2:(lg.length:Int)<=j):sD m (uZ sp lg):=by
 have o:=h.o;rw[show j.toNat=lg.length from by omega]at o;exact o
theorem QT (h:sD m (uZ sp lg))(p:Int):mgbI m p=ownB sp lg p:=by
 refine er ?_;unfold ownB;rw[h.s.at_,aa2]
theorem J8 (h:mapB es p≠ownB sp lg p):wV es fr sp lg p=false:=by unfold wV;rw[beq_eq_false_iff_ne.2 h];rfl
theorem J9 (h:rhB fr p=ownB sp lg p):wV es fr sp lg p=false:=by unfold wV;rw[h];simp
theorem O9 (h:mapB es p=ownB sp lg p)(g:rhB fr p≠ownB sp lg p):wV es fr sp lg p=true:=by unfold wV;rw[h,beq_eq_false_iff_ne.2 g];simp
theorem L2 (h:mapB es p=rhB fr p)(g:mapB es p=ownB sp lg p):wV es fr sp lg p=false:=J9 (by rw[<-h,g])
theorem Pb (h:mapB es p≠rhB fr p)(g:mapB es p=ownB sp lg p):wV es fr sp lg p=true:=O9 g (fun e=>h (by rw[g,e]))
theorem Qy (p0:0<=p)(p1:p<es.length):cA .neq (ag es p 0) 0=mapB es p:=by rw[ye];unfold mapB peM;rw[aa3 (by omega)]
theorem QN (h:p∈uZ sp lg)(g:(es.length:Int)<=p):GC es sp lg=false:=aa1 (fun c=>by have:=c p h;omega)
theorem Un (o:sD m (uZ sp lg))(h:∀ k∈vs,k<es.length)(g:∀ k∈je m,k∈vs):GC es sp lg=true:=aa0 (fun p hp=>h p (g p ((o.k p).2 hp)))
theorem Sf {q:Int}(h:∀ k∈vs,k<(es.length:Int))(g:q<es.length):∀ k∈q::vs,k<(es.length:Int):=fun k hk=>by
 rcases Zi.1 hk with rfl|hk;exact g;exact h k hk
theorem Ui (j0:0<=j)(j1:j<i)(h:peF es (ag sp i 0)=peF es (ag sp j 0))(g:uR sp i j=false):HN es sp i=false:=by
 unfold HN;exact bM j0 (by omega) (by unfold EH;rw[g,aa0 h];rfl)
theorem Qu (h:peF es (ag sp i 0)≠peF es (ag sp j 0)):EH es sp i j=true:=by unfold EH;rw[aa1 h];rfl
theorem Qv (h:uR sp i j=true):EH es sp i j=true:=by unfold EH;rw[h,aaC]
theorem Uj (h:upto (EH es sp i) j)(g:i<=j)(i0:0<=i):HN es sp i=true:=by unfold HN;exact bD h (by omega)
structure HH (es sp lg:aa)(j:Int)(o:aa):Prop where
 ok:upto (yx es lg) j
 e:o=eU (iH sp sp.length++iG lg j.toNat)
 l:(iG lg j.toNat).length<=64*j.toNat
structure LA (es sp lg:aa)(j k:Int)(o:aa):Prop where
 ok:upto (yx es lg) j
 h:sv lg j=true
 g:upto (fun k=>L8 es (ag lg j 0+k)) k
 e:o=eU (iH sp sp.length++iG lg j.toNat++kZ (ag lg j 0) k.toNat)
 l:(iG lg j.toNat).length<=64*j.toNat
structure LB (sp:aa)(i:Int)(o:aa):Prop where
 ok:upto (sv sp) i
 e:o=eU (iH sp i.toNat)
variable {o: aa}
theorem UC:LB sp 0 []:=⟨bC,rfl⟩
theorem UD (h:LB sp i o):o.length=i.toNat:=by rw[h.e,bV,lc]
theorem K0 (h:LB sp i o)(i0:0<=i)(g:sv sp i=true):LB sp (i+1) (o++[[.i (ag sp i 0)]]):=⟨aW h.ok g,by rw[kI i0,eE, <-h.e];rfl⟩
theorem Uy (h:LB sp i o)(i1:i<=sp.length)(i2:(sp.length:Int)<=i):HH es sp lg 0 o:=⟨bC,by rw[h.e,show i.toNat=sp.length from by omega];simp[iG],Zd _⟩
theorem Rk (h:HH es sp lg j o)(g:sv lg j=true):LA es sp lg j 0 o:=⟨h.ok,g,bC,by rw[h.e];simp[kZ],h.l⟩
theorem Rl (h:LA es sp lg j k o)(k0:0<=k)(g:(fpg es (ag lg j 0+k)).length=1):LA es sp lg j (k+1) (o++[[.i (ag lg j 0+k)]]):=
 ⟨h.ok,h.h,Ke h.g g,by rw[u6 k0, <-Zj,eE, <-h.e];rfl,h.l⟩
theorem Rn (h:LA es sp lg j k o)(j0:0<=j)(n0:0<=ag lg j 1)(n1:ag lg j 1<=64)(k1:k<=ag lg j 1)(k2:ag lg j 1<=k):HH es sp lg (j+1) o:=by
 have l:=h.l;refine⟨aW h.ok (Qg h.h h.g k2 n0),?_,?_⟩
 ·rw[h.e,show k.toNat=(ag lg j 1).toNat from by omega,Zj, <-mh j0]
 ·rw[mh j0,Zg,nP];omega
theorem Ux (h:LA es sp lg j k o)(k1:k<=64):o.length<=sp.length+64*j.toNat+64:=by
 have l:=h.l;rw[h.e,bV,Zg,Zg,lc,nP];omega
theorem I5 (h:HH es sp lg j o)(j1:j<=lg.length)(j2:(lg.length:Int)<=j):o=eU (uZ sp lg):=by
 have e:=h.e;rw[show j.toNat=lg.length from by omega]at e;exact e
theorem KQ (hl:layOk sp lg=true){x:Int}(h:x∈uZ sp lg):0<=x/\x<=31:=by
 have F:=M1 hl;unfold uZ at h;rw[Ze,kW,nH]at h;rcases h with⟨i,i1,e⟩|⟨j,j1,e1,e2⟩
 ·have t:=gW (F.s i i1);omega
 ·have t:=iu (F.l j j1);have b:=gV t.1;omega
theorem Rm (hl:layOk sp lg=true)(h:HH es sp lg j o)(j1:j<=lg.length)(j2:(lg.length:Int)<=j)(hs:sp.length<=1073741824)(hg:lg.length<=1073741824):Rw [tI] o:=by
 have l:=h.l;rw[I5 h j1 j2];refine pf (fun x hx=>by have:=KQ hl hx;omega) ?_;unfold uZ;rw[Zg,lc];rw[show j.toNat=lg.length from by omega]at l;omega
theorem Uz (h:HH es sp lg j o)(j1:j<=lg.length)(j2:(lg.length:Int)<=j)(i0:0<=i)(i1:i<o.length)(g:(es.length:Int)<=ag o i 0):GC es sp lg=false:=by
 have e:=I5 h j1 j2;rw[e]at i1 g;obtain⟨v,q1,q2⟩:=yO i0 i1;rw[q2]at g;exact QN (Zs q1) g
theorem UB (h:HH es sp lg j o)(j1:j<=lg.length)(j2:(lg.length:Int)<=j)(g:upto (fun t=>decide (ag o t 0<es.length)) i)(i2:(o.length:Int)<=i):GC es sp lg=true:=by
 have e:=I5 h j1 j2;refine aa0 (fun p hp=>?_);obtain⟨n,n1,rfl⟩:=WT.1 hp;have n2:n<o.length:=by rw[e,bV];exact n1
 have q:=g n (by omega) (by omega);rw[aa2,e,pe n1]at q;exact q
theorem UA (h:HH es sp lg j o)(j1:j<=lg.length)(j2:(lg.length:Int)<=j)(p:Int):hasB o p=ownB sp lg p:=by
 refine er ?_;rw[I5 h j1 j2,kS];unfold ownB;rw[aa2]
theorem QE (k0:0<=k)(k1:k<(fpg es (ag sp i 0)).length)(h:spI sp (ag (fpg es (ag sp i 0)) k 0)≠i)(g:spI sp (ag (fpg es (ag sp i 0)) k 0)<0):msA es sp i=false:=by
 unfold msA;exact bM k0 k1 (by unfold Gj;rw[aa1 h,aa1 (by omega)];rfl)
theorem QF (k0:0<=k)(k1:k<(fpg es (ag sp i 0)).length)(h:spI sp (ag (fpg es (ag sp i 0)) k 0)≠i)(g:uR sp i (spI sp (ag (fpg es (ag sp i 0)) k 0))=false):msA es sp i=false:=by
 unfold msA;exact bM k0 k1 (by unfold Gj;rw[aa1 h,g];simp)
theorem Qw (h:spI sp (ag (fpg es (ag sp i 0)) k 0)=i):Gj es sp i k=true:=by unfold Gj;rw[aa0 h];rfl
theorem Qx (h:0<=spI sp (ag (fpg es (ag sp i 0)) k 0))(g:uR sp i (spI sp (ag (fpg es (ag sp i 0)) k 0))=true):Gj es sp i k=true:=by unfold Gj;rw[aa0 h,g];simp
theorem RY {p:Int}(h:0<=spI sp p):spI sp p<sp.length:=by
 obtain⟨b,_⟩:=hN h;exact b
theorem Bi {a b:Int}:bK .and Za a b=bK .and Za b a:=by
 show YT Za ((ZQ _ a&&&ZQ _ b).toNat)=YT Za ((ZQ _ b&&&ZQ _ a).toNat);rw[BitVec.and_comm]
theorem Gx:uR sp i j=uR sp j i:=by
 refine er ?_;unfold uR mshB;simp only[Zc,aa2];rw[Bi (a:=ag sp i 2)]
 constructor
 ·rintro⟨a,b,c,d,e⟩;exact⟨b,a,c.symm,fun h=>d h.symm,e⟩
 ·rintro⟨a,b,c,d,e⟩;exact⟨b,a,c.symm,fun h=>d h.symm,e⟩
theorem yI {es:aa}{f:Int}:∀ {n:Nat} {x:Int},hasB (rL es f n) x=true↔∃ k:Nat,k<n/\x=k/\ag es k 0≠0/\ag es k 1=f
 |0,x=>⟨fun h=>absurd (xk.1 h) (YC),fun⟨k,h,_⟩=>absurd h (XA _)⟩
 | n+1,x=>by
   by_cases c:ag es n 0≠0/\ag es n 1=f
   ·rw[Dq c.1 c.2,Iv,Z9,yI,Iw]
    constructor
    ·rintro(⟨k,h,e⟩|e);exact⟨k,by omega,e⟩;exact⟨n,by omega,e.symm,c⟩
    ·rintro⟨k,h,e,q⟩;by_cases d:k=n
     ·subst d;exact .inr e.symm
     ·exact .inl ⟨k,by omega,e,q⟩
   ·have c':ag es n 0=0\/ag es n 1≠f:=by
     by_cases z:ag es n 0=0;exact .inl z;exact .inr (fun e=>c ⟨z,e⟩)
    rw[GP c',yI]
    constructor
    ·rintro⟨k,h,e⟩;exact⟨k,by omega,e⟩
    ·rintro⟨k,h,e,q⟩;by_cases d:k=n
     ·subst d;exact absurd q c
     ·exact⟨k,by omega,e,q⟩
theorem sc {p x:Int}:hasB (fpg es p) x=true↔peM es p≠0/\0<=x/\x<es.length/\peM es x≠0/\peF es x=peF es p:=by
 by_cases c:peM es p=0
 ·rw[Ft c];exact⟨fun h=>absurd (xk.1 h) (YC),fun h=>absurd c h.1⟩
 ·rw[CP c];unfold pagesOn;rw[yI]
  constructor
  ·rintro⟨k,h,rfl,q1,q2⟩;refine⟨c,by omega,by omega,?_,?_⟩
   ·unfold peM;rw[aa3 (by omega)];exact q1
   ·rw[show peF es k=ag es k 1 from by unfold peF;rw[aa3 (by omega)]];exact q2
  ·rintro⟨_,h0,h1,q1,q2⟩;refine⟨x.toNat,by omega,by omega,?_,?_⟩
   ·rw[Zt h0];unfold peM at q1;rw[aa3 (by omega)]at q1;exact q1
   ·rw[Zt h0];unfold peF at q2;rw[aa3 (c:=0<=x/\x<_) (by omega)]at q2;rw[q2];rfl
theorem ym {l:aa}{x:Int}:hasB l x=true↔∃ k:Nat,k<l.length/\ag l k 0=x:=CR
theorem GQ (hl:layOk sp lg=true):pgI es fr sp lg=(pgS es fr sp lg&&smS es sp):=by
 have F:=M1 hl;unfold pgI pgS;by_cases h1:cd (sv sp) sp.length=true
 case neg=>rw[Y6]at h1;rw[h1];rfl
 by_cases h2:cd (yx es lg) lg.length=true
 case neg=>rw[Y6]at h2;rw[h2];simp
 by_cases h3:cd (wV es fr sp lg) es.length=true
 case neg=>rw[Y6]at h3;rw[h3];simp
 by_cases h4:GC es sp lg=true
 case neg=>rw[Y6]at h4;rw[h4];simp
 rw[h1,h2,h3,h4];simp only[YB];have h4':=aa5 h4;have mp:∀ q:Int,0<=q->q<es.length->(peM es q≠0↔q∈uZ sp lg):=by
  intro q q0 q1;have e:=cG.1 h3 q q0 q1;unfold wV at e;simp only[Zc,beq_iff_eq]at e;have e:=e.1;unfold mapB ownB at e
  constructor
  ·intro h;rw[aa0 h]at e;exact aa5 e.symm
  ·intro h;rw[aa0 h]at e;exact aa5 e
 have spg:∀ n:Nat,n<sp.length->ag sp n 0∈uZ sp lg:=fun n hn=>Ze.2 (.inl (kW.2 ⟨n,hn,rfl⟩))
 have spm:∀ n:Nat,n<sp.length->0<=ag sp n 0/\ag sp n 0<es.length/\peM es (ag sp n 0)≠0:=by
  intro n hn;have b:=KQ hl (spg n hn);have c:=h4' _ (spg n hn);exact⟨b.1,c,(mp _ b.1 c).2 (spg n hn)⟩
 have sat:∀ n:Nat,n<sp.length->spI sp (ag sp n 0)=n:=by
  intro n hn;have q:=nu (p:=isSp sp (ag sp n 0)) hn (ui rfl);obtain⟨q1,q2⟩:=hN q;obtain⟨m,e⟩:=Z3 q;have e':spI sp (ag sp n 0)=m:=e;rw[e]at q1 q2;have:=F.ss m n (by omega) hn (aa5 q2);rw[e',this]
 refine er ?_;unfold smS;rw[cG,cG]
 constructor
 ·intro h i i0 i1;unfold msA;rw[cG];intro k k0 k1;obtain⟨ii,rfl⟩:=Z3 i0;obtain⟨kk,rfl⟩:=Z3 k0;have hx:hasB (fpg es (ag sp ii 0)) (ag (fpg es (ag sp ii 0)) kk 0)=true:=ym.2 ⟨kk,by omega,rfl⟩;generalize hX:ag (fpg es (ag sp ii 0)) kk 0=x at hx;obtain⟨c1,c2,c3,c4,c5⟩:=sc.1 hx;have hp:=(mp x c2 c3).1 c4;unfold uZ at hp;rw[Ze,kW,nH]at hp;unfold Gj;rw[hX];rcases hp with⟨n,n1,rfl⟩|⟨j,j1,e1,e2⟩
  ·rw[sat n n1];rcases XQ n ii with c|c|c
   ·have q:=cG.1 (h ii (by omega) i1) n (by omega) (by omega);unfold EH at q;rw[c5,aa0 rfl]at q;rw[show uR sp ii n=true from by simpa using q,aa0 (p:=(0:Int)<=n) (by omega)];simp
   ·rw[c,aa0 rfl];rfl
   ·have q:=cG.1 (h n (by omega) (by omega)) ii (by omega) (by omega);unfold EH at q;rw[c5,aa0 rfl]at q;have q':uR sp n ii=true:=by simpa using q
    rw[Gx,q',aa0 (p:=(0:Int)<=n) (by omega)];simp
  ·exfalso;have t:=iu (F.l j j1);have b:=gV t.1;have q:=ea h2 j j1;unfold yx at q;simp only[Zc]at q;have q2:=cG.1 q.2 (x-ag lg j 0) (by omega) (by omega);rw[show ag lg j 0+(x-ag lg j 0)=x from by omega]at q2;have q3:=aa5 q2;have s1:=spm ii (by omega);have a1:hasB (fpg es x) x=true:=sc.2 ⟨c4,c2,c3,c4,rfl⟩;have a2:hasB (fpg es x) (ag sp ii 0)=true:=sc.2 ⟨c4,s1.1,s1.2.1,s1.2.2,c5.symm⟩;obtain⟨u,u1,u2⟩:=ym.1 a1;obtain⟨v,v1,v2⟩:=ym.1 a2;have:u=v:=by omega
   subst this;rw[u2]at v2;exact F.sl ii j (by omega) j1 (by omega) (by omega)
 ·intro h i i0 i1;unfold HN;rw[cG];intro j j0 j1;obtain⟨ii,rfl⟩:=Z3 i0;obtain⟨jj,rfl⟩:=Z3 j0;unfold EH;by_cases c:peF es (ag sp ii 0)=peF es (ag sp jj 0)
  case neg=>rw[aa1 c];rfl
  have s1:=spm ii (by omega);have s2:=spm jj (by omega);have a:hasB (fpg es (ag sp ii 0)) (ag sp jj 0)=true:=sc.2 ⟨s1.2.2,s2.1,s2.2.1,s2.2.2,c.symm⟩;obtain⟨k,k1,k2⟩:=ym.1 a;have q:=h ii (by omega) i1;unfold msA at q;have q:=ea q k k1;unfold Gj at q;rw[k2,sat jj (by omega),aa1 (p:=(jj:Int)=ii) (by omega)]at q;simp only[Bool.false_or,Zc]at q;rw[q.2,aaC]
end
end Go.V
namespace Go.V
def jobZ (k m:Int)(cs:aa)(ph nx:Int):Bool:=decide (ph=0)&&(decide (nx=0)&&(decide (k=0)&&(decide (m=0)&&decide (cs.length=0))))
def uF (sp:aa)(me:Bool)(k m:Int)(cs:aa)(ph nx:Int):Bool:=
 bif me then(jbOk k m cs ph nx&&(decide (0<=spI sp k)&&decide (0<=spI sp m)))else jobZ k m cs ph nx
def JY (cs:aa)(i:Int):Bool:=caOk (aR cs i 0)
def hpI (a0 a1 a2:aa)(a3:Int)(a4 a5 a6 a7 a8 a9 aA aB:aa)(aC:Int)(aD:aa)(aE aF aG aH:Int)(aI:Bool)(aJ aK:Int)(aL:aa)(aM aN:Int):Bool:=
 kerOk a0 a1 a2 a3 a4&&(rgOk a2.length a5&&(layOk a6 a7&&(pgI a2 a5 a6 a7&&(mailOk aA aB&&(decide (a9.length=aA.length)&&(quarOk aC aD&&(cd (JY a9) a9.length&&
  (objOk a6 a7 a8 a9 aH&&(hoI a6 a7 a8 a9 aA aB aD aF&&(inR aE 0 1073741823&&(inR aF 0 1000000&&(inR aG 0 1000&&(inR aH 1 1000000&&uF a6 aI aJ aK aL aM aN)))))))))))))
structure OC (a0 a1 a2 a4 a5 a6 a7 a8 a9 aA aB aD aL:aa):Prop where
 n:zx a6 a7 a8 a9 aA aB aD
 c:Rw [.sl [tI]] a0
 u:Rw [tB] a1
 e:Rw [tI,tI] a2
 el:a2.length<=1073741824
 r:Rw [tI] a4
 f:Rw [tI,tI] a5
 fl:a5.length<=1073741824
 j:Rw [tI] aL
 jl:aL.length<=1073741824
section
variable {a0 a1 a2: aa} {a3: Int} {a4 a5 a6 a7 a8 a9 aA aB: aa} {aC: Int} {aD: aa} {aE aF aG aH: Int} {aI: Bool} {aJ aK: Int} {aL: aa} {aM aN: Int} {i: Int}
theorem PD (h:kerOk a0 a1 a2 a3 a4=false):hpI a0 a1 a2 a3 a4 a5 a6 a7 a8 a9 aA aB aC aD aE aF aG aH aI aJ aK aL aM aN=false:=by unfold hpI;rw[h];simp
theorem PM (h:rgOk a2.length a5=false):hpI a0 a1 a2 a3 a4 a5 a6 a7 a8 a9 aA aB aC aD aE aF aG aH aI aJ aK aL aM aN=false:=by unfold hpI;rw[h];simp
theorem PE (h:layOk a6 a7=false):hpI a0 a1 a2 a3 a4 a5 a6 a7 a8 a9 aA aB aC aD aE aF aG aH aI aJ aK aL aM aN=false:=by unfold hpI;rw[h];simp
theorem Mu (h:pgI a2 a5 a6 a7=false):hpI a0 a1 a2 a3 a4 a5 a6 a7 a8 a9 aA aB aC aD aE aF aG aH aI aJ aK aL aM aN=false:=by unfold hpI;rw[h];simp
theorem PG (h:mailOk aA aB=false):hpI a0 a1 a2 a3 a4 a5 a6 a7 a8 a9 aA aB aC aD aE aF aG aH aI aJ aK aL aM aN=false:=by unfold hpI;rw[h];simp
theorem TW (h:decide (a9.length=aA.length)=false):hpI a0 a1 a2 a3 a4 a5 a6 a7 a8 a9 aA aB aC aD aE aF aG aH aI aJ aK aL aM aN=false:=by unfold hpI;rw[h];simp
theorem PL (h:quarOk aC aD=false):hpI a0 a1 a2 a3 a4 a5 a6 a7 a8 a9 aA aB aC aD aE aF aG aH aI aJ aK aL aM aN=false:=by unfold hpI;rw[h];simp
theorem TV (h:cd (JY a9) a9.length=false):hpI a0 a1 a2 a3 a4 a5 a6 a7 a8 a9 aA aB aC aD aE aF aG aH aI aJ aK aL aM aN=false:=by unfold hpI;rw[h];simp
theorem Mt (h:objOk a6 a7 a8 a9 aH=false):hpI a0 a1 a2 a3 a4 a5 a6 a7 a8 a9 aA aB aC aD aE aF aG aH aI aJ aK aL aM aN=false:=by unfold hpI;rw[h];simp
theorem Ms (h:hoI a6 a7 a8 a9 aA aB aD aF=false):hpI a0 a1 a2 a3 a4 a5 a6 a7 a8 a9 aA aB aC aD aE aF aG aH aI aJ aK aL aM aN=false:=by unfold hpI;rw[h];simp
theorem PN (h:inR aE 0 1073741823=false):hpI a0 a1 a2 a3 a4 a5 a6 a7 a8 a9 aA aB aC aD aE aF aG aH aI aJ aK aL aM aN=false:=by unfold hpI;rw[h];simp
theorem PP (h:inR aF 0 1000000=false):hpI a0 a1 a2 a3 a4 a5 a6 a7 a8 a9 aA aB aC aD aE aF aG aH aI aJ aK aL aM aN=false:=by unfold hpI;rw[h];simp
theorem PQ (h:inR aG 0 1000=false):hpI a0 a1 a2 a3 a4 a5 a6 a7 a8 a9 aA aB aC aD aE aF aG aH aI aJ aK aL aM aN=false:=by unfold hpI;rw[h];simp
theorem PR (h:inR aH 1 1000000=false):hpI a0 a1 a2 a3 a4 a5 a6 a7 a8 a9 aA aB aC aD aE aF aG aH aI aJ aK aL aM aN=false:=by unfold hpI;rw[h];simp
theorem Kp (h:(a9.length:Int)≠aA.length):hpI a0 a1 a2 a3 a4 a5 a6 a7 a8 a9 aA aB aC aD aE aF aG aH aI aJ aK aL aM aN=false:=TW (aa1 (by omega))
theorem Ko (i0:0<=i)(i1:i<a9.length)(h:caOk (aR a9 i 0)=false):hpI a0 a1 a2 a3 a4 a5 a6 a7 a8 a9 aA aB aC aD aE aF aG aH aI aJ aK aL aM aN=false:=TV (bM i0 i1 h)
theorem FC (hk:kerOk a0 a1 a2 a3 a4=true)(hr:rgOk a2.length a5=true)(hl:layOk a6 a7=true)(hp:pgI a2 a5 a6 a7=true)(hm:mailOk aA aB=true)(hn:decide (a9.length=aA.length)=true)(hq:quarOk aC aD=true)(hc:cd (JY a9) a9.length=true)(ho:objOk a6 a7 a8 a9 aH=true)(hh:hoI a6 a7 a8 a9 aA aB aD aF=true)(hs:inR aE 0 1073741823=true)(ht:inR aF 0 1000000=true)(hw:inR aG 0 1000=true)(hx:inR aH 1 1000000=true):hpI a0 a1 a2 a3 a4 a5 a6 a7 a8 a9 aA aB aC aD aE aF aG aH aI aJ aK aL aM aN=uF a6 aI aJ aK aL aM aN:=by unfold hpI;rw[hk,hr,hl,hp,hm,hn,hq,hc,ho,hh,hs,ht,hw,hx];rfl
structure VN (a0 a1 a2:aa)(a3:Int)(a4 a5 a6 a7 a8 a9 aA aB:aa)(aC:Int)(aD:aa)(aE aF aG aH:Int)(aI:Bool)(aJ aK:Int)(aL:aa)(aM aN:Int):Prop where
 k:kerOk a0 a1 a2 a3 a4=true
 r:rgOk a2.length a5=true
 l:layOk a6 a7=true
 p:pgI a2 a5 a6 a7=true
 m:mailOk aA aB=true
 n:decide (a9.length=aA.length)=true
 q:quarOk aC aD=true
 c:cd (JY a9) a9.length=true
 o:objOk a6 a7 a8 a9 aH=true
 h:hoI a6 a7 a8 a9 aA aB aD aF=true
 s:inR aE 0 1073741823=true
 t:inR aF 0 1000000=true
 w:inR aG 0 1000=true
 x:inR aH 1 1000000=true
 j:uF a6 aI aJ aK aL aM aN=true
theorem nC (h:hpI a0 a1 a2 a3 a4 a5 a6 a7 a8 a9 aA aB aC aD aE aF aG aH aI aJ aK aL aM aN=true):VN a0 a1 a2 a3 a4 a5 a6 a7 a8 a9 aA aB aC aD aE aF aG aH aI aJ aK aL aM aN:=by
 unfold hpI at h;simp only[Zc]at h;obtain⟨hk,hr,hl,hp,hm,hn,hq,hc,ho,hh,hs,ht,hw,hx,hj⟩:=h;exact⟨hk,hr,hl,hp,hm,hn,hq,hc,ho,hh,hs,ht,hw,hx,hj⟩
theorem Ks (h:jbOk aJ aK aL aM aN=false):false=uF a6 true aJ aK aL aM aN:=by unfold uF;rw[h];rfl
theorem Kt (h:spI a6 aJ<0):false=uF a6 true aJ aK aL aM aN:=by unfold uF;rw[aa1 (p:=0<=spI a6 aJ) (by omega)];simp
theorem Ku (h:jbOk aJ aK aL aM aN=true)(g:0<=spI a6 aJ):cA .geq (spI a6 aK) 0=uF a6 true aJ aK aL aM aN:=by unfold uF;rw[h,aa0 g];rfl
theorem R1 (h:cd (sA aD aF) aD.length=false)(hl:layOk a6 a7=true)(ho:objOk a6 a7 a8 a9 aH=true):hoI a6 a7 a8 a9 aA aB aD aF=false:=by rw[FA hl ho,h,Ya]
theorem PO (i0:0<=i)(i1:i<aD.length)(h:aF<ag aD i 2)(hl:layOk a6 a7=true):hpI a0 a1 a2 a3 a4 a5 a6 a7 a8 a9 aA aB aC aD aE aF aG aH aI aJ aK aL aM aN=false:=by
 by_cases ho:objOk a6 a7 a8 a9 aH=true;exact Ms (R1 (bM i0 i1 (by unfold sA;exact aa1 (by omega))) hl ho);exact Mt (by simpa using ho)
theorem PI (hl:layOk a6 a7=true)(h:pgS a2 a5 a6 a7=false):hpI a0 a1 a2 a3 a4 a5 a6 a7 a8 a9 aA aB aC aD aE aF aG aH aI aJ aK aL aM aN=false:=Mu (by rw[GQ hl,h];rfl)
theorem PH (hl:layOk a6 a7=true)(h:smS a2 a6=false):hpI a0 a1 a2 a3 a4 a5 a6 a7 a8 a9 aA aB aC aD aE aF aG aH aI aJ aK aL aM aN=false:=Mu (by rw[GQ hl,h,Ya])
theorem PC (hl:layOk a6 a7=true)(ho:objOk a6 a7 a8 a9 aH=true)(h:hoS a6 a7 a8 a9 aA aB aD=false):hpI a0 a1 a2 a3 a4 a5 a6 a7 a8 a9 aA aB aC aD aE aF aG aH aI aJ aK aL aM aN=false:=Ms (by rw[FA hl ho,h];rfl)
theorem Uo (hl:layOk a6 a7=true)(h:pgS a2 a5 a6 a7=true)(g:smS a2 a6=true):pgI a2 a5 a6 a7=true:=by rw[GQ hl,h,g];rfl
theorem TU (hl:layOk a6 a7=true)(ho:objOk a6 a7 a8 a9 aH=true)(h:hoS a6 a7 a8 a9 aA aB aD=true)(i2:(aD.length:Int)<=i)(g:upto (sA aD aF) i):hoI a6 a7 a8 a9 aA aB aD aF=true:=by rw[FA hl ho,h,bD g i2];rfl
theorem UU (h:ag aD i 2<=aF):sA aD aF i=true:=aa0 h
end
end Go.V
namespace Go.V
structure VQ (os:aa):Prop where
 w:Rw [tI,tI,tI,tI] os
 l:os.length<=1099511627776
 b:∀ i:Int,0<=i->i<os.length->0<=ag os i 1/\ag os i 1<=2000/\1<=ag os i 2/\ag os i 2<=1000
end Go.V
namespace Go.V
end Go.V
namespace Go.V
end Go.V
namespace Go.V
theorem O5 {sp lg:aa}{a:Int}(h:dnK sp lg a=1):dnI sp lg a=fk sp a/\0<=fk sp a/\fk sp a<sp.length/\zC (ag sp (fk sp a) 0) (ag sp (fk sp a) 1) (ag sp (fk sp a) 2) a=true:=by
 have q:0<=fk sp a:=by
  unfold dnK at h;by_cases w:0<=fk sp a;exact w
  ·rw[aa4 w]at h;split at h<;>omega
 have t:=hN q;change fk sp a<sp.length/\wJ sp a (fk sp a)=true at t;exact⟨by unfold dnI;rw[aa3 q],q,t.1,xG.1 t.2⟩
end Go.V
namespace Go.V
theorem HY {a b:Int}:bK .and Za a b=(sJ a&&&sJ b).toInt:=DZ _
theorem OK {m:Nat}(h:m<65536):bK .and Za (m:Int) 1=((m%2:Nat):Int):=by
 rw[HY];have e:sJ (m:Int)&&&sJ 1=BitVec.ofNat 64 (m%2):=by
  apply BitVec.eq_of_toNat_eq;unfold sJ;rw[aaD,X1,XB,XB];show(m%18446744073709551616)&&&1=_;rw[Nat.and_one_is_mod];omega
 rw[e,aaE (by rw[XB];omega),XB];omega
theorem RV {n t:Nat}(ht:t<=15):Jk .shr Za (n:Int) (t:Int)=((n/2^t:Nat):Int):=by
 show Int.fdiv (n:Int) (2^(min (t:Int).toNat 64))=_;rw[show min (t:Int).toNat 64=t by omega,Int.fdiv_eq_ediv_of_nonneg _ (Int.le_of_lt (Int.pow_pos (by omega)))];rw[Int.natCast_ediv,Int.natCast_pow];rfl
theorem Bz {b:Int}{t:Nat}(hb:0<=b)(hb2:b<65536)(ht:t<=15):hsB b t=(sJ b).getLsbD t:=by
 obtain⟨n,rfl⟩:=Z3 hb;have hs:slB (n:Int) (t:Int)=true:=Er.2 ⟨by omega,by omega,by omega⟩;have hd:n/2^t<65536:=Nat.lt_of_le_of_lt (Nat.div_le_self _ _) (by omega);unfold hsB;rw[hs,RV ht,OK hd];unfold sJ;rw[X1,aaF,Nat.testBit_eq_decide_div_mod_eq];rw[aa0 (show t<64 by omega)];simp only[YB];by_cases c:n/2^t%2=1
 ·rw[aa0 c,aa0 (by omega)]
 ·rw[aa1 c,aa1 (by omega)]
theorem yS {p k b:Int}(h:spOk p k b=true):0<=b/\b<65536:=by
 have t:=(gW h).2.2.2;unfold bmOk at t;simp only[Zc,bB]at t;obtain⟨⟨n0,n1⟩,b0,b1⟩:=t;have q:(2:Int)^(slN k).toNat<=2^16:=by
  have:=Nat.pow_le_pow_right (n:=2) (by omega) (show(slN k).toNat<=16 by omega)
  exact_mod_cast this
 have:(2:Int)^16=65536:=rfl;omega
end Go.V
namespace Go.V
structure Wo (es fr sp lg:aa):Prop where
 l:∀ j:Nat,j<lg.length->∀ q:Int,ag lg j 0<=q->q<ag lg j 0+ag lg j 1->(fpg es q).length=1
 m:∀ q:Int,0<=q->q<es.length->(peM es q≠0↔q∈uZ sp lg)
 o:∀ q∈uZ sp lg,q<es.length
 c:∀ i j:Nat,i<sp.length->j<sp.length->peF es (ag sp i 0)=peF es (ag sp j 0)->ag sp i 1=ag sp j 1
end Go.V
namespace Go.V
def VD (sp lg fl:aa):Nat->Int
 |0=>0
 |n+1=>VD sp lg fl n+clsSz (ag sp (dnI sp lg (ag fl n 0)) 1)
def V2 (s:Int):Int:=if 0<=clsOf s then clsSz (clsOf s)else s
def Vy (os:aa):Nat->Int
 |0=>0
 |n+1=>Vy os n+V2 (ag os n 2)
end Go.V
namespace Go.V
end Go.V
namespace Go.V
def VW (cs es:aa)(a:Int):Int:=ag (aR cs (peF es (a/16)) 0) (a%16) 0
def Vl (cs es:aa)(a:Int):Nat->aa
 |0=>[]
 |n+1=>Vl cs es a n++[[.i (VW cs es (a+n))]]
structure Wa (cs es:aa)(a i:Int)(o:aa):Prop where
 e:o=Vl cs es a i.toNat
structure Wm (cs es os:aa):Prop where
 b:VQ os
 f:∀ j:Int,0<=j->j<os.length->∀ i:Int,0<=i->i<ag os j 2->0<=peF es ((ag os j 1+i)/16)/\peF es ((ag os j 1+i)/16)<cs.length/\(aR cs (peF es ((ag os j 1+i)/16)) 0).length=16
end Go.V
namespace Go.V
end Go.V
namespace Go.V
def Jj (k b:Int):Nat->aa
 |0=>[]
 |n+1=>if hsB b ((n:Int)/clsSz k)=true then Jj k b n++[[.i n]]else Jj k b n
def UX (p k b:Int):aa:=if spOk p k b=true then Jj k b 16 else[]
structure VR (k b i:Int)(o:aa):Prop where
 e:o=Jj k b i.toNat
def UV (sp:aa):Nat->Int
 |0=>0
 |n+1=>UV sp n+(UX (ag sp n 0) (ag sp n 1) (ag sp n 2)).length
def Vt (lg:aa):Nat->Int
 |0=>0
 |n+1=>Vt lg n+ag lg n 2
def LS (ls:aa):Nat->Int
 |0=>0
 |n+1=>LS ls n+(aR ls n 0).length*clsSz n
end Go.V
namespace Go.V
structure Wh (f:Int->Bool)(o:aa):Prop where
 w:Rw [tB] o
 l:o.length=16
 v:∀ c:Int,0<=c->c<16->od o c 0=f c
end Go.V
namespace Go.V
def VV (ls:aa):Int:=if caOk ls=true then LS ls ls.length else 0
structure VL (ls:aa)(i t:Int):Prop where
 e:t=LS ls i.toNat
def Vj (cs:aa):Nat->Int
 |0=>0
 |n+1=>Vj cs n+VV (aR cs n 0)
structure V8 (cs:aa)(i t:Int):Prop where
 e:t=Vj cs i.toNat
structure Wn (os:aa)(i t:Int):Prop where
 e:t=Vy os i.toNat
structure Wp (sp lg fl:aa)(i t:Int):Prop where
 e:t=VD sp lg fl i.toNat
structure VT (sp:aa)(i t:Int):Prop where
 e:t=UV sp i.toNat
structure VO (sp lg:aa)(i t:Int):Prop where
 e:t=UV sp sp.length+Vt lg i.toNat
def zlI (es:aa):Int:=es.length
end Go.V
namespace Go.V
section
variable {r0 r1 r2 r3 r4 r5 r6 r7 r8 r9 r10 r11 r12: aa}
theorem Fc {n:Nat}(h:av [r0,r1,r2,r3,r4,r5,r6,r7,r8,r9,r10,r11,r12]<=n):ah r0<=n/\ah r1<=n/\ah r2<=n/\ah r3<=n/\ah r4<=n/\ah r5<=n/\ah r6<=n/\ah r7<=n/\ah r8<=n/\ah r9<=n/\ah r10<=n/\ah r11<=n/\ah r12<=n:=⟨dK h (by simp),dK h (by simp),dK h (by simp),dK h (by simp),dK h (by simp),dK h (by simp),dK h (by simp),dK h (by simp),dK h (by simp),dK h (by simp),dK h (by simp),dK h (by simp),dK h (by simp)⟩
theorem KE (h0:Rw [.sl [tI]] r0)(h1:Rw [tB] r1)(h2:Rw [tI,tI] r2)(h3:Rw [tI] r3)(h4:Rw [tI,tI] r4)(h5:Rw [tI,tI,tI] r5)(h6:Rw [tI,tI,tI] r6)(h7:Rw [tI,tI,tI,tI] r7)(h8:Rw [.sl [.sl [tI]]] r8)(h9:Rw [.sl [tI,tI]] r9)(h10:Rw [.sl [tI]] r10)(h11:Rw [tI,tI,tI] r11)(h12:Rw [tI] r12)(hc:av [r0,r1,r2,r3,r4,r5,r6,r7,r8,r9,r10,r11,r12]<=1099511627776):au [r0,r1,r2,r3,r4,r5,r6,r7,r8,r9,r10,r11,r12] 1<=1152921504606846976:=Gl (by intro r hr;simp only[Zi,YC,or_false]at hr;rcases hr with rfl|rfl|rfl|rfl|rfl|rfl|rfl|rfl|rfl|rfl|rfl|rfl|rfl;exact h0.marks (by decide);exact h1.marks (by decide);exact h2.marks (by decide);exact h3.marks (by decide);exact h4.marks (by decide);exact h5.marks (by decide);exact h6.marks (by decide);exact h7.marks (by decide);exact h8.marks (by decide);exact h9.marks (by decide);exact h10.marks (by decide);exact h11.marks (by decide);exact h12.marks (by decide)) hc
def Ul (p:List aa):List aa->Prop
 |[]=>True
 |r::rs=>aU r (au p 1)=aU r (au (Au p 1) 1)/\Ul (p++[r]) rs
theorem Gs:∀ (p rs:List aa),Ul p rs
 |_,[]=>True.intro
 |p,_::rs=>⟨congrArg _ uG.symm,Gs (p++_) rs⟩
theorem Uk (h0:Rw [.sl [tI]] r0)(h1:Rw [tB] r1)(h2:Rw [tI,tI] r2)(h3:Rw [tI] r3)(h4:Rw [tI,tI] r4)(h5:Rw [tI,tI,tI] r5)(h6:Rw [tI,tI,tI] r6)(h7:Rw [tI,tI,tI,tI] r7)(h8:Rw [.sl [.sl [tI]]] r8)(h9:Rw [.sl [tI,tI]] r9)(h10:Rw [.sl [tI]] r10)(h11:Rw [tI,tI,tI] r11)(h12:Rw [tI] r12)(hc:av [r0,r1,r2,r3,r4,r5,r6,r7,r8,r9,r10,r11,r12]<=1099511627776):au [r0,r1,r2,r3,r4,r5,r6,r7,r8,r9,r10,r11,r12] 1<=1152921504606846976/\Ul [r0] [r1,r2,r3,r4,r5,r6,r7,r8,r9,r10,r11,r12]/\au (Au [r0,r1,r2,r3,r4,r5,r6,r7,r8,r9,r10,r11,r12] 1) 1=au [r0,r1,r2,r3,r4,r5,r6,r7,r8,r9,r10,r11,r12] 1/\(ah r0<=1099511627776/\ah r1<=1099511627776/\ah r2<=1099511627776/\ah r3<=1099511627776/\ah r4<=1099511627776/\ah r5<=1099511627776/\ah r6<=1099511627776/\ah r7<=1099511627776/\ah r8<=1099511627776/\ah r9<=1099511627776/\ah r10<=1099511627776/\ah r11<=1099511627776/\ah r12<=1099511627776):=
 ⟨KE h0 h1 h2 h3 h4 h5 h6 h7 h8 h9 h10 h11 h12 hc,Gs _ _,uG,Fc hc⟩
end
end Go.V
namespace Go.V
def Vm (b:aa)(f:Int):Int:=ag (aR b f 0) 0 0
structure Wb (b x:aa)(f:Int):Prop where
 m:mailOk b x=true
 f0:0<=f
 f1:f<b.length
 n:0<(aR b f 0).length
 t0:0<=Vm b f
 t1:Vm b f<b.length
 l:x.length=b.length
end Go.V
namespace Go.V
structure Wd (cs us es:aa)(a:Int):Prop where
 a0:0<=a
 m:VH cs us es a=peM es (a/16)
 f:V6 cs us es a=peF es (a/16)
 n:VH cs us es a≠0
section
variable {a0 a1 a2: aa} {a3: Int} {a4 a5 a6 a7 a8 a9 aA aB: aa} {aC: Int} {aD: aa} {aE aF aG aH: Int} {aI: Bool} {aJ aK: Int} {aL: aa} {aM aN: Int}
end
end Go.V
namespace Go.V
abbrev Pr :=Int×Int
def xp (o:List Pr)(x:Pr):List Pr:=match o.getLast? with
 |some y=>if y.1+y.2=x.1 then o.dropLast++[(y.1,y.2+x.2)]else o++[x]
 |none=>o++[x]
def Vr (l:List Pr):List Pr:=l.foldl xp []
structure Ip where
 o:List Pr
 r:Pr
 d:Bool
def xo (s:Ip)(x:Pr):Ip:=
 if x.1+x.2=s.r.1 then⟨s.o,(x.1,x.2+s.r.2),s.d⟩
 else if s.r.1+s.r.2=x.1 then⟨s.o,(s.r.1,s.r.2+x.2),s.d⟩
 else if s.r.1<x.1/\s.d=false then⟨s.o++[s.r,x],s.r,true⟩
 else⟨s.o++[x],s.r,s.d⟩
def Or (s:Ip):List Pr:=if s.d then s.o else s.o++[s.r]
def Tj (l:List Pr)(r:Pr):List Pr:=Or (l.foldl xo ⟨[],r,false⟩)
structure Sp where
 o:List Pr
 d:Bool
def nT (r:Pr)(s:Sp)(x:Pr):Sp:=if s.d=false/\r.1<x.1 then⟨s.o++[r]++[x],true⟩else⟨s.o++[x],s.d⟩
def Jd (r:Pr)(s:Sp):List Pr:=if s.d then s.o else s.o++[r]
def VG (l:List Pr)(r:Pr):List Pr:=Vr (Jd r (l.foldl (nT r) ⟨[],false⟩))
def yc:List Pr->Prop
 |[]=>True
 |[x]=>0<x.2
 |x::y::l=>0<x.2/\x.1+x.2<y.1/\yc (y::l)
theorem t8 {x:Pr}{l:List Pr}(h:yc (x::l)):yc l:=by
 cases l with
 |nil=>trivial
 |cons y l=>exact h.2.2
theorem t6 {x:Pr}{l:List Pr}(h:yc (x::l)):0<x.2:=by
 cases l with
 |nil=>exact h
 |cons y l=>exact h.1
theorem t7 {x:Pr}:∀ {l:List Pr},yc (x::l)->∀ y∈l,x.1+x.2<y.1
 |[],_,y,hy=>by cases hy
 | z::l,h,y,hy=>by
   rcases Zi.1 hy with rfl|hy;exact h.2.1
   ·have:=t7 h.2.2 y hy;have:=t6 h.2.2;have:=h.2.1;omega
theorem uD {o:List Pr}{x:Pr}(h:∀ y,o.getLast?=some y->y.1+y.2≠x.1):xp o x=o++[x]:=by
 unfold xp;split
 ·rename_i y e;rw[aa4 (h y e)]
 ·rfl
theorem yu {o:List Pr}{y x:Pr}(h:y.1+y.2=x.1):xp (o++[y]) x=o++[(y.1,y.2+x.2)]:=by
 unfold xp;rw[WU,WV];simp only[Option.some_or,aa3 h,List.dropLast_concat]
theorem MN {o:List Pr}{y x:Pr}(h:y.1+y.2≠x.1):xp (o++[y]) x=o++[y]++[x]:=uD (by
 intro z hz;rw[WU,WV]at hz;simp at hz;subst hz;exact h)
theorem uE:∀ {l o:List Pr} {y:Pr},yc (y::l)->l.foldl xp (o++[y])=o++[y]++l
 |[],o,y,_=>by simp
 | x::l,o,y,h=>by
   have e:y.1+y.2<x.1:=h.2.1;rw[ZI,MN (by omega),uE (t8 h)];simp
theorem CV:∀ {l:List Pr} {o:List Pr} {r:Pr},(∀ y∈l,r.1+r.2<y.1/\r.1<y.1+y.2)->l.foldl xo ⟨o,r,true⟩=⟨o++l,r,true⟩
 |[],o,r,_=>by simp
 | x::l,o,r,h=>by
   have e:=h x (by simp);rw[ZI];have s:xo ⟨o,r,true⟩ x=⟨o++[x],r,true⟩:=by
    unfold xo;rw[aa4 (by show¬ x.1+x.2=r.1;omega),aa4 (by show¬ r.1+r.2=x.1;omega),aa4 (by simp)]
   rw[s,CV (fun y hy=>h y (by simp[hy]))];simp
theorem rV:∀ {l:List Pr},yc l->∀ y∈l,0<y.2
 |[],_,y,hy=>by cases hy
 | x::l,h,y,hy=>by
   rcases Zi.1 hy with rfl|hy;exact t6 h;exact rV (t8 h) y hy
theorem FO {l o:List Pr}{r x:Pr}(h:yc (x::l))(e:r.1+r.2<x.1)(p:0<r.2):Or ((x::l).foldl xo ⟨o,r,false⟩)=o++[r]++(x::l):=by
 have q:=t6 h;have s:xo ⟨o,r,false⟩ x=⟨o++[r,x],r,true⟩:=by
  unfold xo;rw[aa4 (by show¬ x.1+x.2=r.1;omega),aa4 (by show¬ r.1+r.2=x.1;omega),aa3 (by exact⟨by show r.1<x.1;omega,rfl⟩)]
 rw[ZI,s,CV (fun y hy=>by have:=t7 h y hy;have:=rV h y (by simp[hy]);constructor<;>omega)];simp[Or]
theorem LU {x y:Pr}{l:List Pr}(h:yc (x::l))(p:0<y.2)(e:y.1+y.2=x.1+x.2):yc (y::l):=by
 cases l with
 |nil=>exact p
 |cons z l=>exact⟨p,by have:=h.2.1;omega,h.2.2⟩
theorem Ib {y x:Pr}{l:List Pr}(h:yc (x::l))(p:0<y.2)(e:y.1+y.2<x.1):yc (y::x::l):=⟨p,e,h⟩
theorem Am {l o:List Pr}{r:Pr}(h:yc l)(p:0<r.2)(a:∀ y∈l,r.1+r.2<=y.1):Or (l.foldl xo ⟨o,r,false⟩)=l.foldl xp (o++[r]):=by
 cases l with
 |nil=>rfl
 | cons x l=>
   have ax:=a x (by simp);by_cases e:r.1+r.2=x.1
   ·have q:=t6 h;have s:xo ⟨o,r,false⟩ x=⟨o,(r.1,r.2+x.2),false⟩:=by
     unfold xo;rw[aa4 (by show¬ x.1+x.2=r.1;omega),aa3 (by exact e)]
    rw[ZI,ZI,s,yu e];cases l with
    |nil=>rfl
    | cons y l=>
      have d:=h.2.1;rw[FO h.2.2 (by show r.1+(r.2+x.2)<y.1;omega) (by show 0<r.2+x.2;omega),uE (LU h (by show 0<r.2+x.2;omega) (by show r.1+(r.2+x.2)=x.1+x.2;omega))]
   ·rw[FO h (by omega) p,uE (Ib h p (by omega))]
theorem B9 {r:Pr}:∀ {l a:List Pr},Jd r (l.foldl (nT r) ⟨a,false⟩)=a++Jd r (l.foldl (nT r) ⟨[],false⟩)
 |[],a=>by simp[Jd]
 | x::l,a=>by
   have put:∀ (m b:List Pr),m.foldl (nT r) ⟨b,true⟩=⟨b++m,true⟩:=by
    intro m
    induction m with
    |nil=>intro b;simp
    | cons y m ih=>
      intro b;rw[ZI,show nT r ⟨b,true⟩ y=⟨b++[y],true⟩from by unfold nT;rw[aa4 (by simp)],ih];simp
   rw[ZI,ZI];by_cases c:r.1<x.1
   ·rw[show nT r ⟨a,false⟩ x=⟨a++[r]++[x],true⟩from by unfold nT;rw[aa3 ⟨rfl,c⟩],show nT r ⟨[],false⟩ x=⟨[]++[r]++[x],true⟩from by unfold nT;rw[aa3 ⟨rfl,c⟩],put,put];simp[Jd]
   ·rw[show nT r ⟨a,false⟩ x=⟨a++[x],false⟩from by unfold nT;rw[aa4 (fun q=>c q.2)],show nT r ⟨[],false⟩ x=⟨[]++[x],false⟩from by unfold nT;rw[aa4 (fun q=>c q.2)],B9 (a:=a++[x]),B9 (a:=[]++[x])];simp
theorem AG {r:Pr}{l:List Pr}(a:∀ y∈l,r.1<y.1):Jd r (l.foldl (nT r) ⟨[],false⟩)=r::l:=by
 cases l with
 |nil=>rfl
 | cons x l=>
   have put:∀ (m b:List Pr),m.foldl (nT r) ⟨b,true⟩=⟨b++m,true⟩:=by
    intro m
    induction m with
    |nil=>intro b;simp
    | cons y m ih=>
      intro b;rw[ZI,show nT r ⟨b,true⟩ y=⟨b++[y],true⟩from by unfold nT;rw[aa4 (by simp)],ih];simp
   rw[ZI,show nT r ⟨[],false⟩ x=⟨[]++[r]++[x],true⟩from by unfold nT;rw[aa3 ⟨rfl,a x (by simp)⟩],put];simp[Jd]
theorem Ha {r:Pr}(p:0<r.2):∀ {l o:List Pr},yc l->(∀ x∈l,¬ (x.1<r.1+r.2/\r.1<x.1+x.2))->(∀ y,o.getLast?=some y->y.1+y.2<r.1/\∀ x∈l,y.1+y.2<x.1)->
 Or (l.foldl xo ⟨o,r,false⟩)=(Jd r (l.foldl (nT r) ⟨[],false⟩)).foldl xp o
 | [],o,_,_,ho=>by
   show o++[r]=xp o r;rw[uD (fun y hy=>by have:=(ho y hy).1;omega)]
 | x::l,o,h,no,ho=>by
   have nx:=no x (by simp);have px:=t6 h;by_cases c:r.1<x.1
   ·have af:∀ y∈x::l,r.1+r.2<=y.1:=fun y hy=>by
     have:=no y hy;have:=rV h y hy;rcases Zi.1 hy with rfl|q;omega
     ·have:=t7 h y q;omega
    rw[Am h p af,AG (fun y hy=>by have:=af y hy;omega),ZI (a:=r),uD (x:=r) (fun y hy=>by have:=(ho y hy).1;omega)]
   ·have e:x.1+x.2<=r.1:=by omega
    have jx:xp o x=o++[x]:=uD (fun y hy=>by have:=(ho y hy).2 x (by simp);omega);have af:∀ y∈l,x.1+x.2<y.1:=t7 h;rw[ZI,ZI (f:=nT r),show nT r ⟨[],false⟩ x=⟨[x],false⟩from by unfold nT;rw[aa4 (fun q=>c q.2)];rfl,B9 (a:=[x]),YU,ZI,YQ,jx];by_cases t:x.1+x.2=r.1
    ·rw[show xo ⟨o,r,false⟩ x=⟨o,(x.1,x.2+r.2),false⟩from by unfold xo;rw[aa3 (by exact t)]];have af2:∀ y∈l,r.1+r.2<=y.1:=fun y hy=>by
      have:=no y (by simp[hy]);have:=rV h y (by simp[hy]);have:=af y hy;omega
     rw[Am (t8 h) (by show 0<x.2+r.2;omega) (fun y hy=>by have:=af2 y hy;show x.1+(x.2+r.2)<=y.1;omega),AG (fun y hy=>by have:=af y hy;omega),ZI,yu t]
    ·rw[show xo ⟨o,r,false⟩ x=⟨o++[x],r,false⟩from by unfold xo;rw[aa4 (by exact t),aa4 (by show¬ r.1+r.2=x.1;omega),aa4 (fun q=>c q.1)]];exact Ha p (t8 h) (fun y hy=>no y (by simp[hy])) (fun y hy=>by
      rw[WU,WV]at hy;simp at hy;subst hy;exact⟨by omega,af⟩)
theorem Ry {r:Pr}{l:List Pr}(h:yc l)(p:0<r.2)(no:∀ x∈l,¬ (x.1<r.1+r.2/\r.1<x.1+x.2)):Tj l r=VG l r:=Ha p h no (fun y hy=>by cases hy)
end Go.V
namespace Go.V
structure vM (cs us es:aa):Prop where
 n0:1<=cs.length
 n1:cs.length<=32
 u:us.length=cs.length
 l:∀ i:Int,0<=i->i<cs.length->(aR cs i 0).length=16
 c:∀ i k:Int,0<=i->i<cs.length->0<=k->k<16->0<=ag (aR cs i 0) k 0/\ag (aR cs i 0) k 0<=999/\(od us i 0=false->ag (aR cs i 0) k 0=0)
 e0:1<=es.length
 e1:es.length<=32
 e:∀ i:Int,0<=i->i<es.length->0<=ag es i 0/\ag es i 0<=2/\(ag es i 0=0->ag es i 1=0)/\(0<ag es i 0->0<=ag es i 1/\ag es i 1<cs.length)
 m:∀ i:Int,0<=i->i<cs.length->od us i 0=eg es i
theorem M4 {cs us es:aa}(h:machOk cs us es=true):vM cs us es:=by
 obtain⟨h1,h2,h3⟩:=Qz h;have a:=uo h1;have b:=vz h2;refine⟨a.2.1,a.2.2,a.1,fun i i0 i1=>Pm h1 i0 i1,fun i k i0 i1 k0 k1=>?_,b.1,b.2,fun i i0 i1=>R3 h2 i0 i1,h3⟩;have q:=h1;unfold framesOk at q;simp only[Zc,aa2]at q;have r:=cG.1 q.2 i i0 i1;unfold eD at r;simp only[Zc,aa2]at r;have s:=cG.1 r.2 k k0 (by omega);unfold ip at s;simp only[Zc,Z9,aa2]at s;have t:=bB.1 s.1;refine⟨t.1,t.2,fun f=>?_⟩;rcases s.2 with w|w
 ·rw[f]at w;cases w
 ·exact w
theorem M5 {cs us es:aa}(h:vM cs us es):machOk cs us es=true:=by
 have f:framesOk cs us=true:=Fv (i:=cs.length) (bB.2 ⟨by have:=h.n0;omega,by have:=h.n1;omega⟩) h.u (fun i i0 i1=>Kh (k:=16) (h.l i i0 i1) (fun k k0 k1=>by
  have c:=h.c i k i0 i1 k0 k1;refine J0 (bB.2 ⟨c.1,c.2.1⟩) ?_;cases q:od us i 0 with
  |true=>exact .inl rfl
  |false=>exact .inr (c.2.2 q)) (Yn _)) (Yn _)
 have t:tableOk es us.length=true:=by
  rw[Hq (i:=es.length) (fun i i0 i1=>Lf (by have:=h.e i i0 i1;rw[h.u];exact this)) (Yn _)];exact bB.2 ⟨by have:=h.e0;omega,by have:=h.e1;omega⟩
 exact BL (i:=us.length) f t (fun i i0 i1=>Gp (h.m i i0 (by rw[h.u]at i1;exact i1))) (Yn _)
theorem Gr {es:aa}{f:Int}:∀ {n:Nat},0<(rL es f n).length↔∃ i:Nat,i<n/\ag es i 0≠0/\ag es i 1=f
 |0=>⟨fun h=>absurd h (Nat.lt_irrefl _),fun⟨i,h,_⟩=>absurd h (by omega)⟩
 | n+1=>by
   by_cases c:ag es n 0≠0/\ag es n 1=f
   ·rw[rL,aa3 c,Zg];exact⟨fun _=>⟨n,by omega,c⟩,fun _=>by simp only[Zq,Zz];omega⟩
   ·rw[rL,aa4 c,Gr (n:=n)]
    constructor
    ·rintro⟨i,h,q⟩;exact⟨i,by omega,q⟩
    ·rintro⟨i,h,q⟩;by_cases z:i=n
     ·subst z;exact absurd q c
     ·exact⟨i,by omega,q⟩
theorem uJ {es:aa}{f:Int}:eg es f=true↔∃ i:Nat,i<es.length/\ag es i 0≠0/\ag es i 1=f:=yz.trans Gr
theorem uq {es:aa}{n i:Nat}{r:ay}(h:n<es.length):(es.set n r).getD i []=if i=n then r else es.getD i []:=by
 simp only[Zp,List.getElem?_set];by_cases c:n=i
 ·subst c;rw[aa3 rfl,aa3 h,aa3 rfl];rfl
 ·rw[aa4 c,aa4 (Ne.symm c)]
theorem Mg {es:aa}{n i:Int}{r:ay}{j:Nat}(n0:0<=n)(n1:n<es.length)(i0:0<=i):ag (es.set n.toNat r) i j=if i=n then IK (r.getD j .g)else ag es i j:=by
 unfold ag;rw[uq (by omega)];by_cases c:i=n
 ·rw[aa3 (by omega),aa3 c]
 ·rw[aa4 (by omega),aa4 c]
theorem Vo {es:aa}{n i:Int}{r:ay}{j:Nat}(n0:0<=n)(n1:n<es.length)(i0:0<=i):od (es.set n.toNat r) i j=if i=n then Ud (r.getD j .g)else od es i j:=by
 unfold od;rw[uq (by omega)];by_cases c:i=n
 ·rw[aa3 (by omega),aa3 c]
 ·rw[aa4 (by omega),aa4 c]
theorem Vq {es:aa}{n i:Int}{r:ay}{j:Nat}(n0:0<=n)(n1:n<es.length)(i0:0<=i):aR (es.set n.toNat r) i j=if i=n then EG (r.getD j .g)else aR es i j:=by
 unfold aR;rw[uq (by omega)];by_cases c:i=n
 ·rw[aa3 (by omega),aa3 c]
 ·rw[aa4 (by omega),aa4 c]
def xL (es:aa)(p:Int):aa:=es.set p.toNat [.i 0,.i 0]
def dfU (us es:aa)(f:Int):aa:=if eg es f=true then us else us.set f.toNat [.v (.bool false)]
def dfC (cs es:aa)(f:Int):aa:=if eg es f=true then cs else cs.set f.toNat [.s 1 (jq 16 [.i 0])]
theorem Iu {k:Int}(k0:0<=k)(k1:k<16):ag (jq 16 [.i 0]) k 0=0:=by
 show ag (ZP 16 [L.i 0]) k 0=0;unfold ag;rw[Zp (l:=ZP _ _),List.getElem?_replicate,aa3 (by omega)];rfl
theorem O3 {cs us es es':aa}{f:Int}(h:vM cs us es)(f0:0<=f)(f1:f<cs.length)(l:es'.length=es.length) 
 (e:∀ i:Int,0<=i->i<es.length->0<=ag es' i 0/\ag es' i 0<=2/\(ag es' i 0=0->ag es' i 1=0)/\(0<ag es' i 0->0<=ag es' i 1/\ag es' i 1<cs.length))
 (m:∀ i:Int,0<=i->i<cs.length->i≠f->eg es' i=eg es i) (g:eg es' f=true->eg es f=true):vM (dfC cs es' f) (dfU us es' f) es':=by
 unfold dfC dfU;by_cases q:eg es' f=true
 ·rw[aa3 q,aa3 q];refine⟨h.n0,h.n1,h.u,h.l,h.c,by rw[l];exact h.e0,by rw[l];exact h.e1,fun i i0 i1=>e i i0 (by omega),fun i i0 i1=>?_⟩;by_cases c:i=f
  ·rw[c,q,h.m f f0 f1,g q]
  ·rw[m i i0 i1 c];exact h.m i i0 i1
 ·have hu:=h.u;rw[aa4 q,aa4 q];refine⟨by rw[Z6];exact h.n0,by rw[Z6];exact h.n1,by rw[Z6,Z6];exact h.u,fun i i0 i1=>?_,fun i k i0 i1 k0 k1=>?_,by rw[l];exact h.e0,by rw[l];exact h.e1,fun i i0 i1=>by rw[Z6];exact e i i0 (by omega),fun i i0 i1=>?_⟩
  ·rw[Z6]at i1;rw[Vq f0 f1 i0];split;rfl;exact h.l i i0 i1
  ·rw[Z6]at i1;rw[Vq f0 f1 i0,Vo f0 (by omega) i0];split
   ·show 0<=ag (jq 16 [.i 0]) k 0/\ag (jq 16 [.i 0]) k 0<=999/\(_->ag (jq 16 [.i 0]) k 0=0);rw[Iu k0 k1];exact⟨by omega,by omega,fun _=>rfl⟩
   ·exact h.c i k i0 i1 k0 k1
  ·rw[Z6]at i1;rw[Vo f0 (by omega) i0];split
   ·rename_i c;subst c;show false=_;cases z:eg es' i with
    |false=>rfl
    |true=>exact absurd z q
   ·rename_i c;rw[m i i0 i1 c];exact h.m i i0 i1
theorem R9 {cs us es:aa}{p:Int}(h:vM cs us es)(hp:peM es p≠0):vM (dfC cs (xL es p) (peF es p)) (dfU us (xL es p) (peF es p)) (xL es p):=by
 have pr:0<=p/\p<es.length:=by
  by_cases c:0<=p/\p<es.length;exact c;exact absurd (Do c).1 hp
 have em:peM es p=ag es p 0:=by unfold peM;rw[aa3 pr]
 have ef:peF es p=ag es p 1:=by unfold peF;rw[aa3 pr]
 rw[em]at hp;have ep:=h.e p pr.1 pr.2;have fr:=ep.2.2.2 (by omega);rw[ef];have z:∀ i:Int,0<=i->ag (xL es p) i 0=(if i=p then 0 else ag es i 0)/\ag (xL es p) i 1=if i=p then 0 else ag es i 1:=fun i i0=>⟨Mg pr.1 pr.2 i0,Mg pr.1 pr.2 i0⟩
 have lu:(xL es p).length=es.length:=Z6;have mp:∀ f:Int,eg (xL es p) f=true↔∃ i:Nat,i<es.length/\(i:Int)≠p/\ag es i 0≠0/\ag es i 1=f:=fun f=>by
  rw[uJ,lu]
  constructor
  ·rintro⟨i,i1,a,b⟩;rw[(z i (by omega)).1]at a;rw[(z i (by omega)).2]at b;by_cases c:(i:Int)=p
   ·rw[aa3 c]at a;exact absurd rfl a
   ·rw[aa4 c]at a b;exact⟨i,i1,c,a,b⟩
  ·rintro⟨i,i1,c,a,b⟩;exact⟨i,i1,by rw[(z i (by omega)).1,aa4 c];exact a,by rw[(z i (by omega)).2,aa4 c];exact b⟩
 refine O3 h fr.1 fr.2 lu (fun i i0 i1=>?_) (fun i i0 i1 ne=>?_) (fun q=>?_)
 ·rw[(z i i0).1,(z i i0).2];split;exact⟨by omega,by omega,fun _=>rfl,fun q=>by omega⟩;exact h.e i i0 i1
 ·rw[WW,mp,uJ]
  constructor
  ·rintro⟨i,i1,_,a,b⟩;exact⟨i,i1,a,b⟩
  ·rintro⟨k,k1,a,b⟩;refine⟨k,k1,fun c=>?_,a,b⟩;rw[c]at b;exact ne b.symm
 ·obtain⟨i,i1,_,a,b⟩:=(mp _).1 q;exact uJ.2 ⟨i,i1,a,b⟩
end Go.V
namespace Go.V
theorem QX {es:aa}{p:Int}(h:peM es p≠0):(0<=p/\p<es.length)/\peM es p=ag es p 0/\peF es p=ag es p 1:=by
 have pr:0<=p/\p<es.length:=by
  by_cases c:0<=p/\p<es.length;exact c;exact absurd (Do c).1 h
 exact⟨pr,by unfold peM;rw[aa3 pr],by unfold peF;rw[aa3 pr]⟩
def V5 (es:aa)(p m f:Int):aa:=es.set p.toNat [.i m,.i f]
end Go.V
namespace Go.V
def Va (e:ay):Pr:=(IK (e.getD 0 .g),IK (e.getD 1 .g))
def gX (es:aa):List Pr:=es.map Va
def VX (p:Pr):ay:=[.i p.1,.i p.2]
def rowP (l:List Pr):aa:=l.map VX
theorem li {es:aa}:(gX es).length=es.length:=YG _
theorem nS {l:List Pr}:(rowP l).length=l.length:=YG _
theorem dG {es:aa}{i:Int}(i0:0<=i)(i1:i<es.length):(gX es)[i.toNat]?=some (ag es i 0,ag es i 1):=by
 unfold gX ag;rw[List.getElem?_map,Zp (l:=es),Zx (by omega)];rfl
theorem Ju {es:aa}{x:Pr}(h:x∈gX es):∃ i:Nat,i<es.length/\x=(ag es i 0,ag es i 1):=by
 obtain⟨i,hi,e⟩:=WQ h;rw[li]at hi;refine⟨i,hi,?_⟩;have q:=dG (es:=es) (i:=(i:Int)) (by omega) (by omega);rw[ZG,Zx (by rw[li];exact hi)]at q;rw[<-e];exact YF q
theorem sr {l:List Pr}(h:∀ x∈l,(-9223372036854775808<=x.1/\x.1<=9223372036854775807)/\(-9223372036854775808<=x.2/\x.2<=9223372036854775807))(n:l.length<=maxLen):Rw [tI,tI] (rowP l):=⟨by rw[nS];exact n,fun e he=>by
 obtain⟨x,hx,rfl⟩:=ZM.1 he;exact⟨⟨rfl,(h x hx).1⟩,⟨rfl,(h x hx).2⟩,trivial⟩⟩
theorem dC {a b:List Pr}:rowP (a++b)=rowP a++rowP b:=YN
theorem E7:∀ {l:List Pr},(∀ x∈l,0<x.2)->(∀ i:Nat,i+1<l.length->∀ x y,l[i]?=some x->l[i+1]?=some y->x.1+x.2<y.1)->yc l
 |[],_,_=>trivial
 |[x],h,_=>h x (by simp)
 |x::y::l,h,g=>⟨h x (by simp),g 0 (by simp) x y rfl rfl,E7 (fun z hz=>h z (by simp[hz])) (fun i hi a b ha hb=>g (i+1) (by simp at hi ⊢;omega) a b (by simpa using ha) (by simpa using hb))⟩
structure HI (n:Int)(rs:aa):Prop where
 n0:1<=n
 n1:n<=32
 c:yc (gX rs)
 b:∀ x∈gX rs,0<=x.1/\1<=x.2/\x.1+x.2<=n
theorem ve {n:Int}{rs:aa}(h:rgOk n rs=true):HI n rs:=by
 unfold rgOk at h;rw[Zc]at h;obtain⟨h1,h2⟩:=h;have r:=bB.1 h2;have at':∀ i:Int,0<=i->i<rs.length->(0<=ag rs i 0/\1<=ag rs i 1/\ag rs i 0+ag rs i 1<=n)/\(0<i->¬ ag rs i 0<=bK .add Za (ag rs (i-1) 0) (ag rs (i-1) 1)):=fun i i0 i1=>by
  have a:=cG.1 h1 i i0 i1;unfold o9 at a;simp only[Zc,YM,Bool.and_eq_false_iff,decide_eq_false_iff_not]at a;have b:=a.1;unfold rngIn at b;simp only[Zc]at b;have b1:=bB.1 b.1;have b2:=bB.1 b.2;refine⟨by omega,fun p=>?_⟩;rcases a.2 with q|q;exact absurd p q;exact q
 have bd:∀ x∈gX rs,0<=x.1/\1<=x.2/\x.1+x.2<=n:=fun x hx=>by
  obtain⟨i,hi,rfl⟩:=Ju hx;exact(at' i (by omega) (by omega)).1
 refine⟨r.1,r.2,E7 (fun x hx=>by have:=(bd x hx).2.1;omega) (fun i hi x y hx hy=>?_),bd⟩;rw[li]at hi;have qx:=dG (es:=rs) (i:=(i:Int)) (by omega) (by omega);have qy:=dG (es:=rs) (i:=((i+1:Nat):Int)) (by omega) (by omega);rw[ZG]at qx qy;rw[hx]at qx;rw[hy]at qy;cases qx;cases qy;have a:=(at' ((i+1:Nat):Int) (by omega) (by omega)).2 (by omega);have b:=(at' (i:Int) (by omega) (by omega)).1;rw[show((i+1:Nat):Int)-1=(i:Int)by omega,bh (by omega)]at a;show ag rs i 0+ag rs i 1<_;omega
def zB (x r:Pr):Bool:=decide (x.1<r.1+r.2)&&decide (r.1<x.1+x.2)
def rpB (n:Int)(rs:aa)(a l:Int):Bool:=rgOk n rs&&(rngIn n a l&&(gX rs).all fun x=> !zB x (a,l))
def rpL (n:Int)(rs:aa)(a l:Int):aa:=if rpB n rs a l=true then rowP (Tj (gX rs) (a,l))else rs
structure Bh (rs:aa)(a0 l0 i:Int)(o:aa)(a l:Int)(d:Bool):Prop where
 s:∃ o',o=rowP o'/\((gX rs).take i.toNat).foldl xo ⟨[],(a0,l0),false⟩=⟨o',(a,l),d⟩
 n:∀ x∈(gX rs).take i.toNat,zB x (a0,l0)=false
 v:∀ x∈(gX rs).drop i.toNat,zB x (a,l)=zB x (a0,l0)
 b:0<=a/\1<=l/\a+l<=32
end Go.V
namespace Go.V
theorem zT:∀ {l:List Pr} {i:Nat} {y:Pr},yc l->l[i]?=some y->∀ x∈l.drop (i+1),y.1+y.2<x.1
 |[],i,y,_,h=>by simp at h
 | z::l,0,y,c,h=>by
   simp at h;subst h;intro x hx;exact t7 c x (by simpa using hx)
 | z::l,i+1,y,c,h=>by
   intro x hx;exact zT (t8 c) (by simpa using h) x (by simpa using hx)
theorem take_at {l:List Pr}{i:Int}{y:Pr}(i0:0<=i)(h:l[i.toNat]?=some y):l.take (i+1).toNat=l.take i.toNat++[y]:=by
 rw[show(i+1).toNat=i.toNat+1 by omega,List.take_add_one,h];rfl
theorem drop_at {l:List Pr}{i:Int}{y:Pr}(i0:0<=i)(h:l[i.toNat]?=some y):l.drop i.toNat=y::l.drop (i+1).toNat:=by
 rw[show(i+1).toNat=i.toNat+1 by omega];obtain⟨h1,h2⟩:=List.getElem?_eq_some_iff.1 h;rw[Xx h1,h2]
theorem wH {x r:Pr}:zB x r=true↔x.1<r.1+r.2/\r.1<x.1+x.2:=by unfold zB;rw[Zc,aa2,aa2]
section
variable {n: Int} {rs: aa} {a0 l0 i: Int} {o: aa} {a l: Int} {d: Bool}
theorem K1 (b:0<=a0/\1<=l0/\a0+l0<=32):Bh rs a0 l0 0 [] a0 l0 false:=⟨⟨[],rfl,rfl⟩,fun x hx=>by simp at hx,fun _ _=>rfl,b⟩
theorem NC (T:HI n rs)(h:Bh rs a0 l0 i o a l d)(i0:0<=i)(i1:i<rs.length)(x1:ag rs i 0<a+l)(x2:a<ag rs i 0+ag rs i 1):rpB n rs a0 l0=false:=by
 have e:=dG (es:=rs) i0 i1;have m:(ag rs i 0,ag rs i 1)∈(gX rs).drop i.toNat:=by rw[drop_at i0 e];simp
 have v:=h.v _ m;rw[wH.2 ⟨x1,x2⟩]at v;unfold rpB;have:((gX rs).all fun x=> !zB x (a0,l0))=false:=by
  rw[aaG];exact⟨_,YK m,by rw[<-v];simp⟩
 rw[this];simp
theorem DI (T:HI n rs)(h:Bh rs a0 l0 i o a l d)(i0:0<=i)(i1:i<rs.length)(nov:¬ (ag rs i 0<a+l/\a<ag rs i 0+ag rs i 1)):
 (∀ x∈(gX rs).take (i+1).toNat,zB x (a0,l0)=false)/\(∀ x∈(gX rs).drop (i+1).toNat,ag rs i 0+ag rs i 1<x.1/\1<=x.2/\zB x (a,l)=zB x (a0,l0))/\(0<=ag rs i 0/\1<=ag rs i 1/\ag rs i 0+ag rs i 1<=32):=by
 have e:=dG (es:=rs) i0 i1;have m:(ag rs i 0,ag rs i 1)∈(gX rs).drop i.toNat:=by rw[drop_at i0 e];simp
 have v:=h.v _ m;have b:=T.b _ (YK m);have:=T.n1;refine⟨fun x hx=>?_,fun x hx=>?_,⟨b.1,b.2.1,by have:=b.2.2;omega⟩⟩
 ·rw[take_at i0 e]at hx;rcases Ze.1 hx with q|q;exact h.n x q
  ·rw[Z1]at q;rw[q, <-v];cases z:zB (ag rs i 0,ag rs i 1) (a,l)with
   |false=>rfl
   |true=>exact absurd (wH.1 z) nov
 ·have c:=zT T.c e x (by rw[show(i+1).toNat=i.toNat+1 by omega]at hx;exact hx);have p:=T.b x (YK hx);exact⟨c,p.2.1,h.v x (by rw[drop_at i0 e];exact XM _ hx)⟩
theorem K2 (T:HI n rs)(h:Bh rs a0 l0 i o a l d)(i0:0<=i)(i1:i<rs.length)(nov:¬ (ag rs i 0<a+l/\a<ag rs i 0+ag rs i 1))(q:ag rs i 0+ag rs i 1=a):Bh rs a0 l0 (i+1) o (ag rs i 0) (ag rs i 1+l) d:=by
 have e:=dG (es:=rs) i0 i1;obtain⟨h1,h2,h3⟩:=DI T h i0 i1 nov;obtain⟨o',eo,es⟩:=h.s;have hb:=h.b;refine⟨⟨o',eo,?_⟩,h1,fun x hx=>?_,by omega⟩
 ·rw[take_at i0 e,YU,es,ZI,YQ];unfold xo;rw[aa3 (by exact q)]
 ·obtain⟨c1,c2,c3⟩:=h2 x hx;rw[<-c3,WW,wH,wH]
  constructor<;>rintro⟨u,w⟩<;>constructor<;>(simp only at*;omega)
theorem K4 (T:HI n rs)(h:Bh rs a0 l0 i o a l d)(i0:0<=i)(i1:i<rs.length)(nov:¬ (ag rs i 0<a+l/\a<ag rs i 0+ag rs i 1))(p:ag rs i 0+ag rs i 1≠a)(q:a+l=ag rs i 0):Bh rs a0 l0 (i+1) o a (l+ag rs i 1) d:=by
 have e:=dG (es:=rs) i0 i1;obtain⟨h1,h2,h3⟩:=DI T h i0 i1 nov;obtain⟨o',eo,es⟩:=h.s;have hb:=h.b;refine⟨⟨o',eo,?_⟩,h1,fun x hx=>?_,by omega⟩
 ·rw[take_at i0 e,YU,es,ZI,YQ];unfold xo;rw[aa4 (by exact p),aa3 (by exact q)]
 ·obtain⟨c1,c2,c3⟩:=h2 x hx;rw[<-c3,WW,wH,wH]
  constructor<;>rintro⟨u,w⟩<;>constructor<;>(simp only at*;omega)
theorem K5 (T:HI n rs)(h:Bh rs a0 l0 i o a l d)(i0:0<=i)(i1:i<rs.length)(nov:¬ (ag rs i 0<a+l/\a<ag rs i 0+ag rs i 1))(p:ag rs i 0+ag rs i 1≠a)(q:a+l≠ag rs i 0)(c:a<ag rs i 0)(hd:d=false):
 Bh rs a0 l0 (i+1) (o++[[.i a,.i l],[.i (ag rs i 0),.i (ag rs i 1)]]) a l true:=by
 have e:=dG (es:=rs) i0 i1;obtain⟨h1,h2,h3⟩:=DI T h i0 i1 nov;obtain⟨o',eo,es⟩:=h.s;refine⟨⟨o'++[(a,l),(ag rs i 0,ag rs i 1)],by rw[dC,eo];rfl,?_⟩,h1,fun x hx=>(h2 x hx).2.2,h.b⟩;rw[take_at i0 e,YU,es,ZI,YQ];unfold xo;rw[aa4 (by exact p),aa4 (by exact q),aa3 (by exact⟨c,hd⟩)]
theorem Hb (T:HI n rs)(h:Bh rs a0 l0 i o a l d)(i0:0<=i)(i1:i<rs.length)(nov:¬ (ag rs i 0<a+l/\a<ag rs i 0+ag rs i 1))(p:ag rs i 0+ag rs i 1≠a)(q:a+l≠ag rs i 0)(c:¬ (a<ag rs i 0/\d=false)):
 Bh rs a0 l0 (i+1) (o++[[.i (ag rs i 0),.i (ag rs i 1)]]) a l d:=by
 have e:=dG (es:=rs) i0 i1;obtain⟨h1,h2,h3⟩:=DI T h i0 i1 nov;obtain⟨o',eo,es⟩:=h.s;refine⟨⟨o'++[(ag rs i 0,ag rs i 1)],by rw[dC,eo];rfl,?_⟩,h1,fun x hx=>(h2 x hx).2.2,h.b⟩;rw[take_at i0 e,YU,es,ZI,YQ];unfold xo;rw[aa4 (by exact p),aa4 (by exact q),aa4 (by exact c)]
theorem Rz (h:rgOk n rs=true)(g:rngIn n a0 l0=true)(nov:∀ x∈gX rs,zB x (a0,l0)=false):rpB n rs a0 l0=true/\rpL n rs a0 l0=rowP (Tj (gX rs) (a0,l0)):=by
 have e:rpB n rs a0 l0=true:=by
  unfold rpB;rw[h,g];simp only[YB,Yk];intro x hx;rw[nov x hx];rfl
 exact⟨e,by unfold rpL;rw[aa3 e]⟩
theorem AF (h:rpB n rs a0 l0=false):rpL n rs a0 l0=rs:=by unfold rpL;rw[h];rfl
theorem su (hr:rgOk n rs=true)(g:rngIn n a0 l0=true)(h:Bh rs a0 l0 i o a l d)(i1:(rs.length:Int)<=i):rpB n rs a0 l0=true/\rpL n rs a0 l0=if d=true then o else o++[[.i a,.i l]]:=by
 have tk:(gX rs).take i.toNat=gX rs:=Yb (by rw[li];omega);have hn:=h.n;obtain⟨o',eo,es⟩:=h.s;rw[tk]at hn es;obtain⟨e1,e2⟩:=Rz hr g hn;refine⟨e1,?_⟩;rw[e2];unfold Tj;rw[es,eo];unfold Or;cases d with
 |true=>rfl
 |false=>rw[aa4 (by simp),aa4 (by simp),dC];rfl
structure vO (rs:aa)(a0 l0 i:Int)(o:aa)(d:Bool):Prop where
 s:∃ o',o=rowP o'/\((gX rs).take i.toNat).foldl (nT (a0,l0)) ⟨[],false⟩=⟨o',d⟩
 n:∀ x∈(gX rs).take i.toNat,zB x (a0,l0)=false
 m:o.length<=2*i.toNat
theorem RA:vO rs a0 l0 0 [] false:=⟨⟨[],rfl,rfl⟩,fun x hx=>by simp at hx,Zf _⟩
theorem K6 (h:vO rs a0 l0 i o d)(i0:0<=i)(i1:i<rs.length)(nov:¬ (ag rs i 0<a0+l0/\a0<ag rs i 0+ag rs i 1)):∀ x∈(gX rs).take (i+1).toNat,zB x (a0,l0)=false:=fun x hx=>by
 have e:=dG (es:=rs) i0 i1;rw[take_at i0 e]at hx;rcases Ze.1 hx with q|q;exact h.n x q
 ·rw[Z1]at q;rw[q];cases z:zB (ag rs i 0,ag rs i 1) (a0,l0)with
  |false=>rfl
  |true=>exact absurd (wH.1 z) nov
theorem ND (i0:0<=i)(i1:i<rs.length)(x1:ag rs i 0<a0+l0)(x2:a0<ag rs i 0+ag rs i 1):rpB n rs a0 l0=false:=by
 have e:=dG (es:=rs) i0 i1;unfold rpB;have:((gX rs).all fun x=> !zB x (a0,l0))=false:=by
  rw[aaG];exact⟨_,Zs e,by rw[wH.2 ⟨x1,x2⟩];simp⟩
 rw[this];simp
theorem RB (h:vO rs a0 l0 i o d)(i0:0<=i)(i1:i<rs.length)(nov:¬ (ag rs i 0<a0+l0/\a0<ag rs i 0+ag rs i 1))(hd:d=false)(c:a0<ag rs i 0):
 vO rs a0 l0 (i+1) (o++[[.i a0,.i l0]]++[[.i (ag rs i 0),.i (ag rs i 1)]]) true:=by
 have e:=dG (es:=rs) i0 i1;obtain⟨o',eo,es⟩:=h.s;have m:=h.m;refine⟨⟨o'++[(a0,l0)]++[(ag rs i 0,ag rs i 1)],by rw[dC,dC,eo];rfl,?_⟩,K6 h i0 i1 nov,by simp only[Zg,Zq,Zz];omega⟩;rw[take_at i0 e,YU,es,ZI,YQ];unfold nT;rw[aa3 ⟨hd,c⟩]
theorem Hd (h:vO rs a0 l0 i o d)(i0:0<=i)(i1:i<rs.length)(nov:¬ (ag rs i 0<a0+l0/\a0<ag rs i 0+ag rs i 1))(c:¬ (d=false/\a0<ag rs i 0)):
 vO rs a0 l0 (i+1) (o++[[.i (ag rs i 0),.i (ag rs i 1)]]) d:=by
 have e:=dG (es:=rs) i0 i1;obtain⟨o',eo,es⟩:=h.s;have m:=h.m;refine⟨⟨o'++[(ag rs i 0,ag rs i 1)],by rw[dC,eo];rfl,?_⟩,K6 h i0 i1 nov,by simp only[Zg,Zq,Zz];omega⟩;rw[take_at i0 e,YU,es,ZI,YQ];unfold nT;rw[aa4 c]
theorem sB {l:List Pr}:gX (rowP l)=l:=by
 unfold gX rowP;rw[List.map_map];exact(List.map_congr_left fun x _=>rfl).trans (List.map_id l)
def jnR (rs:aa):aa:=rowP (Vr (gX rs))
theorem DJ (hr:rgOk n rs=true)(g:rngIn n a0 l0=true)(h:vO rs a0 l0 i o d)(i1:(rs.length:Int)<=i):rpB n rs a0 l0=true/\rpL n rs a0 l0=jnR (if d=true then o else o++[[.i a0,.i l0]]):=by
 have tk:(gX rs).take i.toNat=gX rs:=Yb (by rw[li];omega);have hn:=h.n;obtain⟨o',eo,es⟩:=h.s;rw[tk]at hn es;obtain⟨e1,e2⟩:=Rz hr g hn;have T:=ve hr;unfold rngIn at g;rw[Zc]at g;have gl:=bB.1 g.1;refine⟨e1,?_⟩;rw[e2,Ry T.c (by show 0<l0;omega) (fun x hx q=>by have:=hn x hx;rw[wH.2 q]at this;cases this)];unfold jnR VG;rw[es,eo];unfold Jd;cases d with
 |true=>rw[aa3 rfl,aa3 rfl,sB]
 |false=>rw[aa4 (by simp),aa4 (by simp),show rowP o'++[[.i a0,.i l0]]=rowP (o'++[(a0,l0)])from by rw[dC];rfl,sB]
end
end Go.V
namespace Go.V
theorem Sd {o:aa}{n:Int}{x:Value}(h:Rw [tI,tI] o)(n0:0<=n)(n1:n<o.length):AO (.s 2 o) [(n.toNat,1)] [.v x]=o.set n.toNat [.i (ag o n 0),.v x]:=by
 show o.set n.toNat ((o.getD n.toNat []).take 1++[.v x]++(o.getD n.toNat []).drop (1+1))=_;rw[h.eta n0 n1];rfl
theorem RZ {o:aa}{n:Int}{j:Nat}(h:Rw [tI,tI] o)(n0:0<=n)(n1:n<o.length)(hj:j<2):∃ rec o',bR (.s 2 o) [(n.toNat,j)]=some (rec,o')/\o'+1<=rec.length:=fm (by omega) (by
 rw[h.eta n0 n1];show j+1<=2;omega)
theorem MQ {o:aa}{n:Int}{j:Nat}(h:Rw [tI,tI] o)(n0:0<=n)(n1:n<o.length)(hj:j<2):∃ rec o',bR (L.s 2 o) [(n.toNat,j)]=some (rec,o')/\o'+[L.v (Zn ZC 0)].length<=rec.length/\Yu [L.v (Zn ZC 0)].length (Y4 o' rec)=jT ak (L.s 2 o) [(n.toNat,j)] 0 [L.v (Zn ZC 0)]:=by
 rcases(show j=0\/j=1 by omega)with rfl|rfl
 ·exact gN (z0:=[.i 0,.i 0]) (z:=[.i 0]) h.wf (by omega) rfl (by decide)
 ·exact gN (z0:=[.i 0,.i 0]) (z:=[.i 0]) h.wf (by omega) rfl (by decide)
theorem jm {l:aa}{sz j:Nat}{i:Int}(h0:0<=i):KR (.s sz l) [(i.toNat,j)]=ag l i j:=by
 rw[BW];unfold ag;rw[ZG]
theorem En {f:List Pr}{y:Pr}(h:f.getLast?=some y):f=f.dropLast++[y]:=by
 cases f with
 |nil=>cases h
 | cons a f=>
   rw[List.getLast?_eq_some_getLast (by simp)]at h;cases h;exact(List.dropLast_concat_getLast (by simp)).symm
structure HQ (rs:aa)(i:Int)(o:aa):Prop where
 s:o=rowP (((gX rs).take i.toNat).foldl xp [])
 l:o.length<=i.toNat
section
variable {rs o: aa} {i: Int}
theorem P2:HQ rs 0 []:=⟨rfl,Zf _⟩
theorem FR (h:HQ rs i o)(i0:0<=i)(i1:i<rs.length):(((gX rs).take (i+1).toNat).foldl xp [])=xp (((gX rs).take i.toNat).foldl xp []) (ag rs i 0,ag rs i 1):=by
 rw[take_at i0 (dG i0 i1),YU];rfl
theorem FQ (h:HQ rs i o)(n:0<o.length):(((gX rs).take i.toNat).foldl xp []).getLast?=some (ag o (o.length-1) 0,ag o (o.length-1) 1):=by
 have e:=h.s;have hl:o.length=(((gX rs).take i.toNat).foldl xp []).length:=by rw[e,nS]
 have t:=dG (es:=o) (i:=o.length-1) (by omega) (by omega);have q:gX o=((gX rs).take i.toNat).foldl xp []:=by rw[e,sB]
 rw[q]at t;rw[List.getLast?_eq_getElem?, <-hl, <-t]
 congr 1;omega
theorem P3 (h:HQ rs i o)(i0:0<=i)(i1:i<rs.length)(n:0<o.length)(q:ag o (o.length-1) 0+ag o (o.length-1) 1=ag rs i 0):
 HQ rs (i+1) (o.set (o.length-1:Int).toNat [.i (ag o (o.length-1) 0),.i (ag o (o.length-1) 1+ag rs i 1)]):=by
 have la:=FQ h n;have hl:=h.l;refine⟨?_,by rw[Z6];omega⟩;rw[FR h i0 i1];have e:=h.s;generalize((gX rs).take i.toNat).foldl xp []=f at la e;have fe:=En la;generalize f.dropLast=g at fe;subst fe;rw[yu (by exact q),e,dC];have lg:((rowP g++rowP [(ag o (o.length-1) 0,ag o (o.length-1) 1)]).length-1:Int).toNat=(rowP g).length:=by
  rw[Zg];show(((rowP g).length+1:Nat)-1:Int).toNat=_;omega
 have eo:o=rowP g++rowP [(ag o (o.length-1) 0,ag o (o.length-1) 1)]:=by rw[<-dC];exact e
 rw[<-dC, <-e,show(o.length-1:Int).toNat=(rowP g).length from by rw[show(o.length:Int)=((rowP g++rowP [(ag o (o.length-1) 0,ag o (o.length-1) 1)]).length:Int)from by rw[<-eo]];exact lg];rw[dC]
 conv=>lhs;arg 1;rw[eo]
 rw[List.set_append_right (h:=Zf _),YW];rfl
theorem P4 (h:HQ rs i o)(i0:0<=i)(i1:i<rs.length)(q:(o.length:Int)<=0\/ag o (o.length-1) 0+ag o (o.length-1) 1≠ag rs i 0):
 HQ rs (i+1) (o++[[.i (ag rs i 0),.i (ag rs i 1)]]):=by
 have hl:=h.l;refine⟨?_,by rw[Zg];show _+1<=_;omega⟩;rw[FR h i0 i1,uD,dC, <-h.s];rfl;intro y hy;by_cases n:0<o.length
 ·rw[FQ h n]at hy;cases hy;rcases q with q|q;omega;exact q
 ·have:o=[]:=Ys (by omega);have e:=h.s;rw[this]at e;have z:((gX rs).take i.toNat).foldl xp []=[]:=by
   have:=congrArg List.length e;rw[nS]at this;exact Ys (by simpa using this.symm)
  rw[z]at hy;cases hy
theorem CY (h:HQ rs i o)(i1:(rs.length:Int)<=i):o=jnR rs:=by
 rw[h.s,Yb (by rw[li];omega)];rfl
end
end Go.V
namespace Go.V
def OL (rs:aa)(n:Int):Nat->Int
 |0=> -1
 |k+1=>if n<=ag rs k 1/\(OL rs n k<0\/ag rs k 1<ag rs (OL rs n k) 1)then k else OL rs n k
def Ox (rs:aa)(n:Int):Int:=OL rs n rs.length
structure V9 (rs:aa)(n i b:Int):Prop where
 e:b=OL rs n i.toNat
section
variable {rs: aa} {n i b: Int}
end
structure Ws (p:Int)(rs:aa)(n:Int):Prop where
 i0:0<=Ox rs n
 i1:Ox rs n<rs.length
 n0:1<=n
 a0:0<=ag rs (Ox rs n) 0
 l0:n<=ag rs (Ox rs n) 1
 e:ag rs (Ox rs n) 0+ag rs (Ox rs n) 1<=p
 p0:p<=32
end Go.V
namespace Go.V
def TJ (b:Int):Nat->aa
 |0=>[]
 |k+1=>if hsB b k=true then TJ b k else TJ b k++[[.i k]]
structure Wc (b i:Int)(o:aa):Prop where
 e:o=TJ b i.toNat
end Go.V
namespace Go.V
theorem NM {ls r:aa}{k:Nat}(h:Rw [.sl [tI]] ls)(g:Rw [tI] r):Rw [.sl [tI]] (ls.set k [.s 1 r]):=Rw.set h (show cf [.sl [tI]] [.s 1 r]from⟨⟨rfl,g⟩,trivial⟩) _
end Go.V
namespace Go.V
def VF:aa->Int->Nat
 |[],_=>0
 |e::l,r=>if qcI (e::l)<=r then 0 else VF l r+1
structure Wq (l:aa)(r i:Int):Prop where
 e:i.toNat<=VF l r
section
variable {l: aa} {r i: Int}
end
def B3:aa->Int->Nat
 |[],_=>0
 |e::l,t=>if IK (e.getD 2 .g)<t then B3 l t+1 else 0
theorem GW:∀ {l:aa} {t:Int},B3 l t<=l.length
 |[],t=>Zf _
 | e::l,t=>by
   have:=GW (l:=l) (t:=t);unfold B3;split
   ·rw[Zq];omega
   ·exact Zd _
theorem KZ:∀ {l:aa} {t:Int} {n:Nat},n<B3 l t->ag l n 2<t
 |[],t,n,h=>absurd h (by show¬ n<0;omega)
 | e::l,t,n,h=>by
   unfold B3 at h;split at h
   ·rename_i c;cases n with
    |zero=>exact c
    |succ n=>exact KZ (l:=l) (t:=t) (n:=n) (by omega)
   ·omega
theorem KY:∀ {l:aa} {t:Int},B3 l t<l.length->t<=ag l (B3 l t) 2
 |[],t,h=>absurd h (XA _)
 | e::l,t,h=>by
   unfold B3 at h ⊢;split
   ·rename_i c;rw[aa3 c]at h;exact KY (l:=l) (t:=t) (by simpa using h)
   ·rename_i c;show t<=IK (e.getD 2 .g);omega
structure JK (l:aa)(t i:Int):Prop where
 e:i.toNat<=B3 l t
section
variable {l: aa} {t i: Int}
theorem Rj:JK l t 0:=⟨Zd _⟩
theorem Nv (h:JK l t i)(i0:0<=i)(i1:i<l.length)(g:ag l i 2<t):JK l t (i+1):=by
 have e:=h.e;have ne:i.toNat≠B3 l t:=fun q=>by
  have:=KY (l:=l) (t:=t) (by omega);rw[<-q,Zt i0]at this;omega
 exact⟨by omega⟩
theorem I4 (h:JK l t i)(i0:0<=i)(g:(l.length:Int)<=i\/t<=ag l i 2):i.toNat=B3 l t:=by
 have e:=h.e;have:=GW (l:=l) (t:=t);rcases Nat.lt_or_eq_of_le e with q|q
 ·rcases g with g|g;omega
  ·have:=KZ q;rw[Zt i0]at this;omega
 ·exact q
end
def Dw (rm:Int)(qs:aa)(now age:Int):Bool:=quarOk rm qs&&(inR now 0 1000000&&inR age 0 1000000)
def qeL (rm:Int)(qs:aa)(now age:Int):aa:=if Dw rm qs now age=true then qs.drop (B3 qs (now-age))else qs
def qeR (rm:Int)(qs:aa)(now age:Int):aa:=if Dw rm qs now age=true then qs.take (B3 qs (now-age))else[]
theorem Nu {rm:Int}{qs:aa}{now age:Int}(h:Dw rm qs now age=false):qeL rm qs now age=qs/\qeR rm qs now age=[]:=by unfold qeL qeR;rw[h];exact⟨rfl,rfl⟩
theorem Ri {rm:Int}{qs:aa}{now age:Int}(h:Dw rm qs now age=true):qeL rm qs now age=qs.drop (B3 qs (now-age))/\qeR rm qs now age=qs.take (B3 qs (now-age)):=by unfold qeL qeR;rw[aa3 h,aa3 h];exact⟨rfl,rfl⟩
end Go.V
namespace Go.V
theorem CH {k:Nat}:∀ {l:aa},(∀ e∈l,cP e<=k)->bG l<=k*l.length
 |[],_=>Zd _
 | e::l,h=>by
   have a:=h e (by simp);have b:=CH (l:=l) (fun x hx=>h x (by simp[hx]));simp only[bG,Zq,Nat.mul_succ];omega
theorem De {cs us es:aa}(h:vM cs us es)(rc:Rw [.sl [tI]] cs)(ru:Rw [tB] us)(re:Rw [tI,tI] es):ah cs<=1024/\ah us<=64/\ah es<=64:=by
 have n1:=h.n1;have hu:=h.u;have e1:=h.e1;refine⟨?_,?_,?_⟩
 ·have q:bG cs<=16*cs.length:=CH fun e he=>by
   obtain⟨i,hi,rfl⟩:=WQ he;have a:=rc.eta (i:=i) (by omega) (by omega);rw[Zp,ZG,Zx hi,Option.getD_some]at a;rw[a];show cP [.s 1 (aR cs i 0)]<=16;have l:=h.l i (by omega) (by omega);have w:=(Rw.sub (fs:=[.sl [tI]]) (j:=0) (i:=(i:Int)) rc (by omega) rfl).cnt rfl;have e:cP [.s 1 (aR cs i 0)]=ah (aR cs i 0):=by simp only[cP,eA,ah];omega
   rw[e,w];omega
  unfold ah;omega
 ·rw[ru.cnt rfl];omega
 ·rw[re.cnt rfl];omega
def kuC (cs es:aa)(p:Int):aa:=if peM es p≠0 then dfC cs (xL es p) (peF es p)else cs
def kuU (us es:aa)(p:Int):aa:=if peM es p≠0 then dfU us (xL es p) (peF es p)else us
def kuE (es:aa)(p:Int):aa:=if peM es p≠0 then xL es p else es
theorem Qb {cs us es:aa}{p:Int}(h:vM cs us es):vM (kuC cs es p) (kuU us es p) (kuE es p):=by
 unfold kuC kuU kuE;by_cases g:peM es p≠0
 ·rw[aa3 g,aa3 g,aa3 g];exact R9 h g
 ·rw[aa4 g,aa4 g,aa4 g];exact h
theorem V4 {us:aa}{n:Nat}{b:Bool}(h:Rw [tB] us):Rw [tB] (us.set n [.v (.bool b)]):=Rw.set h (show cf [tB] [.v (.bool b)]from⟨trivial,trivial⟩) _
theorem Je {es:aa}{p m f:Int}(h:Rw [tI,tI] es)(hm: -9223372036854775808<=m/\m<=9223372036854775807)(hf: -9223372036854775808<=f/\f<=9223372036854775807):Rw [tI,tI] (V5 es p m f):=Rw.set h (show cf [tI,tI] [.i m,.i f]from⟨⟨rfl,hm⟩,⟨rfl,hf⟩,trivial⟩) _
theorem UF {cs es:aa}{f:Int}(h:Rw [.sl [tI]] cs):Rw [.sl [tI]] (dfC cs es f):=by
 unfold dfC;split;exact h;exact NM h (Rw.replicate (show cf [tI] [.i 0]from⟨⟨rfl,show-9223372036854775808<=(0:Int)/\(0:Int)<=9223372036854775807 from by omega⟩,trivial⟩) (by unfold maxLen;omega))
theorem UG {us es:aa}{f:Int}(h:Rw [tB] us):Rw [tB] (dfU us es f):=by
 unfold dfU;split;exact h;exact V4 h
theorem Kv {cs us es:aa}{p:Int}(hc:Rw [.sl [tI]] cs)(hu:Rw [tB] us)(he:Rw [tI,tI] es):Rw [.sl [tI]] (kuC cs es p)/\Rw [tB] (kuU us es p)/\Rw [tI,tI] (kuE es p):=by
 unfold kuC kuU kuE;refine⟨?_,?_,?_⟩<;>split
 ·exact UF hc
 ·exact hc
 ·exact UG hu
 ·exact hu
 ·exact Je (m:=0) (f:=0) he (by omega) (by omega)
 ·exact he
theorem pN {cs us es rs:aa}{c:Int}(h:kerOk cs us es c rs=true):vM cs us es/\0<=c/\c<=100000/\kE rs=true:=by
 unfold kerOk at h;simp only[Zc]at h;have r:=bB.1 h.1.2;exact⟨M4 h.1.1,r.1,r.2,h.2⟩
theorem FW {cs us es rs:aa}{c:Int}(h:vM cs us es)(c0:0<=c)(c1:c<=100000)(r:kE rs=true):kerOk cs us es c rs=true:=IH (M5 h) (bB.2 ⟨c0,c1⟩) r
end Go.V
namespace Go.V
structure iI (a0 a1 a2 a4 a5 a6 a7 a8 a9 aA aB aD aL:aa):Prop where
 r0:Rw [.sl [tI]] a0
 r1:Rw [tB] a1
 r2:Rw [tI,tI] a2
 r4:Rw [tI] a4
 r5:Rw [tI,tI] a5
 r6:Rw [tI,tI,tI] a6
 r7:Rw [tI,tI,tI] a7
 r8:Rw [tI,tI,tI,tI] a8
 r9:Rw [.sl [.sl [tI]]] a9
 r10:Rw [.sl [tI,tI]] aA
 r11:Rw [.sl [tI]] aB
 r13:Rw [tI,tI,tI] aD
 r21:Rw [tI] aL
 c0:ah a0<=1073741824
 c1:ah a1<=1073741824
 c2:ah a2<=1073741824
 c4:ah a4<=1073741824
 c5:ah a5<=1073741824
 c6:ah a6<=1073741824
 c7:ah a7<=1073741824
 c8:ah a8<=1073741824
 c9:ah a9<=1073741824
 c10:ah aA<=1073741824
 c11:ah aB<=1073741824
 c13:ah aD<=1073741824
 c21:ah aL<=1073741824
theorem iI.hp {a0 a1 a2 a4 a5 a6 a7 a8 a9 aA aB aD aL:aa}(h:iI a0 a1 a2 a4 a5 a6 a7 a8 a9 aA aB aD aL):OC a0 a1 a2 a4 a5 a6 a7 a8 a9 aA aB aD aL:=by
 have l2:=aO (es:=a2);have l5:=aO (es:=a5);have l6:=aO (es:=a6);have l7:=aO (es:=a7);have l8:=aO (es:=a8);have l13:=aO (es:=aD);have l21:=aO (es:=aL);have c2:=h.c2;have c5:=h.c5;have c6:=h.c6;have c7:=h.c7;have c8:=h.c8;have c13:=h.c13;have c21:=h.c21;exact⟨⟨h.r6,h.r7,h.r8,h.r9,h.r13,Nj h.r10 h.r11 h.c10 h.c11,Nh h.r9 h.c9,by omega,by omega,by omega,by omega,h.c9⟩,h.r0,h.r1,h.r2,by omega,h.r4,h.r5,by omega,h.r21,by omega⟩
theorem NR {fs:List Ty}{es:aa}{i:Int}(h:Rw [.sl fs] es)(h0:0<=i)(h1:i<es.length):Rw fs (aR es i 0):=Rw.sub (fs:=[.sl fs]) (j:=0) (i:=i) h (by omega) rfl
end Go.V
namespace Go.V
theorem Lj {b x:aa}{i:Int}(h:Rw [.sl [tI]] b)(h0:0<=i)(h1:i<b.length):AO (.s 1 b) [(i.toNat,0)] [.s 1 x]=b.set i.toNat [.s 1 x]:=lp (by rw[h.eta h0 h1];rfl)
theorem R0 {fs:List Ty}{b:aa}{i:Int}(h:Rw [.sl fs] b)(h0:0<=i)(h1:i<b.length):∃ rec o',bR (.s 1 b) [(i.toNat,0)]=some (rec,o')/\o'+1<=rec.length:=fm (by omega) (by rw[h.eta h0 h1];exact Zf _)
end Go.V
namespace Go.V
def ccB (cs us es:aa)(c:Int)(rs:aa):Bool:=decide (c≠100000)&&kerOk cs us es c rs
theorem JZ {cs us es rs:aa}{c:Int}(h:ccB cs us es c rs=true):c≠100000/\kerOk cs us es c rs=true:=by
 unfold ccB at h;rw[Zc,aa2]at h;exact h
theorem OS {cs us es rs:aa}{c:Int}(h:c=100000):ccB cs us es c rs=false:=by unfold ccB;rw[aa1 (fun n=>n h)];rfl
theorem OU {cs us es rs:aa}{c:Int}(h:c≠100000):ccB cs us es c rs=kerOk cs us es c rs:=by unfold ccB;rw[aa0 h];rfl
theorem OV {cs us es rs:aa}{c:Int}(h:kerOk cs us es c rs=false):ccB cs us es c rs=false:=by unfold ccB;rw[h];simp
theorem OW {cs us es rs:aa}{c:Int}(h:kerOk cs us es c rs=true):cA .lss c 100000=ccB cs us es c rs:=by
 have q:=(pN h).2;unfold ccB;rw[h,WF];show decide (c<100000)=_;by_cases e:c=100000
 ·rw[aa1 (by omega),aa1 (by simp[e])]
 ·rw[aa0 (by omega),aa0 e]
def ktC (k:Bool)(cs es:aa)(p:Int):aa:=if k=true then kuC cs es p else cs
def ktU (k:Bool)(us es:aa)(p:Int):aa:=if k=true then kuU us es p else us
def ktE (k:Bool)(es:aa)(p:Int):aa:=if k=true then kuE es p else es
def ktB (k:Bool)(es:aa)(p:Int):Bool:=k&&mapB es p
theorem P8 {k:Bool}{cs us es:aa}{p:Int}(h:k=false):ktC k cs es p=cs/\ktU k us es p=us/\ktE k es p=es/\ktB k es p=false:=by subst h;exact⟨rfl,rfl,rfl,rfl⟩
theorem P9 {k:Bool}{cs us es:aa}{p:Int}(h:k=true):ktC k cs es p=kuC cs es p/\ktU k us es p=kuU us es p/\ktE k es p=kuE es p/\ktB k es p=mapB es p:=by subst h;exact⟨rfl,rfl,rfl,rfl⟩
theorem Qa {cs us es:aa}{p:Int}(h:mapB es p=false):kuC cs es p=cs/\kuU us es p=us/\kuE es p=es:=by
 unfold mapB at h;have:=of_decide_eq_false h;unfold kuC kuU kuE;rw[aa4 this,aa4 this,aa4 this];exact⟨rfl,rfl,rfl⟩
theorem Qc {cs us es:aa}{p:Int}(h:mapB es p=true):kuC cs es p=dfC cs (xL es p) (peF es p)/\kuU us es p=dfU us (xL es p) (peF es p)/\kuE es p=xL es p:=by
 unfold mapB at h;have:=aa5 h;unfold kuC kuU kuE;rw[aa3 this,aa3 this,aa3 this];exact⟨rfl,rfl,rfl⟩
theorem T9 {k:Bool}{cs us es:aa}{p:Int}(h:mapB es p=false):ktC k cs es p=cs/\ktU k us es p=us/\ktE k es p=es/\ktB k es p=false:=by
 cases k with
 |false=>exact P8 rfl
 |true=>have q:=Qa (cs:=cs) (us:=us) h;exact⟨q.1,q.2.1,q.2.2,h⟩
theorem yy {es:aa}{p:Int}(h:mapB es p=true):(0<=p/\p<es.length)/\peM es p=ag es p 0/\peF es p=ag es p 1/\peM es p≠0:=by
 unfold mapB at h;have:=aa5 h;have q:=QX this;exact⟨q.1,q.2.1,q.2.2,this⟩
theorem Db {cs us es:aa}{p:Int}(m:vM cs us es)(h:mapB es p=true):0<=ag es p 1/\ag es p 1<cs.length:=by
 have q:=yy h;have e:=m.e p q.1.1 q.1.2;exact e.2.2.2 (by have:=q.2.1;have:=q.2.2.2;omega)
theorem Tx {cs us es:aa}{f:Int}(h:((pagesOn es f).length:Int)=0):dfC cs es f=cs.set f.toNat [.s 1 (jq 16 [.i 0])]/\dfU us es f=us.set f.toNat [.v (.bool false)]:=by
 have e:eg es f=false:=IM (by omega);unfold dfC dfU;rw[e];exact⟨rfl,rfl⟩
theorem Tz {cs us es:aa}{f:Int}(h:¬ ((pagesOn es f).length:Int)=0):dfC cs es f=cs/\dfU us es f=us:=by
 have e:eg es f=true:=yz.2 (by omega);unfold dfC dfU;rw[e];exact⟨rfl,rfl⟩
theorem Li {es:aa}{p:Int}(h:Rw [tI,tI] es)(p0:0<=p)(p1:p<es.length):AO (.s 2 es) [(p.toNat,0)] [.i 0,.i 0]=xL es p:=by
 unfold xL;exact lp (by rw[h.eta p0 p1];rfl)
theorem yw {es:aa}{p:Int}:(kuE es p).length=es.length:=by
 unfold kuE xL;split;exact Z6;rfl
structure K3 where
 c:aa
 u:aa
 e:aa
def CL (a0 a1 a2:aa)(t:Int):Nat->K3
 |0=>⟨a0,a1,a2⟩
 |n+1=>⟨kuC (CL a0 a1 a2 t n).c (CL a0 a1 a2 t n).e (t+n),kuU (CL a0 a1 a2 t n).u (CL a0 a1 a2 t n).e (t+n),kuE (CL a0 a1 a2 t n).e (t+n)⟩
theorem CM {a0 a1 a2:aa}{t:Int}{n:Nat}:CL a0 a1 a2 t (n+1)=⟨kuC (CL a0 a1 a2 t n).c (CL a0 a1 a2 t n).e (t+n),kuU (CL a0 a1 a2 t n).u (CL a0 a1 a2 t n).e (t+n),kuE (CL a0 a1 a2 t n).e (t+n)⟩:=rfl
def duC (a0 a1 a2:aa)(t l:Int):aa:=(CL a0 a1 a2 t l.toNat).c
def duU (a0 a1 a2:aa)(t l:Int):aa:=(CL a0 a1 a2 t l.toNat).u
def duE (a0 a1 a2:aa)(t l:Int):aa:=(CL a0 a1 a2 t l.toNat).e
theorem TD {a0 a1 a2:aa}{t:Int}:duC a0 a1 a2 t 1=kuC a0 a2 t/\duU a0 a1 a2 t 1=kuU a1 a2 t/\duE a0 a1 a2 t 1=kuE a2 t:=by
 unfold duC duU duE;have z:t+((0:Nat):Int)=t:=by omega
 rw[show(1:Int).toNat=0+1 from rfl,CM,z];exact⟨rfl,rfl,rfl⟩
structure Lq (a0 a1 a2:aa)(t p:Int)(c u e:aa):Prop where
 m:vM c u e
 rc:Rw [.sl [tI]] c
 ru:Rw [tB] u
 re:Rw [tI,tI] e
 l:e.length=a2.length
 ec:c=duC a0 a1 a2 t (p-t)
 eu:u=duU a0 a1 a2 t (p-t)
 ee:e=duE a0 a1 a2 t (p-t)
section
variable {a0 a1 a2 c u e: aa} {t p: Int}
theorem O8 (m:vM a0 a1 a2)(rc:Rw [.sl [tI]] a0)(ru:Rw [tB] a1)(re:Rw [tI,tI] a2):Lq a0 a1 a2 t t a0 a1 a2:=by
 have z:(t-t).toNat=0:=by omega
 refine⟨m,rc,ru,re,rfl,?_,?_,?_⟩
 ·unfold duC;rw[z];rfl
 ·unfold duU;rw[z];rfl
 ·unfold duE;rw[z];rfl
theorem L1 (h:Lq a0 a1 a2 t p c u e)(p0:t<=p):Lq a0 a1 a2 t (p+1) (kuC c e p) (kuU u e p) (kuE e p):=by
 have w:=Kv (p:=p) h.rc h.ru h.re;have s:(p+1-t).toNat=(p-t).toNat+1:=by omega
 have q:t+((p-t).toNat:Int)=p:=by omega
 refine⟨Qb h.m,w.1,w.2.1,w.2.2,by rw[yw];exact h.l,?_,?_,?_⟩
 ·rw[h.ec,h.ee];unfold duC duE;rw[s,CM,q]
 ·rw[h.eu,h.ee];unfold duU duE;rw[s,CM,q]
 ·rw[h.ee];unfold duE;rw[s,CM,q]
theorem Ij {l:Int}(h:Lq a0 a1 a2 t p c u e)(p1:t+l<=p)(p2:p<=t+l):c=duC a0 a1 a2 t l/\u=duU a0 a1 a2 t l/\e=duE a0 a1 a2 t l:=by
 have q:p-t=l:=by omega
 exact⟨q▸h.ec,q▸h.eu,q▸h.ee⟩
theorem Ii (h:Lq a0 a1 a2 t p c u e):ah c<=1024/\ah u<=64/\ah e<=64:=De h.m h.rc h.ru h.re
end
def ifR (b:Bool)(x y:aa):aa:=if b=true then x else y
theorem o7 {o o':aa}{r r':Bool}(h2:o=o')(h3:r=r'):[DV.one (.s 2 o),DV.k r]=[DV.one (.s 2 o'),DV.k r']:=by rw[h2,h3]
end Go.V
namespace Go.V
theorem Hc {r:Pr}:∀ {l:List Pr} {s:Sp} {x:Pr},x∈(l.foldl (nT r) s).o->x∈s.o\/x=r\/x∈l
 |[],s,x,h=>.inl h
 | y::l,s,x,h=>by
   rw[ZI]at h;rcases Hc h with q|q|q
   ·unfold nT at q;split at q
    ·simp only[Ze,Z1]at q;rcases q with(q|q)|q;exact .inl q;exact .inr (.inl q);exact .inr (.inr (by rw[q];exact aaH ..))
    ·simp only[Ze,Z1]at q;rcases q with q|q;exact .inl q;exact .inr (.inr (by rw[q];exact aaH ..))
   ·exact .inr (.inl q)
   ·exact .inr (.inr (XM _ q))
structure On (rs:aa):Prop where
 w:Rw [tI,tI] rs
 b:∀ i:Int,0<=i->i<rs.length->0<=ag rs i 0/\ag rs i 0<=64/\0<=ag rs i 1/\ag rs i 1<=64
theorem Hl {l:List Pr}(h:∀ x∈l,0<=x.1/\x.1<=64/\0<=x.2/\x.2<=64)(n:l.length<=maxLen):On (rowP l):=by
 refine⟨sr (fun x hx=>by have:=h x hx;omega) n,fun i i0 i1=>?_⟩;have t:=dG (es:=rowP l) i0 i1;rw[sB]at t;exact h _ (Zs t)
theorem Sc {o:aa}{n:Int}{b:Bool}(h:Rw [tB] o)(h0:0<=n)(h1:n<o.length):AO (.s 1 o) [(n.toNat,0)] [.v (.bool b)]=o.set n.toNat [.v (.bool b)]:=lp (by rw[h.eta h0 h1];rfl)
theorem U3 {o:aa}{n:Int}(h:Rw [tB] o)(h0:0<=n)(h1:n<o.length):∃ rec o',bR (.s 1 o) [(n.toNat,0)]=some (rec,o')/\o'+1<=rec.length:=fm (by omega) (by rw[h.eta h0 h1];exact Zf _)
theorem Ld {es:aa}{p:Int}(h:Rw [tI,tI] es)(p0:0<=p)(p1:p<es.length):∃ rec o,bR (.s 2 es) [(p.toNat,0)]=some (rec,o)/\o+2<=rec.length:=fm (by omega) (by rw[h.eta p0 p1];exact Zf _)
section
variable {n a0 l0 i: Int} {rs o: aa} {d: Bool}
theorem DD (g:rngIn n a0 l0=true)(T:HI n rs):0<=a0/\1<=l0/\a0+l0<=32:=by
 unfold rngIn at g;simp only[Zc]at g;have p:=bB.1 g.1;have q:=bB.1 g.2;have:=T.n1;omega
theorem NE (T:HI n rs)(g:rngIn n a0 l0=true)(h:vO rs a0 l0 i o d)(k:rs.length<=1073741824)(i1:i<=rs.length):On (if d=true then o else o++[[.i a0,.i l0]]):=by
 obtain⟨o',eo,es⟩:=h.s;have gb:=DD g T;have m:=h.m;have mb:∀ x∈o',0<=x.1/\x.1<=64/\0<=x.2/\x.2<=64:=fun x hx=>by
  have q:=Hc (r:=(a0,l0)) (l:=(gX rs).take i.toNat) (s:=⟨[],false⟩) (x:=x) (by rw[es];exact hx);rcases q with q|q|q
  ·cases q
  ·rw[q];simp only;omega
  ·have:=T.b _ (Xv q);have:=T.n1;omega
 have ol:o.length=o'.length:=by rw[eo,nS]
 cases d with
 |true=>rw[aa3 rfl,eo];exact Hl mb (by unfold maxLen;omega)
 | false=>
   rw[aa4 (by simp),eo];have e:rowP o'++[[.i a0,.i l0]]=rowP (o'++[(a0,l0)]):=by rw[dC];rfl
   rw[e];refine Hl (fun x hx=>?_) (by unfold maxLen;simp only[Zg,Zq,Zz];omega);rcases Ze.1 hx with q|q;exact mb x q
   ·rw[Z1]at q;rw[q];simp only;omega
structure Lw (rs:aa)(i:Int)(o:aa)(n:Nat):Prop where
 p:HQ rs i o
 n:n=o.length
 w:Rw [tI,tI] o
 b:∀ k:Int,0<=k->k<o.length->0<=ag o k 0/\ag o k 0<=64/\0<=ag o k 1/\ag o k 1<=64*i
theorem P5:Lw rs 0 [] 0:=⟨P2,rfl,Rw.nil,fun k k0 k1=>by simp at k1;omega⟩
theorem gP {o:aa}{r:ay}{k:Nat}:(o++[r]).getD k []=if k<o.length then o.getD k []else if k=o.length then r else[]:=by
 rw[Zp,Zp];by_cases c:k<o.length
 ·rw[aa3 c,Z5 c]
 ·rw[aa4 c,ZS (by omega)];by_cases e:k=o.length
  ·rw[aa3 e,e,YW];rfl
  ·rw[aa4 e,ZV (by simp;omega)];rfl
theorem Vp {o:aa}{r:ay}{k:Int}{j:Nat}(k0:0<=k)(k1:k<=o.length):ag (o++[r]) k j=if k<o.length then ag o k j else IK (r.getD j .g):=by
 unfold ag;rw[gP];by_cases c:k<o.length
 ·rw[aa3 c,aa3 (by omega)]
 ·rw[aa4 c,aa4 (by omega),aa3 (by omega)]
theorem P6 {m:Nat}(h:Lw rs i o m)(S:On rs)(i0:0<=i)(i1:i<rs.length)(k:rs.length<=4294967296)(n0:0<(m:Int))(q:ag o ((m:Int)-1) 0+ag o ((m:Int)-1) 1=ag rs i 0):
 Lw rs (i+1) (o.set ((m:Int)-1).toNat [.i (ag o ((m:Int)-1) 0),.i (ag o ((m:Int)-1) 1+ag rs i 1)]) m:=by
 have e:=h.n;subst e;have b:=h.b (o.length-1) (by omega) (by omega);have s:=S.b i i0 i1;refine⟨P3 h.p i0 i1 (by omega) q,by rw[Z6],Je (p:=o.length-1) (m:=ag o (o.length-1) 0) (f:=ag o (o.length-1) 1+ag rs i 1) h.w (by omega) (by omega),fun t t0 t1=>?_⟩;rw[Z6]at t1;have c:=h.b t t0 t1;rw[Mg (by omega) (by omega) t0,Mg (by omega) (by omega) t0];by_cases z:t=o.length-1
 ·rw[aa3 z,aa3 z];show 0<=ag o (o.length-1) 0/\ag o (o.length-1) 0<=64/\0<=ag o (o.length-1) 1+ag rs i 1/\ag o (o.length-1) 1+ag rs i 1<=64*(i+1);omega
 ·rw[aa4 z,aa4 z];omega
theorem P7 {m:Nat}(h:Lw rs i o m)(S:On rs)(i0:0<=i)(i1:i<rs.length)(k:rs.length<=4294967296)(q:(m:Int)<=0\/ag o ((m:Int)-1) 0+ag o ((m:Int)-1) 1≠ag rs i 0):
 Lw rs (i+1) (o++[[.i (ag rs i 0),.i (ag rs i 1)]]) (o++[[L.i (ag rs i 0),L.i (ag rs i 1)]]).length:=by
 have e:=h.n;subst e;have s:=S.b i i0 i1;have l:=h.p.l;refine⟨P4 h.p i0 i1 q,rfl,Rw.append h.w (sr (l:=[(ag rs i 0,ag rs i 1)]) (fun x hx=>by rw[Z1]at hx;rw[hx];simp only;omega) (by unfold maxLen;simp)) (by unfold maxLen;simp only[Zq,Zz];omega),fun t t0 t1=>?_⟩;rw[Zg,Zq,Zz]at t1;rw[Vp t0 (by omega),Vp t0 (by omega)];by_cases c:t<o.length
 ·have b:=h.b t t0 c;rw[aa3 c,aa3 c];omega
 ·rw[aa4 c,aa4 c];show 0<=ag rs i 0/\ag rs i 0<=64/\0<=ag rs i 1/\ag rs i 1<=64*(i+1);omega
end
end Go.V
namespace Go.V
theorem Mj {a0 a1 a2 a4 a5 a6 a7 a8 a9 aA aB aD aL:aa}(h0:Rw [.sl [tI]] a0)(h1:Rw [tB] a1)(h2:Rw [tI,tI] a2)(h4:Rw [tI] a4)(h5:Rw [tI,tI] a5)(h6:Rw [tI,tI,tI] a6)(h7:Rw [tI,tI,tI] a7)(h8:Rw [tI,tI,tI,tI] a8)(h9:Rw [.sl [.sl [tI]]] a9)(h10:Rw [.sl [tI,tI]] aA)(h11:Rw [.sl [tI]] aB)(h13:Rw [tI,tI,tI] aD)(h21:Rw [tI] aL)(hs:av [a0,a1,a2,a4,a5,a6,a7,a8,a9,aA,aB,aD,aL]<=1048576):iI a0 a1 a2 a4 a5 a6 a7 a8 a9 aA aB aD aL:=by
 obtain⟨c0,c1,c2,c4,c5,c6,c7,c8,c9,c10,c11,c13,c21⟩:=Fc hs;exact⟨h0,h1,h2,h4,h5,h6,h7,h8,h9,h10,h11,h13,h21,by omega,by omega,by omega,by omega,by omega,by omega,by omega,by omega,by omega,by omega,by omega,by omega,by omega⟩
end Go.V
namespace Go.V
section
variable {n a0 l0: Int} {rs: aa}
theorem NF {x y:Pr}(hx:0<=x.1/\x.1<=64/\0<=x.2/\x.2<=64)(hy:0<=y.1/\y.1<=64/\0<=y.2/\y.2<=64):Rw [tI,tI] (rowP [x,y]):=sr (fun z hz=>by
 rcases Zi.1 hz with q|q
 ·rw[q];omega
 ·rw[Z1]at q;rw[q];omega) (by unfold maxLen;simp)
theorem K7 {x:Pr}(hx:0<=x.1/\x.1<=64/\0<=x.2/\x.2<=64):Rw [tI,tI] (rowP [x]):=sr (fun z hz=>by
 rw[Z1]at hz;rw[hz];omega) (by unfold maxLen;simp)
theorem DG (T:HI n rs)(g:rngIn n a0 l0=true)(hl:rs.length<=1073741824)(nov:∀ x∈gX rs,zB x (a0,l0)=false):∀ i:Nat,i<=rs.length->∃ o x y d,Bh rs a0 l0 i o x y d/\Rw [tI,tI] o/\o.length<=2*i
 |0,_=>⟨[],a0,l0,false,K1 (DD g T),Rw.nil,Zf _⟩
 | i+1,hi=>by
   obtain⟨o,x,y,d,h,rw_,ol⟩:=DG T g hl nov i (by omega);have e:=dG (es:=rs) (i:=(i:Int)) (by omega) (by omega);have m:(ag rs i 0,ag rs i 1)∈(gX rs).drop (i:Int).toNat:=by rw[drop_at (by omega) e];simp
   have v:=h.v _ m;rw[nov _ (YK m)]at v;have no:¬ (ag rs i 0<x+y/\x<ag rs i 0+ag rs i 1):=fun c=>by rw[wH.2 c]at v;cases v
   have b:=T.b _ (YK m);have hb:=h.b;have:=T.n1;have bp:0<=ag rs i 0/\ag rs i 0<=64/\0<=ag rs i 1/\ag rs i 1<=64:=⟨b.1,by have:=b.2.1;have:=b.2.2;omega,by have:=b.2.1;omega,by have:=b.1;have:=b.2.2;omega⟩;have c:((i+1:Nat):Int)=(i:Int)+1:=by omega
   rw[c];by_cases q1:ag rs i 0+ag rs i 1=x;exact⟨o,_,_,d,K2 T h (by omega) (by omega) no q1,rw_,by omega⟩
   by_cases q2:x+y=ag rs i 0;exact⟨o,_,_,d,K4 T h (by omega) (by omega) no q1 q2,rw_,by omega⟩
   by_cases q3:x<ag rs i 0/\d=false;exact⟨_,_,_,true,K5 T h (by omega) (by omega) no q1 q2 q3.1 q3.2,Rw.append rw_ (NF (x:=(x,y)) (y:=(ag rs i 0,ag rs i 1)) (by simp only;omega) bp) (by unfold maxLen;show _+2<=_;omega),by rw[Zg];show _+2<=_;omega⟩;exact⟨_,_,_,d,Hb T h (by omega) (by omega) no q1 q2 q3,Rw.append rw_ (K7 (x:=(ag rs i 0,ag rs i 1)) bp) (by unfold maxLen;show _+1<=_;omega),by rw[Zg];show _+1<=_;omega⟩
theorem G9 (w:Rw [tI,tI] rs)(hl:rs.length<=1073741824):Rw [tI,tI] (rpL n rs a0 l0)/\(rpL n rs a0 l0).length<=2*rs.length+1:=by
 cases h:rpB n rs a0 l0 with
 |false=>rw[AF h];exact⟨w,by omega⟩
 | true=>
   unfold rpB at h;simp only[Zc,Yk]at h;obtain⟨h1,h2,h3⟩:=h;have T:=ve h1;have nov:∀ x∈gX rs,zB x (a0,l0)=false:=fun x hx=>by have:=h3 x hx;simpa using this
   obtain⟨o,x,y,d,p,r,l⟩:=DG T h2 hl nov rs.length (Zf _);have e:=su h1 h2 p (by omega);rw[e.2];cases d with
   |true=>rw[aa3 rfl];exact⟨r,by omega⟩
   | false=>
     rw[aa4 (by simp)];have b:=p.b;exact⟨Rw.append r (K7 (x:=(x,y)) (by simp only;omega)) (by unfold maxLen;show _+1<=_;omega),by rw[Zg];show _+1<=_;omega⟩
end
theorem LR {c u e a0 a1 a2 a4:aa}{a3:Int}(m:vM c u e)(h:kerOk a0 a1 a2 a3 a4=true)(n:a3≠100000):ccB c u e a3 a4=true:=by
 have k:=(pN h).2;unfold ccB;rw[aa0 n,FW m k.1 k.2.1 k.2.2];rfl
def bsB (m:Bool)(k v p:Int):Bool:=m&&(decide (k=p)||decide (v=p))
theorem OO {m:Bool}{k v p:Int}(h:m=false):bsB m k v p=false:=by subst h;rfl
theorem OM {m:Bool}{k v p:Int}(h:m=true)(e:k=p):bsB m k v p=true:=by subst h;unfold bsB;rw[aa0 e];rfl
theorem ON {m:Bool}{k v p:Int}(h:m=true)(e:k≠p):bsB m k v p=decide (v=p):=by subst h;unfold bsB;rw[aa1 e];rfl
def dsC (a0 a1 a2 a6:aa)(i:Int):aa:=duC a0 a1 a2 (ag a6 i 0) 1
def dsU (a0 a1 a2 a6:aa)(i:Int):aa:=duU a0 a1 a2 (ag a6 i 0) 1
def dsE (a0 a1 a2 a6:aa)(i:Int):aa:=duE a0 a1 a2 (ag a6 i 0) 1
def dsF (a0 a1 a2 a5 a6:aa)(i:Int):aa:=rpL (zlI (dsE a0 a1 a2 a6 i)) a5 (ag a6 i 0) 1
def dsS (a6:aa)(i:Int):aa:=delL a6 i (i+1)
theorem Ff {a0 a1 a2 a6:aa}{i:Int}:dsC a0 a1 a2 a6 i=kuC a0 a2 (ag a6 i 0)/\dsU a0 a1 a2 a6 i=kuU a1 a2 (ag a6 i 0)/\dsE a0 a1 a2 a6 i=kuE a2 (ag a6 i 0):=TD
theorem CI {fs:List Ty}{es:aa}{i j:Int}(h:Rw fs es)(ij:i<=j):Rw fs (delL es i j)/\(delL es i j).length<=es.length:=by
 have l:(delL es i j).length<=es.length:=by unfold delL;rw[Zg,Zl,Zv];omega
 refine⟨⟨Z4 l h.1,fun e he=>?_⟩,l⟩;unfold delL at he;rcases Ze.1 he with q|q;exact h.2 e (Xv q);exact h.2 e (YK q)
end Go.V
namespace Go.V
theorem uI {o:aa}{n:Int}{j:Nat}(h:Rw [tI,tI,tI] o)(n0:0<=n)(n1:n<o.length)(hj:j<3):∃ rec o',bR (L.s 3 o) [(n.toNat,j)]=some (rec,o')/\o'+[L.v (Zn ZC 0)].length<=rec.length/\Yu [L.v (Zn ZC 0)].length (Y4 o' rec)=jT ak (L.s 3 o) [(n.toNat,j)] 0 [L.v (Zn ZC 0)]:=by
 rcases(show j=0\/j=1\/j=2 by omega)with rfl|rfl|rfl
 ·exact gN (z0:=[.i 0,.i 0,.i 0]) (z:=[.i 0]) h.wf (by omega) rfl (by decide)
 ·exact gN (z0:=[.i 0,.i 0,.i 0]) (z:=[.i 0]) h.wf (by omega) rfl (by decide)
 ·exact gN (z0:=[.i 0,.i 0,.i 0]) (z:=[.i 0]) h.wf (by omega) rfl (by decide)
section
variable {a0 a1 a2: aa} {a3: Int} {a4 a5 a6 a7 a8 a9 aA aB: aa} {aC: Int} {aD: aa} {aE aF aG aH: Int} {aI: Bool} {aJ aK: Int} {aL: aa} {aM aN: Int} {i: Int}
theorem O7 (hc:iI a0 a1 a2 a4 a5 a6 a7 a8 a9 aA aB aD aL):iI a0 a1 a2 a4 a5 (delL a6 i (i+1)) a7 a8 a9 aA aB aD aL:=by
 have s:=CI (i:=i) (j:=i+1) hc.r6 (by omega);have c6:=hc.c6;have n6:=hc.r6.cnt rfl;have z6:=s.1.cnt rfl;exact⟨hc.r0,hc.r1,hc.r2,hc.r4,hc.r5,s.1,hc.r7,hc.r8,hc.r9,hc.r10,hc.r11,hc.r13,hc.r21,hc.c0,hc.c1,hc.c2,hc.c4,hc.c5,by rw[z6];have:=s.2;omega,hc.c7,hc.c8,hc.c9,hc.c10,hc.c11,hc.c13,hc.c21⟩
theorem L0 {a6:aa}{i:Int}(i0:0<=i)(i1:i<a6.length):[]++jU a6 (X0 0) (Bs i 0)++jU a6 (i+1).toNat (Bs (a6.length:Int) (i+1))=dsS a6 i:=by
 unfold dsS delL jU Bs;rw[List.nil_append];have e:Yu (((a6.length:Int).toNat- (i+1).toNat:Nat)) (Y4 (i+1).toNat a6)=Y4 (i+1).toNat a6:=Yb (by rw[Zv];omega);rw[e];simp
theorem TC:dsF a0 a1 a2 a5 a6 i=rpL (zlI (kuE a2 (ag a6 i 0))) a5 (ag a6 i 0) 1:=by unfold dsF;rw[Ff.2.2]
section
variable {k m: Bool} {c x y p: Int} {sp: aa}
end
end
end Go.V
namespace Go.V
theorem LO {r0 r1 r2 r3 r4 r5 r6 r7 r8 r9 r10 r11 r12:aa}(h:iI r0 r1 r2 r3 r4 r5 r6 r7 r8 r9 r10 r11 r12):av [r0,r1,r2,r3,r4,r5,r6,r7,r8,r9,r10,r11,r12]<=1099511627776:=by
 have c0:=h.c0;have c1:=h.c1;have c2:=h.c2;have c3:=h.c4;have c4:=h.c5;have c5:=h.c6;have c6:=h.c7;have c7:=h.c8;have c8:=h.c9;have c9:=h.c10;have c10:=h.c11;have c11:=h.c13;have c12:=h.c21;simp only[av];omega
section
variable {a0 a1 a2: aa} {a3: Int} {a4 a5 a6 a7 a8 a9 aA aB: aa} {aC: Int} {aD: aa} {aE aF aG aH: Int} {aI: Bool} {aJ aK: Int} {aL: aa} {aM aN: Int} {p: Int}
end
end Go.V
namespace Go.V
end Go.V
namespace Go.V
def V0 (p n s z:Int):Bool:=lgOk p n s&&inR z 9 s
structure VP (p n s z:Int):Prop where
 g:lgOk p n s=true
 zi:inR z 9 1000=true
 z0:9<=z/\z<=1000/\z<=s
 p0:0<=p
 n1:p+n<=32
 m0:1<=pfN z/\pfN z<=n
 m1:z<=pfN z*16/\pfN z*16<z+16
def V3 (p ad:Int):Bool:=eqB (bK .mul Za p 16) ad
def T7 (lg:aa)(ad j:Int):Bool:=V3 (ag lg j 0) ad
def Qi (lg:aa)(ad:Int):Int:=cr (T7 lg ad) lg.length
def U7 (cs:aa)(f k:Int):Nat->aa
 |0=>cs
 |i+1=>Lc (U7 cs f k i) f (k+i) 0
def V7 (cs es:aa)(a n:Int):aa:=U7 cs (peF es (a/16)) (a%16) n.toNat
structure Wr (cs us es:aa)(f k i:Int)(c:aa):Prop where
 e:c=U7 cs f k i.toNat
 m:vM c us es
 w:Rw [.sl [tI]] c
section
variable {cs us es c: aa} {f k i p: Int}
end
end Go.V
namespace Go.V
def NX (a7:aa)(ad:Int):Int:=ag a7 (Qi a7 ad) 0
def U9 (a7:aa)(ad:Int):Int:=ag a7 (Qi a7 ad) 1
def VJ (a7:aa)(ad:Int):Int:=ag a7 (Qi a7 ad) 2
def VI (a0 a2 a7:aa)(ad z:Int):aa:=V7 a0 a2 (NX a7 ad*16+z) ((16- (NX a7 ad*16+z)%16)%16)
section
variable {a0 a1 a2: aa} {a3: Int} {a4 a5 a6 a7 a8 a9 aA aB: aa} {aC: Int} {aD: aa} {aE aF aG aH: Int} {aI: Bool} {aJ aK: Int} {aL: aa} {aM aN ad z k: Int}
structure Wt (a1 a2 a5 a7 a8 a0:aa)(ad z:Int):Prop where
 k0:0<=Qi a7 ad
 k1:Qi a7 ad<a7.length
 p:NX a7 ad*16=ad
 t:VP (NX a7 ad) (U9 a7 ad) (VJ a7 ad) z
 b:V0 (NX a7 ad) (U9 a7 ad) (VJ a7 ad) z=true
 o0:0<=obI a8 ad
 o1:obI a8 ad<a8.length
 m:vM a0 a1 a2
 g:∀ q:Int,NX a7 ad<=q->q<NX a7 ad+U9 a7 ad->peM a2 q≠0
 f:a5.length<=32
 d:vM (VI a0 a2 a7 ad z) a1 a2
 dw:Rw [.sl [tI]] (VI a0 a2 a7 ad z)
end
end Go.V
namespace Go.V
theorem xt {o:aa}{n:Int}(h:Rw [tI,tI,tI] o)(n0:0<=n)(n1:n<o.length):∃ rec o',bR (L.s 3 o) [(n.toNat,0)]=some (rec,o')/\o'+[L.v (Zn ZC 0),L.v (Zn ZC 0),L.v (Zn ZC 0)].length<=rec.length/\Yu [L.v (Zn ZC 0),L.v (Zn ZC 0),L.v (Zn ZC 0)].length (Y4 o' rec)=jT ak (L.s 3 o) [(n.toNat,0)] 0 [L.v (Zn ZC 0),L.v (Zn ZC 0),L.v (Zn ZC 0)]:=
 gN (z0:=[.i 0,.i 0,.i 0]) (z:=[.i 0,.i 0,.i 0]) h.wf (by omega) rfl (by decide)
theorem Le {o:aa}{n:Int}(h:Rw [tI,tI,tI] o)(n0:0<=n)(n1:n<o.length):∃ rec o',bR (.s 3 o) [(n.toNat,0)]=some (rec,o')/\o'+3<=rec.length:=fm (by omega) (by rw[h.eta n0 n1];exact Zf _)
section
variable {a0 a1 a2 a5 a7 a8 c: aa} {ad z x: Int}
end
end Go.V
namespace Go.V
section
variable {a0 a1 a2: aa} {a3: Int} {a4 a5 a6 a7 a8 a9 aA aB: aa} {aC: Int} {aD: aa} {aE aF aG aH: Int} {aI: Bool} {aJ aK: Int} {aL: aa} {aM aN ad z: Int}
end
end Go.V
namespace Go.V
section
variable {cs us es rs: aa} {c p q m: Int}
end
end Go.V
namespace Go.V
structure Wg (cs es:aa)(p q:Int)(xs:aa)(i:Int)(d:aa):Prop where
 z:i=0->d=cs
 o:0<i->inR (ag xs 0 0) 0 15=true/\d=Lc cs (peF es q) (ag xs 0 0) (ag (aR cs (peF es p) 0) (ag xs 0 0) 0)
section
variable {cs us es xs d: aa} {p q i: Int}
end
end Go.V
namespace Go.V
def ifN (b:Bool)(x y:Int):Int:=if b=true then x else y
section
variable {cs us es rs xs: aa} {c kp mv ph nx: Int} {k: Bool}
structure We (kp mv:Int)(xs:aa)(ph nx:Int):Prop where
 k0:0<=kp
 k1:kp<=31
 m0:0<=mv
 m1:mv<=31
 p0:0<=ph
 p1:ph<=5
 n0:0<=nx
 n1:nx<=xs.length
 x:∀ i:Int,0<=i->i<xs.length->0<=ag xs i 0/\ag xs i 0<=15
end
end Go.V
namespace Go.V
section
variable {a0 a1 a2: aa} {a3: Int} {a4 a5 a6 a7 a8 a9 aA aB: aa} {aC: Int} {aD: aa} {aJ aK: Int} {aL: aa} {aM aN: Int} {g: Bool}
end
end Go.V
namespace Go.V
def woN (b i:Int):Int:=if slB b i=true then bK .andNot Za b (Jk .shl Za 1 i)else b
theorem LJ {a b:Int}:bK .andNot Za a b=(sJ a&&& ~~~ sJ b).toInt:=DZ _
theorem RU {t:Nat}(ht:t<=15):Jk .shl Za 1 (t:Int)=((2^t:Nat):Int):=by
 show YT Za (1*2^(min (t:Int).toNat 64))=_;rw[show min (t:Int).toNat 64=t by omega,Int.one_mul];have h:t=0\/t=1\/t=2\/t=3\/t=4\/t=5\/t=6\/t=7\/t=8\/t=9\/t=10\/t=11\/t=12\/t=13\/t=14\/t=15:=by omega
 rcases h with rfl|rfl|rfl|rfl|rfl|rfl|rfl|rfl|rfl|rfl|rfl|rfl|rfl|rfl|rfl|rfl<;>rfl
theorem HF {b:Int}{i t:Nat}(b0:0<=b)(b1:b<65536)(hi:i<=15)(ht:t<=15):(0<=woN b i/\woN b i<=b)/\hsB (woN b i) t=(hsB b t&&decide (t≠i)):=by
 have hs:slB b i=true:=Er.2 ⟨b0,by omega,by omega⟩;obtain⟨n,rfl⟩:=Z3 b0;have w:woN (n:Int) i=(sJ n&&& ~~~ sJ ((2^i:Nat):Int)).toInt:=by unfold woN;rw[aa3 hs,RU hi,LJ]
 have x:(sJ (n:Int)).toNat=n:=by unfold sJ;rw[X1,XB];omega
 have l:(sJ (n:Int)&&& ~~~ sJ ((2^i:Nat):Int)).toNat<=n:=by rw[aaD];exact Z4 Nat.and_le_left (by rw[x];exact Zf _)
 have e:(sJ (n:Int)&&& ~~~ sJ ((2^i:Nat):Int)).toInt=((sJ (n:Int)&&& ~~~ sJ ((2^i:Nat):Int)).toNat:Int):=aaE (by omega);have bd:0<=woN (n:Int) i/\woN (n:Int) i<=n:=by rw[w,e];omega
 refine⟨bd,?_⟩;rw[Bz bd.1 (by omega) ht,Bz b0 b1 ht,w,LN,BitVec.getLsbD_and,BitVec.getLsbD_not];have p:(sJ ((2^i:Nat):Int)).getLsbD t=decide (t=i):=by
  unfold sJ;rw[X1,aaF,Nat.testBit_two_pow,aa0 (show t<64 by omega),YB];by_cases c:t=i
  ·rw[aa0 c,aa0 c.symm]
  ·rw[aa1 c,aa1 (fun e=>c e.symm)]
 rw[p,aa0 (show t<64 by omega),YB];by_cases c:t=i
 ·rw[aa0 c,aa1 (fun h=>h c)];rfl
 ·rw[aa1 c,aa0 c];rfl
theorem Iz {t:Int}:hsB 0 t=false:=by
 cases q:hsB 0 t with
 |false=>rfl
 | true=>
   exfalso;have s:slB 0 t=true:=by
    cases s:slB 0 t with
    |true=>rfl
    |false=>rw[FD s]at q;cases q
   have r:=Er.1 s;obtain⟨n,rfl⟩:=Z3 r.2.1;rw[Bz (by omega) (by omega) (by omega)]at q;simp[sJ]at q
structure oh (S:aa):Prop where
 s:∀ i:Nat,i<S.length->spOk (ag S i 0) (ag S i 1) (ag S i 2)=true
 d:∀ i j:Nat,i<S.length->j<S.length->ag S i 0=ag S j 0->i=j
structure my (S:aa)(a:Int)(i:Nat):Prop where
 l:i<S.length
 p:ag S i 0=a/16
 b:hsB (ag S i 2) ((a-ag S i 0*16)/clsSz (ag S i 1))=true
 o:(a-ag S i 0*16)%clsSz (ag S i 1)=0
theorem NO {sp lg:aa}(h:Lx sp lg):oh sp:=⟨h.s,h.ss⟩
section
variable {S: aa} {a b: Int} {i j: Nat}
theorem KB (g:oh S)(h:my S a i):zC (ag S i 0) (ag S i 1) (ag S i 2) a=true:=by
 have p:=h.p;exact rQ.2 ⟨g.s i h.l,by omega,by omega⟩
theorem gI (g:oh S)(h:my S a i):fk S a=i/\spI S (a/16)=i/\sy S a i=(a-ag S i 0*16)/clsSz (ag S i 1):=by
 have t:=KB g h;refine⟨?_,?_,?_⟩
 ·refine dz (fun k k0 k1=>?_) (by omega) (by have:=h.l;omega) (xG.2 t);refine iz ?_;cases c:wJ S a k with
  |false=>rfl
  | true=>
    exfalso;have u:=(rQ.1 (xG.1 c)).2;have p:=h.p;have e:=g.d k.toNat i (by have:=h.l;omega) h.l (by rw[Zt k0];omega);omega
 ·refine dz (fun k k0 k1=>?_) (by omega) (by have:=h.l;omega) (ui h.p);refine iz ?_;cases c:isSp S (a/16) k with
  |false=>rfl
  | true=>
    exfalso;have c':ag S k 0=a/16:=aa5 c;have p:=h.p;have e:=g.d k.toNat i (by have:=h.l;omega) h.l (by rw[Zt k0];omega);omega
 ·unfold sy saS;rw[aa3 t]
end
end Go.V
namespace Go.V
def CQ (S:aa)(i s:Int):aa:=S.set i.toNat [.i (ag S i 0),.i (ag S i 1),.i (woN (ag S i 2) s)]
def eZ (S:aa)(a:Int):aa:=CQ S (fk S a) (sy S a (fk S a))
def A8 (me:Bool)(kp mv:Int)(S:aa)(a:Int):Bool:=decide (ag (eZ S a) (fk S a) 2=0)&& !bsB me kp mv (ag (eZ S a) (fk S a) 0)
structure Ct where
 C:aa
 U:aa
 E:aa
 F:aa
 S:aa
def f1 (me:Bool)(kp mv:Int)(s:Ct)(a:Int):Ct:=
 ⟨ifR (A8 me kp mv s.S a) (dsC s.C s.U s.E (eZ s.S a) (fk s.S a)) s.C,ifR (A8 me kp mv s.S a) (dsU s.C s.U s.E (eZ s.S a) (fk s.S a)) s.U,ifR (A8 me kp mv s.S a) (dsE s.C s.U s.E (eZ s.S a) (fk s.S a)) s.E,
  ifR (A8 me kp mv s.S a) (dsF s.C s.U s.E s.F (eZ s.S a) (fk s.S a)) s.F,ifR (A8 me kp mv s.S a) (dsS (eZ s.S a) (fk s.S a)) (eZ s.S a)⟩
structure N8 (s:Ct):Prop where
 m:vM s.C s.U s.E
 rc:Rw [.sl [tI]] s.C
 ru:Rw [tB] s.U
 re:Rw [tI,tI] s.E
 rf:Rw [tI,tI] s.F
 rs:Rw [tI,tI,tI] s.S
 lf:s.F.length<=65
 ls:s.S.length<=1073741824
 g:oh s.S
theorem E8 {n:Int}:∀ {l:List Pr},yc l->(∀ x∈l,1<=x.2/\x.1+x.2<=n)->∀ {m:Int},(∀ x,l.head?=some x->m<=x.1)->l=[]\/m+l.length<=n
 |[],_,_,_,_=>.inl rfl
 |[x],_,b,m,h=>.inr (by have:=b x (by simp);have:=h x rfl;simp only[Zq,Zz];omega)
 | x::y::l,c,b,m,h=>by
   have q:=E8 (l:=y::l) c.2.2 (fun z hz=>b z (by simp only[Zi]at hz ⊢;exact .inr hz)) (m:=m+1) (fun z hz=>by
    simp only[List.head?_cons,Yd]at hz;subst hz;have:=b x (by simp);have:=h x rfl;have:=c.2.1;omega)
   rcases q with q|q
   ·cases q
   ·right;simp only[Zq]at q ⊢;omega
theorem G7 {n:Int}{rs:aa}(h:rgOk n rs=true):rs.length<=32:=by
 have T:=ve h;have q:=E8 (n:=n) T.c (fun x hx=>⟨(T.b x hx).2.1,(T.b x hx).2.2⟩) (m:=0) (fun x hx=>(T.b x (List.mem_of_mem_head? hx)).1);have l:(gX rs).length=rs.length:=by unfold gX;rw[YG]
 have n1:=T.n1;rcases q with q|q
 ·rw[q]at l;simp only[Zz]at l;omega
 ·omega
theorem Jc {n a l:Int}{rs:aa}(w:Rw [tI,tI] rs)(hl:rs.length<=65):(rpL n rs a l).length<=65:=by
 cases h:rpB n rs a l with
 |false=>rw[AF h];exact hl
 | true=>
   have g:rgOk n rs=true:=by unfold rpB at h;simp only[Zc]at h;exact h.1
   have q:=G9 (n:=n) (a0:=a) (l0:=l) w (by omega);have:=G7 g;omega
section
variable {S: aa} {a b x: Int} {i j: Nat}
theorem Ae (h:i<S.length)(s k:Int)(k0:0<=k):ag (CQ S i s) k 0=ag S k 0/\ag (CQ S i s) k 1=ag S k 1/\ag (CQ S i s) k 2=if k=i then woN (ag S i 2) s else ag S k 2:=by
 unfold CQ;refine⟨?_,?_,?_⟩
 ·rw[Mg (by omega) (by omega) k0];split
  ·rename_i e;rw[e];rfl
  ·rfl
 ·rw[Mg (by omega) (by omega) k0];split
  ·rename_i e;rw[e];rfl
  ·rfl
 ·rw[Mg (by omega) (by omega) k0];rfl
theorem oU {s:Int}:(CQ S i s).length=S.length:=Z6
theorem NQ {p k b b':Int}(h:spOk p k b=true)(h0:0<=b')(h1:b'<=b):spOk p k b'=true:=by
 unfold spOk bmOk at h ⊢;simp only[Zc,bB]at h ⊢;exact⟨h.1,h.2.1,h0,by omega⟩
theorem TL (g:oh S)(h:i<S.length){t:Nat}(ht:t<=15):oh (CQ S i t):=by
 have sb:=yS (g.s i h);refine⟨fun k hk=>?_,fun k k' hk hk' e=>?_⟩
 ·rw[oU]at hk;have q:=Ae h t k (by omega);rw[q.1,q.2.1,q.2.2];split
  ·rename_i e;have e':k=i:=by omega
   subst e';have w:=(HF sb.1 sb.2 ht (Zd 15)).1;exact NQ (g.s k h) w.1 w.2
  ·exact g.s k hk
 ·rw[oU]at hk hk';rw[(Ae h t k (by omega)).1,(Ae h t k' (by omega)).1]at e;exact g.d k k' hk hk' e
theorem vm (g:oh S)(h:my S a i):∃ t:Nat,t<=15/\sy S a i=t/\hsB (ag S i 2) t=true:=by
 have q:=gI g h;have b:=h.b;rw[<-q.2.2]at b;have s:slB (ag S i 2) (sy S a i)=true:=by
  cases s:slB (ag S i 2) (sy S a i)with
  |true=>rfl
  |false=>rw[FD s]at b;cases b
 have r:=Er.1 s;exact⟨(sy S a i).toNat,by omega,by omega,by rw[Zt r.2.1];exact b⟩
theorem Pn (g:oh S)(h:my S a i)(k:my S b j)(ne:a≠b):my (eZ S a) b j:=by
 obtain⟨t,ht,es,hb⟩:=vm g h;have q:=gI g h;have e1:eZ S a=CQ S i t:=by unfold eZ;rw[q.1,es]
 have f:=Ae h.l t j (by omega);rw[e1];refine⟨by rw[oU];exact k.l,by rw[f.1];exact k.p,?_,by rw[f.1,f.2.1];exact k.o⟩;rw[f.1,f.2.1,f.2.2];split
 ·rename_i e;have e':j=i:=by omega
  subst e';obtain⟨u,hu,eu,hbu⟩:=vm g k;have qk:=gI g k;have sb:=yS (g.s j h.l);rw[<-qk.2.2,eu,(HF sb.1 sb.2 ht hu).2,hbu];have:u≠t:=fun c=>by
   subst c;have o1:=h.o;have o2:=k.o;have w1:=q.2.2;have w2:=qk.2.2;rw[es]at w1;rw[eu]at w2;have d1:=aaJ (a-ag S j 0*16) (clsSz (ag S j 1));have d2:=aaJ (b-ag S j 0*16) (clsSz (ag S j 1));rw[<-w1,o1]at d1;rw[<-w2,o2]at d2;omega
  rw[aa0 this];rfl
 ·exact k.b
theorem dO {k:Int}(h:i<S.length)(k0:0<=k)(n:Nat):ag (delL S i (i+1)) k n=ag S (if k<i then k else k+1) n:=by
 unfold delL ag;simp only[Zp];rw[show((i:Int)).toNat=i by omega,show((i:Int)+1).toNat=i+1 by omega];by_cases c:k<i
 ·rw[aa3 c,Z5 (by rw[Zl];omega),Y5 (by omega)]
 ·rw[aa4 c,ZS (by rw[Zl];omega),List.getElem?_drop];rw[show i+1+(k.toNat- (Yu i S).length)=(k+1).toNat by rw[Zl];omega]
theorem CJ (h:i<S.length):(delL S i (i+1)).length+1=S.length:=by
 unfold delL;rw[Zg,Zl,Zv];omega
theorem O2 (g:oh S)(h:i<S.length):oh (delL S i (i+1)):=by
 have l:=CJ h;have z:∀ k:Nat,k<(delL S i (i+1)).length->∃ k':Nat,k'<S.length/\(if(k:Int)<i then(k:Int)else(k:Int)+1)=k'/\(k'=if k<i then k else k+1):=fun k hk=>by
  by_cases c:k<i;exact⟨k,by omega,by rw[aa3 (by omega)],by rw[aa3 c]⟩;exact⟨k+1,by omega,by rw[aa4 (by omega)];omega,by rw[aa4 c]⟩
 refine⟨fun k hk=>?_,fun k k' hk hk' e=>?_⟩
 ·obtain⟨u,u1,u2,_⟩:=z k hk;rw[dO h (by omega),dO h (by omega),dO h (by omega),u2];exact g.s u u1
 ·obtain⟨u,u1,u2,u3⟩:=z k hk;obtain⟨v,v1,v2,v3⟩:=z k' hk';rw[dO h (by omega),dO h (by omega),u2,v2]at e;have:=g.d u v u1 v1 e;subst this;rw[u3]at v3;split at v3<;>split at v3<;>omega
theorem LZ (h:i<S.length)(z:ag S i 2=0)(k:my S b j):∃ j',my (delL S i (i+1)) b j':=by
 have l:=CJ h;have ne:j≠i:=fun e=>by subst e;have:=k.b;rw[z,Iz]at this;cases this
 have kl:=k.l;by_cases c:j<i
 ·refine⟨j,by omega,?_,?_,?_⟩
  ·rw[dO h (by omega),aa3 (by omega)];exact k.p
  ·rw[dO h (by omega),dO h (by omega),dO h (by omega),aa3 (by omega)];exact k.b
  ·rw[dO h (by omega),dO h (by omega),aa3 (by omega)];exact k.o
 ·refine⟨j-1,by omega,?_,?_,?_⟩
  ·rw[dO h (by omega),aa4 (by omega),show((j-1:Nat):Int)+1=j by omega];exact k.p
  ·rw[dO h (by omega),dO h (by omega),dO h (by omega),aa4 (by omega),show((j-1:Nat):Int)+1=j by omega];exact k.b
  ·rw[dO h (by omega),dO h (by omega),aa4 (by omega),show((j-1:Nat):Int)+1=j by omega];exact k.o
end
end Go.V
namespace Go.V
theorem Kl {S:aa}{i t:Nat}(w:Rw [tI,tI,tI] S)(g:oh S)(h:i<S.length)(ht:t<=15):Rw [tI,tI,tI] (CQ S i t):=by
 have ok:=gW (g.s i h);have sb:=yS (g.s i h);have wo:=(HF sb.1 sb.2 ht (Zd 15)).1;have k:=bB.1 ok.2.2.1;exact w.set (show cf [tI,tI,tI] [.i (ag S i 0),.i (ag S i 1),.i (woN (ag S i 2) t)]from⟨⟨rfl,show-9223372036854775808<=ag S i 0/\ag S i 0<=9223372036854775807 from by omega⟩,⟨rfl,show-9223372036854775808<=ag S i 1/\ag S i 1<=9223372036854775807 from by omega⟩,⟨rfl,show-9223372036854775808<=woN (ag S i 2) t/\woN (ag S i 2) t<=9223372036854775807 from by omega⟩,trivial⟩) _
section
variable {s: Ct} {a b: Int} {i j: Nat} {me: Bool} {kp mv: Int}
theorem L5 (h:N8 s)(v:my s.S a i):N8 (f1 me kp mv s a):=by
 obtain⟨t,ht,es,hb⟩:=vm h.g v;have q:=gI h.g v;have e1:eZ s.S a=CQ s.S i t:=by unfold eZ;rw[q.1,es]
 have g1:oh (eZ s.S a):=by rw[e1];exact TL h.g v.l ht
 have w1:Rw [tI,tI,tI] (eZ s.S a):=by rw[e1];exact Kl h.rs h.g v.l ht
 have l1:(eZ s.S a).length=s.S.length:=by rw[e1];exact oU
 have vl:=v.l;unfold f1;cases c:A8 me kp mv s.S a with
 |false=>exact⟨h.m,h.rc,h.ru,h.re,h.rf,w1,h.lf,by show(eZ s.S a).length<=_;rw[l1];exact h.ls,g1⟩
 | true=>
   rw[q.1];have k:=Ff (a0:=s.C) (a1:=s.U) (a2:=s.E) (a6:=eZ s.S a) (i:=i);have r:=Kv (p:=ag (eZ s.S a) i 0) h.rc h.ru h.re;have d:=CI (i:=i) (j:=(i:Int)+1) w1 (by omega);refine⟨?_,?_,?_,?_,?_,d.1,?_,?_,O2 g1 (by rw[l1];exact vl)⟩
   ·show vM (dsC _ _ _ _ _) (dsU _ _ _ _ _) (dsE _ _ _ _ _);rw[k.1,k.2.1,k.2.2];exact Qb h.m
   ·show Rw _ (dsC _ _ _ _ _);rw[k.1];exact r.1
   ·show Rw _ (dsU _ _ _ _ _);rw[k.2.1];exact r.2.1
   ·show Rw _ (dsE _ _ _ _ _);rw[k.2.2];exact r.2.2
   ·exact(G9 (n:=zlI (dsE s.C s.U s.E (eZ s.S a) i)) (a0:=ag (eZ s.S a) i 0) (l0:=1) h.rf (by have:=h.lf;omega)).1
   ·exact Jc (n:=zlI (dsE s.C s.U s.E (eZ s.S a) i)) (a:=ag (eZ s.S a) i 0) (l:=1) h.rf h.lf
   ·have:=h.ls;show(delL _ _ _).length<=_;omega
theorem Pd (h:N8 s)(v:my s.S a i)(k:my s.S b j)(ne:a≠b):∃ j',my (f1 me kp mv s a).S b j':=by
 have q:=gI h.g v;have w:=Pn h.g v k ne;unfold f1;cases c:A8 me kp mv s.S a with
 |false=>exact⟨j,w⟩
 | true=>
   obtain⟨t,ht,es,hb⟩:=vm h.g v;have e1:eZ s.S a=CQ s.S i t:=by unfold eZ;rw[q.1,es]
   have l1:(eZ s.S a).length=s.S.length:=by rw[e1];exact oU
   unfold A8 at c;simp only[Zc,aa2]at c;have z:=c.1;rw[q.1]at z ⊢;exact LZ (by rw[l1];exact v.l) z w
end
def fN (me:Bool)(kp mv:Int)(l:aa)(s:Ct):Nat->Ct
 |0=>s
 |n+1=>f1 me kp mv (fN me kp mv l s n) (ag l n 0)
structure N7 (l:aa)(i:Nat)(s:Ct):Prop where
 fr:N8 s
 q:∀ j:Nat,i<=j->j<l.length->∃ k,my s.S (ag l j 0) k
def N6 (l:aa):Prop:=∀ i j:Nat,i<j->j<l.length->ag l i 0≠ag l j 0
theorem Pj {l:aa}{i:Nat}{s:Ct}{me:Bool}{kp mv:Int}(d:N6 l)(h:N7 l i s)(hi:i<l.length):N7 l (i+1) (f1 me kp mv s (ag l i 0)):=by
 obtain⟨k,v⟩:=h.q i (Zf _) hi;refine⟨L5 h.fr v,fun j j0 j1=>?_⟩;obtain⟨k',v'⟩:=h.q j (by omega) j1;exact Pd h.fr v v' (d i j (by omega) j1)
theorem Mb {l:aa}{s:Ct}{me:Bool}{kp mv:Int}(d:N6 l)(h:N7 l 0 s):∀ n:Nat,n<=l.length->N7 l n (fN me kp mv l s n)
 |0,_=>h
 |n+1,hn=>Pj d (Mb d h n (by omega)) (by omega)
theorem D8 {p:Int->Bool}{n:Nat}(h:¬ 0<=cr p n){j:Nat}(hj:j<n):p j=false:=by
 unfold cr at h;split at h
 ·exact absurd (by omega) h
 ·rename_i e;have:=aaw.1 e j (Yg.2 hj)
  simpa using this
section
variable {a0 a1 a2: aa} {a3: Int} {a4 a5 a6 a7 a8 a9 aA aB: aa} {aC: Int} {aD: aa} {aE aF aG aH: Int} {aI: Bool} {aJ aK: Int} {aL: aa} {aM aN: Int}
theorem Rp {rm:Int}{qs:aa}(h:quarOk rm qs=true):N6 qs:=fun i j ij hj e=>by
 unfold quarOk at h;simp only[Zc]at h;have q:=cG.1 h.1 j (by omega) (by omega);unfold yM stlOk at q;simp only[Zc,YM]at q;have nq:=q.2.2.2.1;unfold qtB qtI at nq;have l:(qs.take (j:Int).toNat).length=j:=by rw[Zl];omega
 have z:=D8 (of_decide_eq_false nq) (j:=i) (by rw[l];exact ij);unfold uB at z;have t:ag (qs.take (j:Int).toNat) i 0=ag qs i 0:=by
  unfold ag;rw[Zp (l:=Yu _ _),Zp (l:=qs),Y5 (by omega)]
 rw[t,e]at z;unfold eqB at z;exact absurd rfl (of_decide_eq_false z)
theorem Ml {S L:aa}{a k:Int}(h:hlB S L a k=true):∃ i,my S a i:=by
 unfold hlB at h;simp only[Zc,aa2]at h;obtain⟨e,q,l,t⟩:=O5 h.1;have o:=h.2.1;unfold dnO at o;rw[aa3 q]at o;have u:=(rQ.1 t).2;have hk:=h.1;unfold dnK at hk;rw[aa3 q]at hk;have hb:hsB (ag S (fk S a) 2) (sy S a (fk S a))=true:=by
  cases c:hsB (ag S (fk S a) 2) (sy S a (fk S a))with
  |true=>rfl
  |false=>rw[c]at hk;simp at hk
 unfold sy saS at hb;rw[aa3 t]at hb;unfold NN saO at o;rw[aa3 t]at o;obtain⟨n,en⟩:=Z3 q;rw[en]at hb o u l;exact⟨n,by omega,by omega,hb,o⟩
theorem Pz (hc:iI a0 a1 a2 a4 a5 a6 a7 a8 a9 aA aB aD aL)(h:hpI a0 a1 a2 a3 a4 a5 a6 a7 a8 a9 aA aB aC aD aE aF aG aH aI aJ aK aL aM aN=true):N8 ⟨a0,a1,a2,a5,a6⟩:=by
 have T:=nC h;have l6:=aO (es:=a6);have c6:=hc.c6;exact⟨(pN T.k).1,hc.r0,hc.r1,hc.r2,hc.r5,hc.r6,by have:=G7 T.r;show a5.length<=65;omega,by show a6.length<=_;omega,NO (M1 T.l)⟩
theorem PF (h:hpI a0 a1 a2 a3 a4 a5 a6 a7 a8 a9 aA aB aC aD aE aF aG aH aI aJ aK aL aM aN=true)(j:Nat)(hj:j<aD.length):∃ k,my a6 (ag aD j 0) k:=by
 have T:=(nC h).h;unfold hoI at T;simp only[Zc]at T;have q:=cG.1 T.2.1 j (by omega) (by omega);unfold B4 qA at q;simp only[Zc]at q;exact Ml q.1
theorem Mh {l:aa}{n j k:Nat}(h:j<n):ag (l.take n) j k=ag l j k:=by
 unfold ag;rw[Zp (l:=Yu _ _),Zp (l:=l),Y5 (by omega)]
theorem Ih {l:aa}{n:Nat}(h:N6 l):N6 (l.take n):=fun i j ij hj=>by
 rw[Zl]at hj;rw[Mh (by omega),Mh (by omega)];exact h i j ij (by omega)
theorem TH (hc:iI a0 a1 a2 a4 a5 a6 a7 a8 a9 aA aB aD aL)(h:hpI a0 a1 a2 a3 a4 a5 a6 a7 a8 a9 aA aB aC aD aE aF aG aH aI aJ aK aL aM aN=true)(n:Nat):N7 (aD.take n) 0 ⟨a0,a1,a2,a5,a6⟩:=
 ⟨Pz hc h,fun j _ hj=>by
   rw[Zl]at hj;rw[Mh (by omega)];exact PF h j (by omega)⟩
theorem Kg {s:Ct}{b13:aa}(hc:iI a0 a1 a2 a4 a5 a6 a7 a8 a9 aA aB aD aL)(h:N8 s)(w:Rw [tI,tI,tI] b13)(l:b13.length<=1073741824):iI s.C s.U s.E a4 s.F s.S a7 a8 a9 aA aB b13 aL:=by
 have n:=De h.m h.rc h.ru h.re;have f:ah s.F=s.F.length:=h.rf.cnt rfl;have g:ah s.S=s.S.length:=h.rs.cnt rfl;have b:ah b13=b13.length:=w.cnt rfl;have lf:=h.lf;have ls:=h.ls;exact⟨h.rc,h.ru,h.re,hc.r4,h.rf,h.rs,hc.r7,hc.r8,hc.r9,hc.r10,hc.r11,w,hc.r21,by omega,by omega,by omega,hc.c4,by omega,by omega,hc.c7,hc.c8,hc.c9,hc.c10,hc.c11,by omega,hc.c21⟩
end
end Go.V
namespace Go.V
def snB (p k b s:Int):Bool:=spOk p k b&&hsB b s
def snN (p k b s:Int):Int:=if snB p k b s=true then woN b s else b
def fzC (me:Bool)(kp mv:Int)(c u e f s:aa)(a:Int):aa:=(f1 me kp mv ⟨c,u,e,f,s⟩ a).C
def fzU (me:Bool)(kp mv:Int)(c u e f s:aa)(a:Int):aa:=(f1 me kp mv ⟨c,u,e,f,s⟩ a).U
def fzE (me:Bool)(kp mv:Int)(c u e f s:aa)(a:Int):aa:=(f1 me kp mv ⟨c,u,e,f,s⟩ a).E
def fzF (me:Bool)(kp mv:Int)(c u e f s:aa)(a:Int):aa:=(f1 me kp mv ⟨c,u,e,f,s⟩ a).F
def fzS (me:Bool)(kp mv:Int)(c u e f s:aa)(a:Int):aa:=(f1 me kp mv ⟨c,u,e,f,s⟩ a).S
def tkC (me:Bool)(kp mv:Int)(c u e f s l:aa):aa:=(fN me kp mv l ⟨c,u,e,f,s⟩ l.length).C
def tkU (me:Bool)(kp mv:Int)(c u e f s l:aa):aa:=(fN me kp mv l ⟨c,u,e,f,s⟩ l.length).U
def tkE (me:Bool)(kp mv:Int)(c u e f s l:aa):aa:=(fN me kp mv l ⟨c,u,e,f,s⟩ l.length).E
def tkF (me:Bool)(kp mv:Int)(c u e f s l:aa):aa:=(fN me kp mv l ⟨c,u,e,f,s⟩ l.length).F
def tkS (me:Bool)(kp mv:Int)(c u e f s l:aa):aa:=(fN me kp mv l ⟨c,u,e,f,s⟩ l.length).S
def lenI (l:aa):Int:=l.length
def tgB (k:Bool)(c n ck:Int):Bool:=k&&(decide (c≠100000)&&(inR n 0 1000&&decide (ck+n<=1000000)))
def t0B (k:Bool)(c t:Int)(m:aa):Bool:=k&&(decide (c≠100000)&&inR t 0 (m.length-1))
structure HJ (me:Bool)(kp mv:Int)(l:aa)(s:Ct)(i:Int)(c u e f t:aa):Prop where
 c:c=(fN me kp mv l s i.toNat).C
 u:u=(fN me kp mv l s i.toNat).U
 e:e=(fN me kp mv l s i.toNat).E
 f:f=(fN me kp mv l s i.toNat).F
 t:t=(fN me kp mv l s i.toNat).S
section
variable {me: Bool} {kp mv: Int} {l c u e f t c0 u0 e0 f0 t0: aa} {s: Ct} {i a: Int}
theorem Lh:HJ me kp mv l ⟨c,u,e,f,t⟩ 0 c u e f t:=⟨rfl,rfl,rfl,rfl,rfl⟩
theorem Hr (h:HJ me kp mv l s i c u e f t)(i0:0<=i):HJ me kp mv l s (i+1) (fzC me kp mv c u e f t (ag l i 0)) (fzU me kp mv c u e f t (ag l i 0)) (fzE me kp mv c u e f t (ag l i 0)) (fzF me kp mv c u e f t (ag l i 0)) (fzS me kp mv c u e f t (ag l i 0)):=by
 have n:(i+1).toNat=i.toNat+1:=by omega
 have g:ag l i 0=ag l (i.toNat:Int) 0:=by rw[Zt i0]
 obtain⟨rfl,rfl,rfl,rfl,rfl⟩:=h;refine⟨?_,?_,?_,?_,?_⟩<;>rw[n,g]<;>rfl
theorem R8 (h:HJ me kp mv l s i c u e f t):(⟨c,u,e,f,t⟩:Ct)=fN me kp mv l s i.toNat:=by
 obtain⟨rfl,rfl,rfl,rfl,rfl⟩:=h;rfl
theorem DW (h:HJ me kp mv l ⟨c0,u0,e0,f0,t0⟩ i c u e f t)(e1:i=l.length):c=tkC me kp mv c0 u0 e0 f0 t0 l/\u=tkU me kp mv c0 u0 e0 f0 t0 l/\e=tkE me kp mv c0 u0 e0 f0 t0 l/\f=tkF me kp mv c0 u0 e0 f0 t0 l/\t=tkS me kp mv c0 u0 e0 f0 t0 l:=by
 obtain⟨rfl,rfl,rfl,rfl,rfl⟩:=h;have n:i.toNat=l.length:=by omega
 rw[n];exact⟨rfl,rfl,rfl,rfl,rfl⟩
theorem RX {p k b x:Int}(h:spOk p k b=true)(g:hsB b x=true):snB p k b x=true/\snN p k b x=woN b x:=by
 have q:snB p k b x=true:=by unfold snB;rw[h,g];rfl
 exact⟨q,by unfold snN;rw[aa3 q]⟩
theorem U0 {p k b x:Int}(h:spOk p k b=false):snB p k b x=false/\snN p k b x=b:=by
 have q:snB p k b x=false:=by unfold snB;rw[h];rfl
 exact⟨q,by unfold snN;rw[q];rfl⟩
theorem U2 {p k b x:Int}(h:hsB b x=false):snB p k b x=false/\snN p k b x=b:=by
 have q:snB p k b x=false:=by unfold snB;rw[h];simp
 exact⟨q,by unfold snN;rw[q];rfl⟩
end
theorem Jh {l:aa}{i:Int}(i0:0<=i)(i1:i<=l.length):jU l i.toNat (Bs (l.length:Int) i)=l.drop i.toNat:=by
 unfold jU Bs;exact Yb (by rw[Zv];omega)
theorem Ji {l:aa}{i:Int}:jU l (X0 0) (Bs i 0)=l.take i.toNat:=by
 unfold jU Bs;rw[show X0 0=0 from rfl,List.drop_zero,Nat.sub_zero]
theorem vk {fs:List Ty}{l:aa}{a b:Nat}(h:Rw fs l):Rw fs (jU l a b)/\(jU l a b).length<=l.length:=by
 have q:(jU l a b).length<=l.length:=by unfold jU;rw[Zl,Zv];omega
 exact⟨⟨Z4 q h.1,fun e he=>h.2 e (YK (Xv he))⟩,q⟩
theorem Ro {rm i:Int}{qs:aa}(h:quarOk rm qs=true)(w:Rw [tI,tI,tI] qs)(i0:0<=i)(i1:i<qs.length):0<=ag qs i 2/\ag qs i 2<=9223372036854775807:=by
 unfold quarOk at h;simp only[Zc]at h;have q:=cG.1 h.1 i i0 i1;unfold yM stlOk at q;simp only[Zc,aa2]at q;exact⟨q.2.2.1,(uv w (j:=2) rfl (by omega)).2⟩
section
variable {rm now age: Int} {qs: aa}
theorem Uu (h:quarOk rm qs=false):Dw rm qs now age=false:=by unfold Dw;rw[h];rfl
theorem Uv (h:inR now 0 1000000=false):Dw rm qs now age=false:=by unfold Dw;rw[h];simp
theorem Uw (h:inR age 0 1000000=false):Dw rm qs now age=false:=by unfold Dw;rw[h];simp
theorem Rh (h:quarOk rm qs=true)(g:inR now 0 1000000=true)(k:inR age 0 1000000=true):Dw rm qs now age=true:=by unfold Dw;rw[h,g,k];rfl
end
end Go.V
namespace Go.V
section
variable {S L: aa} {a: Int} {i: Nat}
theorem Gg (g:oh S)(h:my S a i):dnK S L a=1/\dnI S L a=i/\dnS S a=sy S a i:=by
 have q:=gI g h;have n:(0:Int)<=fk S a:=by rw[q.1];omega
 have b:=h.b;rw[<-q.2.2]at b;refine⟨?_,?_,?_⟩
 ·unfold dnK;rw[aa3 n,q.1,b];rfl
 ·unfold dnI;rw[aa3 n,q.1]
 ·unfold dnS;rw[aa3 n,q.1]
theorem Gi (g:oh S)(h:my S a i):0<=a/\a<=511/\0<=ag S i 0/\ag S i 0<=31:=by
 have t:=(rQ.1 (KB g h)).2;have p:=gW (g.s i h.l);omega
theorem Kd (w:Rw [tI,tI,tI] S)(g:oh S)(h:my S a i):
 AO (.s 3 S) [((i:Int).toNat,0)] [.i (ag S i 0),.i (ag S i 1),.i (snN (ag S i 0) (ag S i 1) (ag S i 2) (sy S a i))]=eZ S a:=by
 obtain⟨t,ht,es,hb⟩:=vm g h;have q:=gI g h;have n:=RX (p:=ag S i 0) (k:=ag S i 1) (g.s i h.l) hb;have hl:=h.l;rw[es,n.2];unfold eZ;rw[q.1,es];unfold CQ;exact lp (by rw[w.eta (by omega) (by omega)];rfl)
theorem yi (g:oh S)(h:my S a i):ag (eZ S a) i 0=ag S i 0/\(eZ S a).length=S.length:=by
 obtain⟨t,ht,es,hb⟩:=vm g h;have q:=gI g h;have e1:eZ S a=CQ S i t:=by unfold eZ;rw[q.1,es]
 rw[e1];exact⟨(Ae h.l t i (by omega)).1,oU⟩
theorem Fi (w:Rw [tI,tI,tI] S)(g:oh S)(h:my S a i):Rw [tI,tI,tI] (eZ S a):=by
 obtain⟨t,ht,es,hb⟩:=vm g h;have q:=gI g h;have e1:eZ S a=CQ S i t:=by unfold eZ;rw[q.1,es]
 rw[e1];exact Kl w g h.l ht
end
section
variable {me: Bool} {kp mv: Int} {c u e f t: aa} {a: Int} {i: Nat}
theorem Kc (g:oh t)(h:my t a i)(z:ag (eZ t a) i 2=0)(n:bsB me kp mv (ag (eZ t a) i 0)=false):A8 me kp mv t a=true:=by
 unfold A8;rw[(gI g h).1,aa0 z,n];rfl
theorem Ka (g:oh t)(h:my t a i)(z:ag (eZ t a) i 2≠0):A8 me kp mv t a=false:=by
 unfold A8;rw[(gI g h).1,aa1 z];rfl
theorem Kb (g:oh t)(h:my t a i)(n:bsB me kp mv (ag (eZ t a) i 0)=true):A8 me kp mv t a=false:=by
 unfold A8;rw[(gI g h).1,n];simp
theorem Pp (g:oh t)(h:my t a i)(b:A8 me kp mv t a=true):fzC me kp mv c u e f t a=dsC c u e (eZ t a) i/\fzU me kp mv c u e f t a=dsU c u e (eZ t a) i/\fzE me kp mv c u e f t a=dsE c u e (eZ t a) i/\fzF me kp mv c u e f t a=dsF c u e f (eZ t a) i/\fzS me kp mv c u e f t a=dsS (eZ t a) i:=by
 unfold fzC fzU fzE fzF fzS f1;rw[(gI g h).1];simp only[b];exact⟨rfl,rfl,rfl,rfl,rfl⟩
theorem Ir (b:A8 me kp mv t a=false):fzC me kp mv c u e f t a=c/\fzU me kp mv c u e f t a=u/\fzE me kp mv c u e f t a=e/\fzF me kp mv c u e f t a=f/\fzS me kp mv c u e f t a=eZ t a:=by
 unfold fzC fzU fzE fzF fzS f1;simp only[b];exact⟨rfl,rfl,rfl,rfl,rfl⟩
end
section
variable {a0 a1 a2 a4 a5 a6 a7 a8 a9 aA aB aD aL: aa} {a: Int} {i: Nat}
theorem Kn (hc:iI a0 a1 a2 a4 a5 a6 a7 a8 a9 aA aB aD aL)(g:oh a6)(h:my a6 a i):iI a0 a1 a2 a4 a5 (eZ a6 a) a7 a8 a9 aA aB aD aL:=by
 have w:=Fi hc.r6 g h;have c:ah (eZ a6 a)=(eZ a6 a).length:=w.cnt rfl;have c6:ah a6=a6.length:=hc.r6.cnt rfl;have l:=(yi g h).2;have k:=hc.c6;exact⟨hc.r0,hc.r1,hc.r2,hc.r4,hc.r5,w,hc.r7,hc.r8,hc.r9,hc.r10,hc.r11,hc.r13,hc.r21,hc.c0,hc.c1,hc.c2,hc.c4,hc.c5,by omega,hc.c7,hc.c8,hc.c9,hc.c10,hc.c11,hc.c13,hc.c21⟩
end
end Go.V
namespace Go.V
def ckN (ck n:Int):Int:=ck+n
section
variable {k: Bool} {c n ck t: Int} {m: aa}
theorem NU (h:k=false):tgB k c n ck=false:=by unfold tgB;rw[h];rfl
theorem NV (h:c=100000):tgB k c n ck=false:=by unfold tgB;rw[aa1 (p:=c≠100000) (fun g=>g h)];simp
theorem R5 (h:inR n 0 1000=false):tgB k c n ck=false:=by unfold tgB;rw[h];simp
theorem R6 (h:1000000<ck+n):tgB k c n ck=false:=by unfold tgB;rw[aa1 (p:=ck+n<=1000000) (by omega)];simp
theorem NW (h:k=true)(g:c≠100000)(i:inR n 0 1000=true)(j:ck+n<=1000000):tgB k c n ck=true:=by unfold tgB;rw[h,aa0 g,i,aa0 j];rfl
theorem R7 (h:tgB k c n ck=true):k=true/\c≠100000/\(0<=n/\n<=1000)/\ck+n<=1000000:=by
 unfold tgB at h;simp only[Zc,aa2]at h;exact⟨h.1,h.2.1,bB.1 h.2.2.1,h.2.2.2⟩
theorem DT (h:t0B k c t m=true):k=true/\c≠100000/\inR t 0 (m.length-1)=true:=by
 unfold t0B at h;simp only[Zc,aa2]at h;exact h
theorem U4 (h:k=false):t0B k c t m=false:=by unfold t0B;rw[h];rfl
theorem U5 (h:c=100000):t0B k c t m=false:=by unfold t0B;rw[aa1 (p:=c≠100000) (fun g=>g h)];simp
theorem R2 (h:k=true)(g:c≠100000):inR t 0 (m.length-1)=t0B k c t m:=by unfold t0B;rw[h,aa0 g];rfl
theorem OX {cs us es rs:aa}(h:ccB cs us es c rs=false)(g:kerOk cs us es c rs=true):c=100000:=by
 unfold ccB at h;rw[g,WF]at h;exact aaW.1 (of_decide_eq_false h)
end
section
variable {a0 a1 a2: aa} {a3: Int} {a4 a5 a6 a7 a8 a9 aA aB: aa} {aC: Int} {aD: aa} {aE aF aG aH: Int} {aI: Bool} {aJ aK: Int} {aL: aa} {aM aN: Int} {n i: Int} {c u e f t: aa}
structure Vf (aC:Int)(aD:aa)(aF n:Int)(s:Ct):Prop where
 b:Dw aC aD (ckN aF n) 100=true
 d:N6 (qeR aC aD (ckN aF n) 100)
 q:N7 (qeR aC aD (ckN aF n) 100) 0 s
 w:Rw [tI,tI,tI] (qeL aC aD (ckN aF n) 100)
 l:(qeL aC aD (ckN aF n) 100).length<=aD.length
 m:(qeR aC aD (ckN aF n) 100).length<=aD.length
 r:Rw [tI,tI,tI] (qeR aC aD (ckN aF n) 100)
theorem yV (hc:iI a0 a1 a2 a4 a5 a6 a7 a8 a9 aA aB aD aL)(h:hpI a0 a1 a2 a3 a4 a5 a6 a7 a8 a9 aA aB aC aD aE aF aG aH aI aJ aK aL aM aN=true)(n0:0<=n)(n1:aF+n<=1000000):Vf aC aD aF n ⟨a0,a1,a2,a5,a6⟩:=by
 have T:=nC h;have r:=bB.1 T.t;have b:Dw aC aD (ckN aF n) 100=true:=Rh T.q (bB.2 ⟨by unfold ckN;omega,by unfold ckN;omega⟩) (by decide);have z:=Ri b;refine⟨b,?_,?_,?_,?_,?_,by rw[z.2];exact hc.r13.take _⟩
 ·rw[z.2];exact Ih (Rp T.q)
 ·rw[z.2];exact TH hc h _
 ·rw[z.1];exact hc.r13.drop _
 ·rw[z.1,Zv];omega
 ·rw[z.2,Zl];omega
theorem yW (hc:iI a0 a1 a2 a4 a5 a6 a7 a8 a9 aA aB aD aL)(h:hpI a0 a1 a2 a3 a4 a5 a6 a7 a8 a9 aA aB aC aD aE aF aG aH aI aJ aK aL aM aN=true)(hn:a3≠100000)(T:Vf aC aD aF n ⟨a0,a1,a2,a5,a6⟩) 
 (P:HJ aI aJ aK (qeR aC aD (ckN aF n) 100) ⟨a0,a1,a2,a5,a6⟩ i c u e f t) (i0:0<=i) (i1:i<(qeR aC aD (ckN aF n) 100).length):
 iI c u e a4 f t a7 a8 a9 aA aB (qeL aC aD (ckN aF n) 100) aL/\kerOk c u e a3 a4=true/\a3≠100000/\f.length<=65/\oh t/\∃ k,my t (ag (qeR aC aD (ckN aF n) 100) i 0) k:=by
 have I:=Mb (me:=aI) (kp:=aJ) (mv:=aK) T.d T.q i.toNat (by omega);rw[<-R8 P]at I;have k:=pN (nC h).k;have l13:aD.length=ah aD:=(hc.r13.cnt rfl).symm;have c13:=hc.c13;have tl:=T.l;have H:=Kg hc I.fr T.w (by omega);obtain⟨j,v⟩:=I.q i.toNat (Zf _) (by omega);rw[Zt i0]at v;exact⟨H,FW I.fr.m k.2.1 k.2.2.1 k.2.2.2,hn,I.fr.lf,I.fr.g,j,v⟩
theorem Lg (hc:iI a0 a1 a2 a4 a5 a6 a7 a8 a9 aA aB aD aL){b:Bool}(e:b=tgB (hpI a0 a1 a2 a3 a4 a5 a6 a7 a8 a9 aA aB aC aD aE aF aG aH aI aJ aK aL aM aN) a3 n aF):
 iI (ifR b (tkC aI aJ aK a0 a1 a2 a5 a6 (qeR aC aD (ckN aF n) 100)) a0) (ifR b (tkU aI aJ aK a0 a1 a2 a5 a6 (qeR aC aD (ckN aF n) 100)) a1) (ifR b (tkE aI aJ aK a0 a1 a2 a5 a6 (qeR aC aD (ckN aF n) 100)) a2) a4
  (ifR b (tkF aI aJ aK a0 a1 a2 a5 a6 (qeR aC aD (ckN aF n) 100)) a5) (ifR b (tkS aI aJ aK a0 a1 a2 a5 a6 (qeR aC aD (ckN aF n) 100)) a6) a7 a8 a9 aA aB (ifR b (qeL aC aD (ckN aF n) 100) aD) aL:=by
 cases b with
 |false=>exact hc
 | true=>
   have g:=R7 e.symm;have T:=yV hc g.1 g.2.2.1.1 g.2.2.2;have I:=Mb (me:=aI) (kp:=aJ) (mv:=aK) T.d T.q _ (Zf _);have l13:aD.length=ah aD:=(hc.r13.cnt rfl).symm;have c13:=hc.c13;have tl:=T.l;exact Kg (b13:=qeL aC aD (ckN aF n) 100) hc I.fr T.w (by omega)
theorem U6 (h:hpI a0 a1 a2 a3 a4 a5 a6 a7 a8 a9 aA aB aC aD aE aF aG aH aI aJ aK aL aM aN=true)(g:t0B (hpI a0 a1 a2 a3 a4 a5 a6 a7 a8 a9 aA aB aC aD aE aF aG aH aI aJ aK aL aM aN) a3 0 a9=false):a3=100000:=by
 by_cases c:a3=100000;exact c
 ·exfalso;rw[<-R2 h c]at g;have T:=nC h;have n:a9.length=aA.length:=aa5 T.n;have m:=T.m;unfold mailOk at m;simp only[Zc]at m;have q:=bB.1 m.1;have r:=pM.1 g;omega
theorem U8 (g:t0B (hpI a0 a1 a2 a3 a4 a5 a6 a7 a8 a9 aA aB aC aD aE aF aG aH aI aJ aK aL aM aN) a3 0 a9=false):tgB (hpI a0 a1 a2 a3 a4 a5 a6 a7 a8 a9 aA aB aC aD aE aF aG aH aI aJ aK aL aM aN) a3 n aF=false:=by
 cases h:hpI a0 a1 a2 a3 a4 a5 a6 a7 a8 a9 aA aB aC aD aE aF aG aH aI aJ aK aL aM aN with
 |false=>exact NU rfl
 |true=>exact NV (U6 h (by rw[h]at g ⊢;exact g))
end
end Go.V