/- Plain facts. -/
import Derived.Test.YtcodmgmliopheaaGreatW2
import Derived.Test.YtcodmgmliopheaaGreatW1
set_option linter.all false
open Go
open BitVec renaming ofInt->Wq
open Bool renaming and_eq_true->AI,or_eq_true->Wo,and_false->Ww,true_and->Yl,not_eq_true->Xb,or_true->Zm,eq_iff_iff->Y6
open Int renaming mul_nonneg->Zk,mul_le_mul_of_nonneg_right->Xd,toNat_of_nonneg->VQ,add_mul->Zw,ediv_nonneg->Zg,eq_ofNat_of_zero_le->V1,mul_comm->Zq,le_refl->XL,toNat_natCast->V4
open IntKind renaming i64->Wx,wrap->XU
open IntWalk renaming i64_in->X0
open List renaming length_map->Yi,mem_append->BY,length_append->By,append_assoc->IS,length_cons->V9,length_nil->Wy,mem_cons->VN,mem_singleton->WG,nodup_append->VP,nodup_nil->Wd,mem_range->WN,mergeSort_perm->YJ,getD_eq_getElem?_getD->If,take_append_drop->V2,mem_map->Wu,getElem_mem->YY,getElem?_eq_getElem->IN,mem_iff_getElem->XN,take->Yv,drop->Yw,getElem?_eq_none->Wb,getElem?_take->VV,length_take->VK,count_eq_zero->YN,take_length->Xa,drop_eq_getElem_cons->XA,nodup_iff_count->YD,count_pos_iff->YO,not_mem_nil->WW,replicate->Wi,length_set->Wh
open List.Nodup renaming length_le_of_subset->XT
open List.Pairwise renaming nil->Zr,imp₂->Zs
open Nat renaming zero_le->No,lt_trichotomy->X4,le_refl->VJ,le_trans->Xe,not_lt_zero->XM
open Option.some renaming inj->WT
open Value renaming int->Wg
namespace Go.V
def Ab (sp:aa)(i:Int):Nat->List Int
 |0=>[]
 |n+1=>Ab sp i n++(if hsB (af sp i 2) n then[aaI (af sp i 0) (af sp i 1) (af sp i 2) n]else[])
def yS (sp:aa):Nat->List Int
 |0=>[]
 |n+1=>yS sp n++Ab sp n (slN (af sp n 1)).toNat
def Bz (lg:aa):Nat->List Int
 |0=>[]
 |n+1=>Bz lg n++[af lg n 0*16]
def LS (sp lg:aa):List Int:=yS sp sp.length++Bz lg lg.length
def iaL (sp lg:aa):aa:=if layOk sp lg then srtL (eV (LS sp lg))else[]
theorem Ce {a b:Int}(h: -9223372036854775808<=a*b/\a*b<=9223372036854775807):bJ .mul .i64 a b=a*b:=X0 _ h
theorem A9 {l:aa}:(srtL l).length=l.length:=by unfold srtL;rw[bU,List.length_mergeSort];unfold kE;rw[Yi]
def Lh (l:List Int):Prop:=∀ x∈l,-1<=x/\x<=1000
theorem CS {a b:List Int}(h:Lh a)(g:Lh b):Lh (a++b):=fun x hx=>by
 rcases BY.1 hx with q|q
 ·exact h x q
 ·exact g x q
theorem Jw {x:Int}(h: -1<=x/\x<=1000):Lh [x]:=fun y hy=>by simp at hy;rw[hy];exact h
theorem RY {p k b s:Int}: -1<=aaI p k b s/\aaI p k b s<=1000:=by
 unfold aaI;by_cases h:Le p k b s=true
 ·rw[if_pos h];unfold Le at h;simp only[AI]at h;have t:=jH h.1;have c:=gz t.2.2.1;have s1:=bH.1 h.2;have m0:0<=s*clsSz k:=Zk (by omega) (by omega);have m1:s*clsSz k<=slN k*clsSz k:=Xd (by omega) (by omega);omega
 ·rw[if_neg h];omega
theorem yR {sp:aa}{i k:Int}(h:0<=k):Ab sp i (k+1).toNat=Ab sp i k.toNat++(if hsB (af sp i 2) k then[aaI (af sp i 0) (af sp i 1) (af sp i 2) k]else[]):=by
 rw[show(k+1).toNat=k.toNat+1 from by omega,Ab,VQ h]
theorem FH {sp:aa}{i:Int}(h:0<=i):yS sp (i+1).toNat=yS sp i.toNat++Ab sp i (slN (af sp i 1)).toNat:=by
 rw[show(i+1).toNat=i.toNat+1 from by omega,yS,VQ h]
theorem BW {lg:aa}{i:Int}(h:0<=i):Bz lg (i+1).toNat=Bz lg i.toNat++[af lg i 0*16]:=by
 rw[show(i+1).toNat=i.toNat+1 from by omega,Bz,VQ h]
structure NA (sp:aa)(i:Int)(o:aa):Prop where
 e:o=eV (yS sp i.toNat)
 b:Lh (yS sp i.toNat)
 l:(yS sp i.toNat).length<=16*i.toNat
structure HA (sp:aa)(i k:Int)(o:aa):Prop where
 e:o=eV (yS sp i.toNat++Ab sp i k.toNat)
 b:Lh (yS sp i.toNat++Ab sp i k.toNat)
 l:(yS sp i.toNat).length<=16*i.toNat
 k:(Ab sp i k.toNat).length<=k.toNat
structure Jp (sp lg:aa)(j:Int)(o:aa):Prop where
 e:o=eV (yS sp sp.length++Bz lg j.toNat)
 b:Lh (yS sp sp.length++Bz lg j.toNat)
 l:(yS sp sp.length++Bz lg j.toNat).length<=16*sp.length+j.toNat
theorem SD {sp:aa}:NA sp 0 []:=⟨rfl,(fun x hx=>by cases hx),No _⟩
theorem SF {sp o:aa}{i:Int}(h:NA sp i o):HA sp i 0 o:=
 ⟨by rw[h.e];simp[Ab],by simpa[Ab]using h.b,h.l,No _⟩
theorem LW {sp o:aa}{i k:Int}(h:HA sp i k o):o.length<=16*i.toNat+k.toNat:=by
 have l:=h.l;have m:=h.k;rw[h.e,bU,By];omega
theorem LX {sp o:aa}{i k:Int}(h:HA sp i k o)(k0:0<=k)(hh:hsB (af sp i 2) k=true):HA sp i (k+1) (o++[[.i (aaI (af sp i 0) (af sp i 1) (af sp i 2) k)]]):=by
 have m:=h.k;have e:=h.e;refine⟨?_,?_,h.l,?_⟩
 ·rw[yR k0,if_pos hh, <-IS,eF, <-e];rfl
 ·rw[yR k0,if_pos hh, <-IS];exact CS h.b (Jw RY)
 ·rw[yR k0,if_pos hh,By,V9,Wy];omega
theorem OW {sp o:aa}{i k:Int}(h:HA sp i k o)(k0:0<=k)(hh:hsB (af sp i 2) k=false):HA sp i (k+1) o:=by
 have m:=h.k;have e:=h.e;have u:Ab sp i (k+1).toNat=Ab sp i k.toNat:=by rw[yR k0,hh];simp
 refine⟨?_,?_,h.l,?_⟩
 ·rw[u];exact e
 ·rw[u];exact h.b
 ·rw[u];omega
theorem Ud {sp lg:aa}{i:Int}(hl:layOk sp lg=true)(h0:0<=i)(h1:i<sp.length):0<=slN (af sp i 1)/\slN (af sp i 1)<=16:=by
 have t:=jH ((F2 hl).1 i h0 h1);have c:=gz t.2.2.1;omega
theorem LV {sp o:aa}{i k:Int}(h:HA sp i k o)(i0:0<=i)(k1:k<=slN (af sp i 1))(k2:slN (af sp i 1)<=k)(hs:0<=slN (af sp i 1)/\slN (af sp i 1)<=16):NA sp (i+1) o:=by
 have ek:k=slN (af sp i 1):=by omega
 have e:=h.e;have b:=h.b;have l:=h.l;have m:=h.k;rw[ek, <-FH i0]at e b;rw[ek]at m;refine⟨e,b,?_⟩;rw[FH i0,By];omega
theorem SG {sp lg o:aa}{i:Int}(h:NA sp i o)(h1:i<=sp.length)(h2:(sp.length:Int)<=i):Jp sp lg 0 o:=by
 have ei:i.toNat=sp.length:=by omega
 have e:=h.e;have b:=h.b;have l:=h.l;rw[ei]at e b l;exact⟨by rw[e];simp[Bz],by simpa[Bz]using b,by simpa[Bz]using l⟩
theorem FK {sp lg o:aa}{j:Int}(h:Jp sp lg j o):o.length<=16*sp.length+j.toNat:=by
 have l:=h.l;rw[h.e,bU];exact l
theorem Td {sp lg:aa}{j:Int}(hl:layOk sp lg=true)(h0:0<=j)(h1:j<lg.length):0<=af lg j 0/\af lg j 0<=32:=by
 have t:=ig ((F2 hl).2.1 j h0 h1);have b:=gQ t.1;omega
theorem OY {sp lg o:aa}{j:Int}(h:Jp sp lg j o)(j0:0<=j)(hb:0<=af lg j 0/\af lg j 0<=32):Jp sp lg (j+1) (o++[[.i (af lg j 0*16)]]):=by
 have e:=h.e;have l:=h.l;refine⟨?_,?_,?_⟩
 ·rw[BW j0, <-IS,eF, <-e];rfl
 ·rw[BW j0, <-IS];exact CS h.b (Jw (by omega))
 ·rw[BW j0, <-IS,By,V9,Wy];omega
theorem OX {sp lg o:aa}{j:Int}(h:Jp sp lg j o)(h1:sp.length<=1073741824)(h2:j<=1073741824):Rw [tI] o/\o.length<=70368744177664:=by
 have l:=FK h;refine⟨?_,by omega⟩;have e:=h.e;have l2:=h.l;rw[e];exact pI (fun x hx=>by have:=h.b x hx;omega) (by omega)
theorem LY {sp lg o:aa}{j:Int}(h:Jp sp lg j o)(j1:j<=lg.length)(j2:(lg.length:Int)<=j)(hl:layOk sp lg=true):srtL o=iaL sp lg:=by
 have ej:j.toNat=lg.length:=by omega
 have e:=h.e;rw[ej]at e;unfold iaL LS;rw[if_pos hl, <-e]
theorem SE {sp lg:aa}(hl:layOk sp lg=false):([]:aa)=iaL sp lg:=by unfold iaL;rw[hl];rfl
end Go.V
namespace Go.V
theorem sX :∀ {a b:List Int},a.Pairwise (· < ·)->b.Pairwise (· < ·)->(∀ x,x∈a↔x∈b)->a=b
 |[],[],_,_,_=>rfl
 |[],y::b,_,_,h=>by have:=(h y).2 (by simp);simp at this
 |x::a,[],_,_,h=>by have:=(h x).1 (by simp);simp at this
 | x::a,y::b,ha,hb,h=>by
   rw[List.pairwise_cons]at ha hb;have e:x=y:=by
    rcases VN.1 ((h x).1 (by simp))with q|q
    ·exact q
    ·rcases VN.1 ((h y).2 (by simp))with r|r
     ·exact r.symm
     ·have:=hb.1 x q;have:=ha.1 y r;omega
   subst e;rw[sX ha.2 hb.2 (fun z=>?_)]
   constructor
   ·intro m;rcases VN.1 ((h z).1 (by simp[m]))with q|q
    ·have:=ha.1 z m;omega
    ·exact q
   ·intro m;rcases VN.1 ((h z).2 (by simp[m]))with q|q
    ·have:=hb.1 z m;omega
    ·exact q
theorem lr {sp:aa}{x:Int}:∀ {n:Nat},x∈iw sp n↔∃ i:Nat,i<n/\af sp i 0=x
 |0=>by simp[iw]
 | n+1=>by
   rw[iw,BY,lr,WG]
   constructor
   ·rintro(⟨i,h,e⟩|rfl)
    ·exact⟨i,by omega,e⟩
    ·exact⟨n,by omega,rfl⟩
   ·rintro⟨i,h,e⟩;by_cases c:i=n
    ·subst c;exact .inr e.symm
    ·exact .inl ⟨i,by omega,e⟩
theorem za {p x:Int}:∀ {n:Nat},x∈lz p n↔p<=x/\x<p+n
 |0=>⟨(fun h=>by cases h),(fun h=>absurd h (by omega))⟩
 | n+1=>by
   rw[lz,BY,za,WG];omega
theorem nX {lg:aa}{x:Int}:∀ {n:Nat},x∈iu lg n↔∃ j:Nat,j<n/\af lg j 0<=x/\x<af lg j 0+(af lg j 1).toNat
 |0=>by simp[iu]
 | n+1=>by
   rw[iu,BY,nX,za]
   constructor
   ·rintro(⟨i,h,e⟩|h)
    ·exact⟨i,by omega,e⟩
    ·exact⟨n,by omega,h⟩
   ·rintro⟨i,h,e⟩;by_cases c:i=n
    ·subst c;exact .inr e
    ·exact .inl ⟨i,by omega,e⟩
theorem Hc {sp:aa}:∀ {n:Nat},(iw sp n).Nodup->∀ i i':Nat,i<i'->i'<n->af sp i 0≠af sp i' 0
 |0,_,i,i',_,h=>by omega
 | n+1,hn,i,i',h1,h2=>by
   rw[iw,VP]at hn;by_cases c:i'=n
   ·subst c;exact hn.2.2 _ (lr.2 ⟨i,h1,rfl⟩) _ (by simp)
   ·exact Hc hn.1 i i' h1 (by omega)
theorem F7 {lg:aa}:∀ {n:Nat},(iu lg n).Nodup->∀ (j j':Nat) (x:Int),j<j'->j'<n->af lg j 0<=x->x<af lg j 0+(af lg j 1).toNat->af lg j' 0<=x->x<af lg j' 0+(af lg j' 1).toNat->False
 |0,_,j,j',x,_,h,_,_,_,_=>by omega
 | n+1,hn,j,j',x,h1,h2,a,b,c,d=>by
   rw[iu,VP]at hn;by_cases e:j'=n
   ·subst e;exact hn.2.2 x (nX.2 ⟨j,h1,a,b⟩) x (za.2 ⟨c,d⟩) rfl
   ·exact F7 hn.1 j j' x h1 (by omega) a b c d
structure NE (sp lg:aa):Prop where
 s:∀ i:Nat,i<sp.length->spOk (af sp i 0) (af sp i 1) (af sp i 2)=true
 l:∀ j:Nat,j<lg.length->lgOk (af lg j 0) (af lg j 1) (af lg j 2)=true
 ss:∀ i i':Nat,i<sp.length->i'<sp.length->af sp i 0=af sp i' 0->i=i'
 sl:∀ i j:Nat,i<sp.length->j<lg.length->af lg j 0<=af sp i 0->af sp i 0<af lg j 0+af lg j 1->False
 ll:∀ (j j':Nat) (x:Int),j<lg.length->j'<lg.length->af lg j 0<=x->x<af lg j 0+af lg j 1->af lg j' 0<=x->x<af lg j' 0+af lg j' 1->j=j'
theorem NM {sp lg:aa}(h:layOk sp lg=true):NE sp lg:=by
 obtain⟨h1,h2,h3⟩:=F2 h;unfold vq at h3;rw[VP]at h3;have n0:∀ j:Nat,j<lg.length->((af lg j 1).toNat:Int)=af lg j 1:=fun j hj=>by
  have t:=ig (h2 j (by omega) (by omega));have b:=gQ t.1;omega
 refine⟨fun i hi=>h1 i (by omega) (by omega),fun j hj=>h2 j (by omega) (by omega),fun i i' a b e=>?_,fun i j a b c d=>?_,fun j j' x a b c d e f=>?_⟩
 ·rcases X4 i i' with q|q|q
  ·exact absurd e (Hc h3.1 i i' q b)
  ·exact q
  ·exact absurd e.symm (Hc h3.1 i' i q a)
 ·exact h3.2.2 _ (lr.2 ⟨i,a,rfl⟩) _ (nX.2 ⟨j,b,c,by rw[n0 j b];exact d⟩) rfl
 ·rcases X4 j j' with q|q|q
  ·exact(F7 h3.2.1 j j' x q b c (by rw[n0 j a];exact d) e (by rw[n0 j' b];exact f)).elim
  ·exact q
  ·exact(F7 h3.2.1 j' j x q a e (by rw[n0 j' b];exact f) c (by rw[n0 j a];exact d)).elim
theorem ke {p k b s:Int}(h:spOk p k b=true)(h0:0<=s)(h1:s<slN k):aaI p k b s=p*16+s*clsSz k/\0<=s*clsSz k/\s*clsSz k+clsSz k<=16/\1<=clsSz k:=by
 have t:=jH h;have c:=gz t.2.2.1;have a:Le p k b s=true:=by unfold Le;rw[h,bH.2 ⟨h0,by omega⟩];rfl
 have m0:0<=s*clsSz k:=Zk h0 (by omega);have m1:(s+1)*clsSz k<=slN k*clsSz k:=Xd (by omega) (by omega);rw[Zw]at m1;unfold aaI;rw[if_pos a];exact⟨rfl,m0,by omega,by omega⟩
theorem sJ {sp:aa}{i x:Int}:∀ {n:Nat},x∈Ab sp i n↔∃ k:Nat,k<n/\hsB (af sp i 2) k=true/\x=aaI (af sp i 0) (af sp i 1) (af sp i 2) k
 |0=>by simp[Ab]
 | n+1=>by
   rw[Ab,BY,sJ]
   constructor
   ·rintro(⟨k,h,e⟩|h)
    ·exact⟨k,by omega,e⟩
    ·by_cases c:hsB (af sp i 2) n=true
     ·rw[if_pos c,WG]at h;exact⟨n,by omega,c,h⟩
     ·rw[if_neg c]at h;simp at h
   ·rintro⟨k,h,c,e⟩;by_cases q:k=n
    ·subst q;rw[if_pos c];exact .inr (by simp[e])
    ·exact .inl ⟨k,by omega,c,e⟩
theorem sK {sp:aa}{x:Int}:∀ {n:Nat},x∈yS sp n↔∃ i k:Nat,i<n/\k<(slN (af sp i 1)).toNat/\hsB (af sp i 2) k=true/\x=aaI (af sp i 0) (af sp i 1) (af sp i 2) k
 |0=>by simp[yS]
 | n+1=>by
   rw[yS,BY,sK,sJ]
   constructor
   ·rintro(⟨i,k,h,e⟩|⟨k,h⟩)
    ·exact⟨i,k,by omega,e⟩
    ·exact⟨n,k,by omega,h⟩
   ·rintro⟨i,k,h,e⟩;by_cases q:i=n
    ·subst q;exact .inr ⟨k,e⟩
    ·exact .inl ⟨i,k,by omega,e⟩
theorem sI {lg:aa}{x:Int}:∀ {n:Nat},x∈Bz lg n↔∃ j:Nat,j<n/\x=af lg j 0*16
 |0=>by simp[Bz]
 | n+1=>by
   rw[Bz,BY,sI,WG]
   constructor
   ·rintro(⟨i,h,e⟩|h)
    ·exact⟨i,by omega,e⟩
    ·exact⟨n,by omega,h⟩
   ·rintro⟨i,h,e⟩;by_cases q:i=n
    ·subst q;exact .inr e
    ·exact .inl ⟨i,by omega,e⟩
theorem BX {sp:aa}{i:Nat}(h:spOk (af sp i 0) (af sp i 1) (af sp i 2)=true):∀ {n:Nat},n<=(slN (af sp i 1)).toNat->(Ab sp i n).Nodup
 |0,_=>Wd
 | n+1,hn=>by
   rw[Ab];by_cases c:hsB (af sp i 2) n=true
   ·rw[if_pos c];refine gZ (BX h (by omega)) (fun m=>?_);obtain⟨k,k1,_,k3⟩:=sJ.1 m;have a:=ke (s:=(n:Int)) h (by omega) (by omega);have b:=ke (s:=(k:Int)) h (by omega) (by omega);have q:((k:Int)+1)*clsSz (af sp i 1)<=(n:Int)*clsSz (af sp i 1):=Xd (by omega) (by omega);rw[Zw]at q;omega
   ·rw[if_neg c,List.append_nil];exact BX h (by omega)
theorem FG {sp lg:aa}(F:NE sp lg):∀ {n:Nat},n<=sp.length->(yS sp n).Nodup
 |0,_=>Wd
 | n+1,hn=>by
   rw[yS,VP];refine⟨FG F (by omega),BX (F.s n (by omega)) (VJ _),fun x hx y hy e=>?_⟩;subst e;obtain⟨i,k,i1,k1,_,e1⟩:=sK.1 hx;obtain⟨k',k2,_,e2⟩:=sJ.1 hy;have a:=ke (s:=(k:Int)) (F.s i (by omega)) (by omega) (by omega);have b:=ke (s:=(k':Int)) (F.s n (by omega)) (by omega) (by omega);have:=F.ss i n (by omega) (by omega) (by omega);omega
theorem FF {sp lg:aa}(F:NE sp lg):∀ {n:Nat},n<=lg.length->(Bz lg n).Nodup
 |0,_=>Wd
 | n+1,hn=>by
   rw[Bz];refine gZ (FF F (by omega)) (fun m=>?_);obtain⟨j,j1,e⟩:=sI.1 m;have t:=ig (F.l j (by omega));have b:=gQ t.1;have t':=ig (F.l n (by omega));have b':=gQ t'.1;have:=F.ll j n (af lg j 0) (by omega) (by omega) (by omega) (by omega) (by omega) (by omega);omega
theorem LU {sp lg:aa}(F:NE sp lg):(LS sp lg).Nodup:=by
 unfold LS;rw[VP];refine⟨FG F (VJ _),FF F (VJ _),fun x hx y hy e=>?_⟩;subst e;obtain⟨i,k,i1,k1,_,e1⟩:=sK.1 hx;obtain⟨j,j1,e2⟩:=sI.1 hy;have a:=ke (s:=(k:Int)) (F.s i (by omega)) (by omega) (by omega);have t:=ig (F.l j (by omega));have b:=gQ t.1;exact F.sl i j i1 j1 (by omega) (by omega)
end Go.V
namespace Go.V
theorem jh {p:Int->Bool}{n:Nat}(h:0<=cB p n):cB p n<n/\p (cB p n)=true:=by
 refine⟨by rcases nJ (p:=p) (n:=n)with q|q<;>omega,?_⟩;unfold cB at h ⊢;split at h
 ·rename_i j e;have q:=List.find?_some e;exact q
 ·omega
theorem nK {p:Int->Bool}{n i:Nat}(h:i<n)(hp:p i=true):0<=cB p n:=by
 unfold cB;split
 ·omega
 ·rename_i e;rw[List.find?_eq_none]at e;exact absurd hp (e i (WN.2 h))
theorem G0 {sp:aa}{a i:Int}:zw sp a i=true↔BA (af sp i 0) (af sp i 1) (af sp i 2) a=true:=by
 unfold zw;rw[decide_eq_true_eq]
 constructor
 ·intro h;cases c:BA (af sp i 0) (af sp i 1) (af sp i 2) a with
  |true=>rfl
  |false=>rw[(yc c).1]at h;omega
 ·intro h;obtain⟨h1,h2,h3⟩:=A3.1 h;have cb:=gz (jH h1).2.2.1;rw[(vI h).1];exact Zg (by omega) (by omega)
def RQ (sp lg:aa)(x:Int):Prop:=(∃ i k:Nat,i<sp.length/\k<(slN (af sp i 1)).toNat/\hsB (af sp i 2) k=true/\x=aaI (af sp i 0) (af sp i 1) (af sp i 2) k)\/∃ j:Nat,j<lg.length/\x=af lg j 0*16
theorem Ds {sp lg:aa}{x:Int}:x∈LS sp lg↔RQ sp lg x:=by
 unfold LS RQ;rw[BY,sK,sI]
theorem Om {sp lg:aa}{a:Int}(h:0<=mH sp a):dnK sp lg a=(if hsB (af sp (mH sp a) 2) (IZ sp a (mH sp a))then 1 else 2)/\dnO sp lg a=NS sp a (mH sp a):=by
 unfold dnK dnO;rw[if_pos h,if_pos h];exact⟨rfl,rfl⟩
theorem Ol {sp lg:aa}{a:Int}(h:¬ 0<=mH sp a)(g:0<=wZ lg a):dnK sp lg a=3/\dnO sp lg a=RP lg a (wZ lg a):=by
 unfold dnK dnO;rw[if_neg h,if_neg h,if_pos g,if_pos g];exact⟨rfl,rfl⟩
theorem R5 {sp lg:aa}{a:Int}(h:¬ 0<=mH sp a)(g:¬ 0<=wZ lg a):dnK sp lg a=0/\dnO sp lg a=0:=by
 unfold dnK dnO;rw[if_neg h,if_neg h,if_neg g,if_neg g];exact⟨rfl,rfl⟩
theorem Do {sp lg:aa}{a:Int}(hl:layOk sp lg=true):sd sp lg a=true↔dnO sp lg a=0/\(dnK sp lg a=1\/dnK sp lg a=3):=by
 unfold sd dzO dzK;rw[if_pos hl,if_pos hl];simp only[AI,Wo,decide_eq_true_eq]
theorem Kg {sp lg:aa}{x:Int}(F:NE sp lg)(hl:layOk sp lg=true)(h:sd sp lg x=true):RQ sp lg x:=by
 obtain⟨h1,h2⟩:=(Do hl).1 h;by_cases c:0<=mH sp x
 ·obtain⟨d1,d2⟩:=Om (lg:=lg) c;obtain⟨b,q⟩:=jh c;change mH sp x<sp.length at b;change zw sp x (mH sp x)=true at q;rw[d1]at h2;rw[d2]at h1;generalize hF:mH sp x=f at*;obtain⟨f,rfl⟩:=V1 c;have bf:f<sp.length:=by omega
  have q':=G0.1 q;obtain⟨a1,a2,a3⟩:=A3.1 q';obtain⟨e1,e2⟩:=vI q';have cb:=gz (jH a1).2.2.1;have hh:hsB (af sp f 2) (IZ sp x f)=true:=by
   cases c:hsB (af sp f 2) (IZ sp x f)with
   |true=>rfl
   |false=>rw[c]at h2;simp at h2
  unfold NS at h1;rw[e2]at h1;unfold IZ at hh;rw[e1]at hh;have dv:clsSz (af sp f 1)*((x-af sp f 0*16)/clsSz (af sp f 1))=x-af sp f 0*16:=Int.mul_ediv_cancel_of_emod_eq_zero h1;have nn:0<=(x-af sp f 0*16)/clsSz (af sp f 1):=Zg (by omega) (by omega);generalize hs:(x-af sp f 0*16)/clsSz (af sp f 1)=s at*;have lt:s<slN (af sp f 1):=by
   by_cases w:s<slN (af sp f 1)
   ·exact w
   ·have m:slN (af sp f 1)*clsSz (af sp f 1)<=s*clsSz (af sp f 1):=Xd (by omega) (by omega);rw[Zq s]at m;omega
  obtain⟨s,rfl⟩:=V1 nn;have ae:=ke a1 nn lt;refine .inl ⟨f,s,bf,by omega,hh,?_⟩;have ae1:=ae.1;rw[Zq (s:Int)]at ae1;show x=aaI (af sp f 0) (af sp f 1) (af sp f 2) s;rw[ae1];omega
 ·by_cases g:0<=wZ lg x
  ·obtain⟨d1,d2⟩:=Ol c g;obtain⟨b,q⟩:=jh g;change wZ lg x<lg.length at b;change AL lg x (wZ lg x)=true at q;rw[d2]at h1;generalize hF:wZ lg x=f at*;obtain⟨f,rfl⟩:=V1 g;refine .inr ⟨f,by omega,?_⟩;unfold RP loI at h1;unfold AL at q;rw[if_pos q]at h1;show x=af lg f 0*16;omega
  ·obtain⟨d1,d2⟩:=R5 c g;rw[d1]at h2;omega
theorem JW {sp lg:aa}{x:Int}(h:0<=mH sp x):∃ f:Nat,mH sp x=f/\f<sp.length/\BA (af sp f 0) (af sp f 1) (af sp f 2) x=true:=by
 obtain⟨b,q⟩:=jh h;obtain⟨f,e⟩:=V1 h;refine⟨f,e,?_,?_⟩
 ·have:mH sp x<sp.length:=b;rw[e]at this;exact Int.ofNat_lt.1 this
 ·have:zw sp x (mH sp x)=true:=q;rw[e]at this;exact G0.1 this
theorem Pw {sp lg:aa}{x:Int}(F:NE sp lg)(hl:layOk sp lg=true)(h:RQ sp lg x):sd sp lg x=true:=by
 rw[Do hl];rcases h with⟨i,k,i1,k1,hh,e⟩|⟨j,j1,e⟩
 ·have a1:=F.s i i1;have cb:=gz (jH a1).2.2.1;have ae:=ke (s:=(k:Int)) a1 (by omega) (by omega);have sb:BA (af sp i 0) (af sp i 1) (af sp i 2) x=true:=A3.2 ⟨a1,by omega,by omega⟩;have c:0<=mH sp x:=nK i1 (G0.2 sb);obtain⟨f,e1,f1,f2⟩:=JW (lg:=lg) c;obtain⟨_,g2,g3⟩:=A3.1 f2;have:f=i:=F.ss f i f1 i1 (by omega);subst this;obtain⟨d1,d2⟩:=Om (lg:=lg) c;rw[d1,d2,e1];obtain⟨y1,y2⟩:=vI sb;have xe:x-af sp f 0*16=k*clsSz (af sp f 1):=by omega
  unfold IZ NS;rw[y1,y2,xe,Int.mul_ediv_cancel _ (by omega),if_pos hh];exact⟨Int.mul_emod_left _ _,.inl rfl⟩
 ·have t:=ig (F.l j j1);have b:=gQ t.1;have r:=bH.1 t.1;have c:¬ 0<=mH sp x:=fun c=>by
   obtain⟨f,e1,f1,f2⟩:=JW (lg:=lg) c;obtain⟨_,g2,g3⟩:=A3.1 f2;exact F.sl f j f1 j1 (by omega) (by omega)
  have lb:lhB (af lg j 0) (af lg j 1) (af lg j 2) x=true:=Mw.2 ⟨F.l j j1,by omega,by omega⟩;have g:0<=wZ lg x:=nK j1 (show AL lg x j=true from lb);obtain⟨d1,d2⟩:=Ol c g;obtain⟨b1,q⟩:=jh g;change wZ lg x<lg.length at b1;change AL lg x (wZ lg x)=true at q;rw[d1,d2];generalize hF:wZ lg x=f at*;obtain⟨f,rfl⟩:=V1 g;have f1:f<lg.length:=by omega
  have q':lhB (af lg f 0) (af lg f 1) (af lg f 2) x=true:=q;obtain⟨_,u1,u2⟩:=Mw.1 q';have t2:=ig (F.l f f1);have b2:=gQ t2.1;have:f=j:=F.ll f j (af lg j 0) f1 j1 (by omega) (by omega) (by omega) (by omega);subst this;refine⟨?_,.inr rfl⟩;show loI (af lg f 0) (af lg f 1) (af lg f 2) x=0;unfold loI;rw[if_pos lb];omega
def Kf (sp lg:aa):Nat->List Int
 |0=>[]
 |n+1=>Kf sp lg n++(if sd sp lg n then[(n:Int)]else[])
theorem u9 {sp lg:aa}:∀ n:Nat,Hy sp lg n=eV (Kf sp lg n)
 |0=>rfl
 | n+1=>by
   rw[Hy,Kf,eF,u9 n];by_cases c:sd sp lg n=true
   ·rw[if_pos c,if_pos c];rfl
   ·rw[if_neg c,if_neg c];rfl
theorem nY {sp lg:aa}{x:Int}:∀ {n:Nat},x∈Kf sp lg n↔0<=x/\x<n/\sd sp lg x=true
 |0=>⟨(fun h=>by cases h),(fun h=>absurd h.2.1 (by omega))⟩
 | n+1=>by
   rw[Kf,BY,nY]
   constructor
   ·rintro(h|h)
    ·exact⟨h.1,by omega,h.2.2⟩
    ·by_cases c:sd sp lg n=true
     ·rw[if_pos c,WG]at h;subst h;exact⟨by omega,by omega,c⟩
     ·rw[if_neg c]at h;cases h
   ·rintro⟨h1,h2,h3⟩;by_cases q:x=n
    ·subst q;rw[if_pos h3];exact .inr (by simp)
    ·exact .inl ⟨h1,by omega,h3⟩
theorem Cq {sp lg:aa}:∀ n:Nat,(Kf sp lg n).Pairwise (· < ·)
 |0=>Zr
 | n+1=>by
   rw[Kf,List.pairwise_append];refine⟨Cq n,?_,fun a ha b hb=>?_⟩
   ·by_cases c:sd sp lg n=true
    ·rw[if_pos c];simp
    ·rw[if_neg c];simp
   ·have m:=nY.1 ha;by_cases c:sd sp lg n=true
    ·rw[if_pos c,WG]at hb;omega
    ·rw[if_neg c]at hb;cases hb
theorem IH {l:List Int}(h:l.Nodup):(l.mergeSort fun x y=>decide (x<=y)).Pairwise (· < ·):=by
 have p:=List.pairwise_mergeSort (le:=fun x y:Int=>decide (x<=y)) (fun a b c h1 h2=>by simp only[decide_eq_true_eq]at*;omega) (fun a b=>by simp only[Wo,decide_eq_true_eq];omega) l;have n:(l.mergeSort fun x y=>decide (x<=y)).Nodup:=(YJ l _).nodup_iff.2 h;refine Zs (R:=fun a b=>decide (a<=b)=true) (S:=(· ≠ ·)) (T:=(· < ·)) (fun a b h1 h2=>?_) p n;simp only[decide_eq_true_eq]at h1;omega
theorem Iq {sp lg:aa}:iaL sp lg=laL sp lg:=by
 unfold iaL laL;by_cases hl:layOk sp lg=true
 ·rw[if_pos hl,if_pos hl];have F:=NM hl;unfold srtL;rw[B0,u9];refine congrArg eV (sX (IH (LU F)) (Cq 512) (fun x=>?_));rw[(YJ _ _).mem_iff,Ds,nY]
  constructor
  ·intro h;have v:=Pw F hl h;refine⟨?_,?_,v⟩
   ·rcases h with⟨i,k,i1,k1,_,e⟩|⟨j,j1,e⟩
    ·have ae:=ke (s:=(k:Int)) (F.s i i1) (by omega) (by omega);have t:=jH (F.s i i1);omega
    ·have t:=ig (F.l j j1);omega
   ·rcases h with⟨i,k,i1,k1,_,e⟩|⟨j,j1,e⟩
    ·have ae:=ke (s:=(k:Int)) (F.s i i1) (by omega) (by omega);have t:=jH (F.s i i1);omega
    ·have t:=ig (F.l j j1);have b:=gQ t.1;omega
  ·rintro⟨_,_,h⟩;exact Kg F hl h
 ·rw[if_neg hl,if_neg hl]
end Go.V
namespace Go.V
def xc (qs:aa)(a j:Int):Bool:=eqB (af qs j 0) a
def qtI (qs:aa)(a:Int):Int:=cB (xc qs a) qs.length
def qtB (qs:aa)(a:Int):Bool:=decide (0<=qtI qs a)
theorem M4 {qs:aa}{a i:Int}(h:upto (cp (xc qs a)) i)(h0:0<=i)(h1:i<qs.length)(e:af qs i 0=a):qtB qs a=true:=by
 unfold qtB qtI;rw[dD h h0 h1 (uE e)];exact decide_eq_true h0
theorem QB {qs:aa}{a i:Int}(h:upto (cp (xc qs a)) i)(h1:(qs.length:Int)<=i):qtB qs a=false:=by
 unfold qtB qtI;rw[dE h h1];rfl
end Go.V
namespace Go.V
structure Jr (ls:aa):Prop where
 w:Rw [.sl [tI]] ls
 l:ls.length<=1099511627776
 n:∀ i:Int,(aO ls i 0).length<=1099511627776
theorem Jr.el {ls:aa}(h:Jr ls){i:Int}(h0:0<=i)(h1:i<ls.length):Rw [tI] (aO ls i 0)/\(aO ls i 0).length<=1099511627776:=
 ⟨Rw.sub (fs:=[.sl [tI]]) h.w (by omega) rfl,h.n i⟩
end Go.V
namespace Go.V
def Eu (b:aa)(i k:Int):Bool:=inR (af (aO b i 0) k 0) 0 ((b.length:Int)-1)&&decide (0<=af (aO b i 0) k 1)
def EQ (x:aa)(i k:Int):Bool:=decide (0<=af (aO x i 0) k 0)
def NQ (b x:aa)(i:Int):Bool:=b9 (Eu b i) (aO b i 0).length&&b9 (EQ x i) (aO x i 0).length
def Iw (b x:aa):Nat->Int
 |0=>0
 |n+1=>Iw b x n+((aO b n 0).length+(aO x n 0).length)
def mailOk (b x:aa):Bool:=inR b.length 1 4&&(decide (x.length=b.length)&&(b9 (NQ b x) b.length&&decide (Iw b x b.length<=30)))
structure Aa (b x:aa):Prop where
 bw:Rw [.sl [tI,tI]] b
 xw:Rw [.sl [tI]] x
 bl:b.length<=1099511627776
 xl:x.length<=1099511627776
 bn:∀ i:Int,(aO b i 0).length<=1099511627776
 xn:∀ i:Int,(aO x i 0).length<=1099511627776
theorem Kp {b x:aa}(h:Aa b x):∀ n:Nat,0<=Iw b x n/\Iw b x n<=2199023255552*n
 |0=>⟨XL _,XL _⟩
 | n+1=>by
   have q:=Kp h n;have p1:=h.bn n;have p2:=h.xn n;rw[Iw];omega
structure HF (b x:aa)(i t:Int):Prop where
 ok:upto (NQ b x) i
 t:t=Iw b x i.toNat
theorem To {b x:aa}:HF b x 0 0:=⟨bu,rfl⟩
theorem PH {b x:aa}{i t:Int}(N:Aa b x)(h:HF b x i t)(i0:0<=i)(i1:i<=4):0<=t/\t<=8796093022208:=by
 have q:=Kp N i.toNat;have e:=h.t;omega
theorem PI {b x:aa}{i t k j:Int}(h:HF b x i t)(i0:0<=i)(hp:upto (Eu b i) k)(k1:((aO b i 0).length:Int)<=k)(ha:upto (EQ x i) j)(j1:((aO x i 0).length:Int)<=j):HF b x (i+1) (t+((aO b i 0).length+(aO x i 0).length)):=by
 refine⟨aY h.ok ?_,?_⟩
 ·unfold NQ;rw[bA hp k1,bA ha j1];rfl
 ·rw[show(i+1).toNat=i.toNat+1 from by omega,Iw, <-h.t,VQ i0]
theorem MI {b x:aa}(h:inR b.length 1 4=false):mailOk b x=false:=by unfold mailOk;rw[h];rfl
theorem MJ {b x:aa}(h:(x.length:Int)≠b.length):mailOk b x=false:=by
 unfold mailOk;rw[decide_eq_false (p:=x.length=b.length) (by omega)];simp
theorem Kk {b x:aa}{i:Int}(i0:0<=i)(i1:i<b.length)(h:NQ b x i=false):mailOk b x=false:=by
 unfold mailOk;rw[bI i0 i1 h];simp
theorem Gq {b x:aa}{i k:Int}(i0:0<=i)(i1:i<b.length)(k0:0<=k)(k1:k<(aO b i 0).length)(h:Eu b i k=false):mailOk b x=false:=
 Kk i0 i1 (by unfold NQ;rw[bI k0 k1 h];rfl)
theorem ML {b x:aa}{i k:Int}(i0:0<=i)(i1:i<b.length)(k0:0<=k)(k1:k<(aO x i 0).length)(h:EQ x i k=false):mailOk b x=false:=
 Kk i0 i1 (by unfold NQ;rw[bI k0 k1 h,Ww])
theorem MH {b x:aa}{i t:Int}(h:HF b x i t)(h1:inR b.length 1 4=true)(h2:(x.length:Int)=b.length)(i1:i<=b.length)(i2:(b.length:Int)<=i):mailOk b x=decide (t<=30):=by
 have e:i.toNat=b.length:=by omega
 have q:=h.t;rw[e]at q;unfold mailOk;rw[h1,decide_eq_true (p:=x.length=b.length) (by omega),bA h.ok i2, <-q];rfl
theorem P8 {b:aa}{i k:Int}(h:inR (af (aO b i 0) k 0) 0 ((b.length:Int)-1)=false):Eu b i k=false:=by unfold Eu;rw[h];rfl
theorem P9 {b:aa}{i k:Int}(h:af (aO b i 0) k 1<0):Eu b i k=false:=by unfold Eu;rw[decide_eq_false (by omega),Ww]
theorem Qa {b:aa}{i k:Int}(h:inR (af (aO b i 0) k 0) 0 ((b.length:Int)-1)=true)(g:0<=af (aO b i 0) k 1):Eu b i k=true:=by unfold Eu;rw[h,decide_eq_true g];rfl
theorem RX {x:aa}{i k:Int}(h:af (aO x i 0) k 0<0):EQ x i k=false:=by unfold EQ;rw[decide_eq_false (by omega)]
theorem N4 {x:aa}{i k:Int}(h:0<=af (aO x i 0) k 0):EQ x i k=true:=by unfold EQ;rw[decide_eq_true h]
end Go.V
namespace Go.V
def JR (b:aa)(i:Int):Nat->aa
 |0=>[]
 |n+1=>JR b i n++[[.i (af (aO b i 0) n 1)]]
def Fo (b:aa):Nat->aa
 |0=>[]
 |n+1=>Fo b n++JR b n (aO b n 0).length
def Hw (x:aa):Nat->aa
 |0=>[]
 |n+1=>Hw x n++aO x n 0
def ifL (b x:aa):aa:=if mailOk b x then Fo b b.length++Hw x x.length else[]
theorem MM {b x:aa}(h:mailOk b x=true):b.length<=4/\x.length=b.length:=by
 unfold mailOk at h;simp only[AI,decide_eq_true_eq,bH]at h;omega
structure Jl (b:aa)(i:Int)(o:aa):Prop where
 e:o=Fo b i.toNat
 l:o.length<=1099511627776*i.toNat
structure Jm (b:aa)(i k:Int)(o:aa):Prop where
 e:o=Fo b i.toNat++JR b i k.toNat
 l:o.length<=1099511627776*i.toNat+k.toNat
structure Jn (b x:aa)(j:Int)(o:aa):Prop where
 e:o=Fo b b.length++Hw x j.toNat
 l:o.length<=1099511627776*b.length+1099511627776*j.toNat
theorem R7 {b:aa}:Jl b 0 []:=⟨rfl,No _⟩
theorem R8 {b o:aa}{i:Int}(h:Jl b i o):Jm b i 0 o:=⟨by rw[h.e];simp[JR],by have:=h.l;omega⟩
theorem Or {b o:aa}{i k:Int}(h:Jm b i k o)(k0:0<=k):Jm b i (k+1) (o++[[.i (af (aO b i 0) k 1)]]):=by
 have l:=h.l;have e:=h.e;refine⟨?_,?_⟩
 ·rw[show(k+1).toNat=k.toNat+1 from by omega,JR,VQ k0, <-IS, <-e]
 ·rw[By,V9,Wy];omega
theorem Ly {b o:aa}{i k:Int}(h:Jm b i k o)(i0:0<=i)(hn:(aO b i 0).length<=1099511627776)(k1:k<=((aO b i 0).length:Int))(k2:((aO b i 0).length:Int)<=k):Jl b (i+1) o:=by
 have l:=h.l;have e:=h.e;have ek:k.toNat=(aO b i 0).length:=by omega
 refine⟨?_,by omega⟩;rw[show(i+1).toNat=i.toNat+1 from by omega,Fo,VQ i0, <-ek];exact e
theorem Sc {b x o:aa}{i:Int}(h:Jl b i o)(i1:i<=b.length)(i2:(b.length:Int)<=i):Jn b x 0 o:=by
 have l:=h.l;have e:=h.e;have ei:i.toNat=b.length:=by omega
 rw[ei]at e l;exact⟨by rw[e];simp[Hw],by omega⟩
theorem Ow {b x o:aa}{j:Int}(h:Jn b x j o)(j0:0<=j)(hn:(aO x j 0).length<=1099511627776):Jn b x (j+1) (o++aO x j 0):=by
 have l:=h.l;have e:=h.e;refine⟨?_,?_⟩
 ·rw[show(j+1).toNat=j.toNat+1 from by omega,Hw,VQ j0, <-IS, <-e]
 ·rw[By];omega
theorem LF {b x o:aa}{j:Int}(h:Jn b x j o)(hm:mailOk b x=true)(j1:j<=x.length)(j2:(x.length:Int)<=j):o=ifL b x:=by
 have e:=h.e;rw[show j.toNat=x.length from by omega]at e;unfold ifL;rw[if_pos hm];exact e
theorem SH {b x:aa}(hm:mailOk b x=false):([]:aa)=ifL b x:=by unfold ifL;rw[hm];rfl
end Go.V
namespace Go.V
structure Un (cs:aa):Prop where
 w:Rw [.sl [.sl [tI]]] cs
 l:cs.length<=1099511627776
 n:∀ i:Int,0<=i->i<cs.length->Jr (aO cs i 0)
end Go.V
namespace Go.V
theorem xy :∀ {fs:List Ty} {e:ay} {j:Nat},ce fs e->fs[j]?=some tI->∃ n,e[j]?=some (.i n)/\ -9223372036854775808<=n/\n<=9223372036854775807
 |[],_,j,_,h=>by simp at h
 |_::_,[],j,h,_=>h.elim
 | t::ts,l::ls,0,h,e=>by
   simp at e;subst e;have h1:=h.1;cases l with
   | v x=>cases x with
     |int k n=>simp only[cz]at h1;exact⟨n,by simp[h1.1],uV h1.2⟩
     |_=>simp[cz]at h1
   |_=>simp[cz]at h1
 | t::ts,l::ls,j+1,h,e=>by
   simp at e;obtain⟨n,h1,h2⟩:=xy h.2 e;exact⟨n,by simpa using h1,h2⟩
theorem xN {fs:List Ty}{es:aa}{i:Int}{j:Nat}(h:Rw fs es)(hj:fs[j]?=some tI)(h1:i.toNat<es.length): -9223372036854775808<=af es i j/\af es i j<=9223372036854775807:=by
 obtain⟨n,e,b⟩:=xy (h.at h1) hj;unfold af;rw[If (l:=es.getD i.toNat []),e];exact b
theorem TR {x:Int}(h: -9223372036854775808<=x/\x<=9223372036854775807):Rw [tI] [[.i x]]:=Rw.one (fs:=[tI]) ⟨⟨rfl,h⟩,trivial⟩
def NN (os:aa)(f:Nat):Nat->aa
 |0=>[]
 |n+1=>NN os f n++[[.i (af os n f)]]
def R1 (ls:aa):Nat->aa
 |0=>[]
 |n+1=>R1 ls n++aO ls n 0
def RI (cs:aa):Nat->aa
 |0=>[]
 |n+1=>RI cs n++R1 (aO cs n 0) (aO cs n 0).length
theorem uR {es:aa}{n j:Nat}(h:n<es.length):ag (aO es n j)<=cL (es.getD n []):=by
 unfold aO;rw[V4];generalize es.getD n []=r;cases e:r[j]? with
 |none=>rw[If,e];exact No _
 | some l=>
   rw[If,e];have q:=CZ e;cases l with
   |s sz es=>exact q
   |_=>exact No _
theorem jc {es:aa}{n:Nat}(h:n<es.length):bD (es.take (n+1))=bD (es.take n)+cL (es.getD n []):=by
 rw[dt (d:=[]) h,d5];simp[bD]
theorem Ap {es:aa}{n:Nat}:bD (es.take n)<=bD es:=by
 conv=>rhs;rw[<-V2 n es,d5]
 omega
theorem nL {b:aa}{i:Int}:∀ n,(JR b i n).length=n
 |0=>rfl
 |n+1=>by rw[JR,By,nL n];rfl
theorem Gv {b x:aa}:∀ n:Nat,(((Fo b n).length+(Hw x n).length:Nat):Int)=Iw b x n
 |0=>rfl
 | n+1=>by
   have q:=Gv (b:=b) (x:=x) n;rw[Iw,Fo,Hw,By,By,nL, <-q];omega
theorem BZ {b x:aa}:(ifL b x).length<=30:=by
 unfold ifL;by_cases c:mailOk b x=true
 ·rw[if_pos c,By];have t:=MM c;unfold mailOk at c;simp only[AI,decide_eq_true_eq]at c;have q:=Gv (b:=b) (x:=x) b.length;rw[t.2];omega
 ·rw[if_neg c];exact No _
theorem Fs {b x:aa}{i:Int}(h:Aa b x)(i0:0<=i)(i1:i<b.length):∀ n,n<=(aO b i 0).length->Rw [tI] (JR b i n)
 |0,_=>Rw.nil
 | n+1,hn=>Rw.append (Fs h i0 i1 n (by omega)) (TR (xN (fs:=[tI,tI]) (Rw.sub (fs:=[.sl [tI,tI]]) h.bw (by omega) rfl) rfl (by omega))) (by
    have:=h.bn i;rw[nL];unfold maxLen;simp only[V9,Wy];omega)
theorem Fp {b x:aa}(h:Aa b x)(hb:b.length<=4):∀ n,n<=b.length->Rw [tI] (Fo b n)/\(Fo b n).length<=n*1099511627776
 |0,_=>⟨Rw.nil,No _⟩
 | n+1,hn=>by
   obtain⟨q1,q2⟩:=Fp h hb n (by omega);have l:=h.bn n;refine⟨Rw.append q1 (Fs h (by omega) (by omega) _ (VJ _)) (by rw[nL];unfold maxLen;omega),?_⟩;rw[Fo,By,nL];omega
theorem Fw {b x:aa}(h:Aa b x)(hb:x.length<=4):∀ n,n<=x.length->Rw [tI] (Hw x n)/\(Hw x n).length<=n*1099511627776
 |0,_=>⟨Rw.nil,No _⟩
 | n+1,hn=>by
   obtain⟨q1,q2⟩:=Fw h hb n (by omega);have l:=h.xn n;refine⟨Rw.append q1 (Rw.sub (fs:=[.sl [tI]]) h.xw (by omega) rfl) (by unfold maxLen;omega),?_⟩;rw[Hw,By];omega
theorem FL {b x:aa}(h:Aa b x):Rw [tI] (ifL b x):=by
 unfold ifL;by_cases c:mailOk b x=true
 ·rw[if_pos c];have t:=MM c;obtain⟨q1,l1⟩:=Fp h t.1 b.length (VJ _);obtain⟨q2,l2⟩:=Fw h (by omega) x.length (VJ _);exact Rw.append q1 q2 (by unfold maxLen;omega)
 ·rw[if_neg c];exact Rw.nil
structure zZ (sp lg os cs b x qs:aa):Prop where
 sw:Rw [tI,tI,tI] sp
 lw:Rw [tI,tI,tI] lg
 ow:Rw [tI,tI,tI,tI] os
 cw:Rw [.sl [.sl [tI]]] cs
 qw:Rw [tI,tI,tI] qs
 m:Aa b x
 c:Un cs
 sl:sp.length<=1073741824
 ll:lg.length<=1073741824
 ol:os.length<=1073741824
 ql:qs.length<=1073741824
 cl:ag cs<=1073741824
structure Vs (os:aa)(i:Int)(o:aa):Prop where
 e:o=NN os 1 i.toNat
structure Vt (os cs:aa)(i:Int)(o:aa):Prop where
 e:o=NN os 1 os.length++RI cs i.toNat
structure Vu (os cs:aa)(i k:Int)(o:aa):Prop where
 e:o=NN os 1 os.length++RI cs i.toNat++R1 (aO cs i 0) k.toNat
structure Vv (os cs qs:aa)(j:Int)(o:aa):Prop where
 e:o=NN os 1 os.length++RI cs cs.length++NN qs 0 j.toNat
section
variable {sp lg os cs b x qs o : aa} {i k j : Int}
end
def Ib (e:ay):Int:=Mu (e.getD 0 .g)
theorem xO {l:aa}{a:Int}:hasB l a=true↔a∈l.map Ib:=by
 rw[C8,Wu]
 constructor
 ·rintro⟨k,hk,e⟩;refine⟨l[k],YY _,?_⟩;rw[<-e];unfold af Ib;rw[V4,If (l:=l),IN hk];rfl
 ·rintro⟨e,he,q⟩;obtain⟨k,hk,rfl⟩:=XN.1 he;refine⟨k,hk,?_⟩;rw[<-q];unfold af Ib;rw[V4,If (l:=l),IN hk];rfl
theorem H9 {l m:aa}{a:Int}:hasB (l++m) a=(hasB l a||hasB m a):=by
 refine eA ?_;rw[Wo,xO,xO,xO,List.map_append,BY]
theorem Ia {x a:Int}:hasB [[.i x]] a=true↔x=a:=by
 rw[xO];show a∈[x]↔x=a;rw[WG];exact⟨Eq.symm,Eq.symm⟩
theorem xH {p:Int->Bool}{n:Nat}:0<=cB p n↔∃ k:Nat,k<n/\p k=true:=by
 constructor
 ·intro h;obtain⟨h1,h2⟩:=jh h;obtain⟨k,e⟩:=V1 h;rw[e]at h1 h2;exact⟨k,by omega,h2⟩
 ·rintro⟨k,h1,h2⟩;exact nK h1 h2
def Uv (p:Int->Bool)(l:aa):Nat->aa
 |0=>[]
 |n+1=>Uv p l n++(if p (af l n 0)then[[.i (af l n 0)]]else[])
structure UQ (p:Int->Bool)(l:aa)(i:Int)(o:aa):Prop where
 e:o=Uv p l i.toNat
 l:o.length<=i.toNat
section
variable {p : Int -> Bool} {l o : aa} {i : Int}
end
theorem FZ {sp lg:aa}:(laL sp lg).length<=512:=by
 have k:∀ n,(Hy sp lg n).length<=n:=by
  intro n
  induction n with
  |zero=>exact VJ _
  |succ n ih=>rw[Hy,By];split<;>simp<;>omega
 unfold laL;split
 ·exact k 512
 ·exact No _
theorem Pg {sp lg:aa}:Rw [tI] (laL sp lg):=by
 unfold laL;by_cases c:layOk sp lg=true
 ·rw[if_pos c,u9];refine pI (fun x hx=>?_) ?_
  ·have:=nY.1 hx;omega
  ·have q:=FZ (sp:=sp) (lg:=lg);unfold laL at q;rw[if_pos c,u9,bU]at q;omega
 ·rw[if_neg c];exact Rw.nil
theorem xZ {l:aa}{i:Int}(h:Rw [tI] l)(h0:0<=i)(h1:i<l.length):∃ rec o,bL (L.s 1 l) [(i.toNat,0)]=some (rec,o)/\o+[L.v (Wg Wx 0)].length<=rec.length/\Yv [L.v (Wg Wx 0)].length (Yw o rec)=je ah (L.s 1 l) [(i.toNat,0)] 0 [L.v (Wg Wx 0)]:=
 vH (z0:=[.i 0]) (z:=[.i 0]) h.wf (by omega) rfl (by decide)
theorem yO {es:aa}{i:Int}{j:Nat}:ag (aO es i j)<=ag es:=by
 by_cases c:i.toNat<es.length
 ·have q:=uR (j:=j) c;rw[show aO es (i.toNat:Nat) j=aO es i j from by unfold aO;rw[V4]]at q;have d:=jc c;have e:=Ap (es:=es) (n:=i.toNat+1);unfold ag at q ⊢;omega
 ·have e:aO es i j=[]:=by
   unfold aO;rw[If (l:=es),Wb (by omega)];simp[EK]
  rw[e];exact No _
theorem MR {ls:aa}(h:Rw [.sl [tI]] ls)(hc:ag ls<=1073741824):Jr ls:=by
 refine⟨h,by unfold ag at hc;omega,fun i=>?_⟩;have:=yO (es:=ls) (i:=i) (j:=0);unfold ag at this hc;omega
theorem MQ {cs:aa}(h:Rw [.sl [.sl [tI]]] cs)(hc:ag cs<=1073741824):Un cs:=by
 refine⟨h,by unfold ag at hc;omega,fun i i0 i1=>MR (Rw.sub (fs:=[.sl [.sl [tI]]]) h (by omega) rfl) ?_⟩;exact Xe yO hc
theorem MS {b x:aa}(hb:Rw [.sl [tI,tI]] b)(hx:Rw [.sl [tI]] x)(cb:ag b<=1073741824)(cx:ag x<=1073741824):Aa b x:=by
 refine⟨hb,hx,by unfold ag at cb;omega,by unfold ag at cx;omega,fun i=>?_,fun i=>?_⟩
 ·have:=yO (es:=b) (i:=i) (j:=0);unfold ag at this cb;omega
 ·have:=yO (es:=x) (i:=i) (j:=0);unfold ag at this cx;omega
end Go.V
namespace Go.V
theorem xf {i:Int}(h:0<=i)(h1:i<=9223372036854775807):bJ .sub .i64 i 1=i-1:=cO (by omega)
theorem vL {es:aa}{i:Int}:zA es (Int.toNat 0) (Oi i 0)=es.take i.toNat:=by simp[zA,Oi]
theorem cmp_eq {a b:Int}:co .eql a b=decide (a=b):=by unfold co;by_cases c:a=b<;>simp[c]
theorem yF {a b:Int}:co .neq a b=decide (a≠b):=by unfold co;by_cases c:a=b<;>simp[c]
def rngIn (n a l:Int):Bool:=inR l 1 n&&inR a 0 (n-l)
def si (n:Int)(rs:aa)(i:Int):Bool:=rngIn n (af rs i 0) (af rs i 1)&& !(decide (0<i)&&decide (af rs i 0<=bJ .add .i64 (af rs (i-1) 0) (af rs (i-1) 1)))
def rgOk (n:Int)(rs:aa):Bool:=b9 (si n rs) rs.length&&inR n 1 32
section
variable {n i : Int} {rs : aa}
theorem M6 (i0:0<=i)(i1:i<rs.length)(h:rngIn n (af rs i 0) (af rs i 1)=false):rgOk n rs=false:=by
 unfold rgOk;rw[bI i0 i1 (by unfold si;rw[h];rfl)];rfl
theorem M7 (i0:0<=i)(i1:i<rs.length)(h:0<i)(g:af rs i 0<=bJ .add .i64 (af rs (i-1) 0) (af rs (i-1) 1)):rgOk n rs=false:=by
 unfold rgOk;rw[bI i0 i1 (by unfold si;rw[decide_eq_true h,decide_eq_true g];simp)];rfl
theorem IP (h:rngIn n (af rs i 0) (af rs i 1)=true)(g:i<=0):si n rs i=true:=by
 unfold si;rw[h,decide_eq_false (by omega)];rfl
theorem IQ (h:rngIn n (af rs i 0) (af rs i 1)=true)(g:bJ .add .i64 (af rs (i-1) 0) (af rs (i-1) 1)<af rs i 0):si n rs i=true:=by
 unfold si;rw[h,decide_eq_false (p:=af rs i 0<=_) (by omega)];simp
theorem M5 (h:upto (si n rs) i)(g:(rs.length:Int)<=i):inR n 1 32=rgOk n rs:=by unfold rgOk;rw[bA h g];rfl
end
def nS (rs:aa)(p j:Int):Bool:=decide (af rs j 0<=p)&&decide (p<bJ .add .i64 (af rs j 0) (af rs j 1))
def rhI (rs:aa)(p:Int):Int:=cB (nS rs p) rs.length
def rhB (rs:aa)(p:Int):Bool:=decide (0<=rhI rs p)
def rh1 (a l p:Int):Bool:=decide (a<=p)&&decide (p<bJ .add .i64 a l)
theorem M8 {rs:aa}{p i:Int}(h:upto (cp (nS rs p)) i)(h0:0<=i)(h1:i<rs.length)(a:af rs i 0<=p)(b:p<bJ .add .i64 (af rs i 0) (af rs i 1)):rhB rs p=true:=by
 unfold rhB rhI;rw[dD h h0 h1 (by unfold nS;rw[decide_eq_true a,decide_eq_true b];rfl)];exact decide_eq_true h0
theorem QE {rs:aa}{p i:Int}(h:upto (cp (nS rs p)) i)(h1:(rs.length:Int)<=i):rhB rs p=false:=by
 unfold rhB rhI;rw[dE h h1];rfl
theorem QC {rs:aa}{p i:Int}(a:p<af rs i 0):cp (nS rs p) i=true:=by unfold cp nS;rw[decide_eq_false (by omega)];rfl
theorem QD {rs:aa}{p i:Int}(b:bJ .add .i64 (af rs i 0) (af rs i 1)<=p):cp (nS rs p) i=true:=by unfold cp nS;rw[decide_eq_false (p:=p<_) (by omega)];simp
def mshB (p1 k1 b1 p2 k2 b2:Int):Bool:=spOk p1 k1 b1&&(spOk p2 k2 b2&&(decide (k1=k2)&&(decide (p1≠p2)&&decide (bJ .and .i64 b1 b2=0))))
def M2 (qs:aa):Nat->Int
 |0=>0
 |n+1=>M2 qs n+clsSz (af qs n 1)
def qcI (qs:aa):Int:=M2 qs qs.length
theorem CX {k:Int}:0<=clsSz k/\clsSz k<=8:=by
 unfold clsSz;repeat' split
 all_goals omega
theorem KE {qs:aa}:∀ n:Nat,0<=M2 qs n/\M2 qs n<=8*n
 |0=>⟨XL _,XL _⟩
 |n+1=>by have q:=KE (qs:=qs) n;have c:=CX (k:=af qs n 1);rw[M2];omega
structure HG (qs:aa)(i t:Int):Prop where
 e:t=M2 qs i.toNat
theorem TE {qs:aa}:HG qs 0 0:=⟨rfl⟩
theorem TF {qs:aa}{i t:Int}(h:HG qs i t)(i0:0<=i):0<=t/\t<=8*i:=by have q:=KE (qs:=qs) i.toNat;rw[<-h.e]at q;omega
theorem Qu {qs:aa}{i t:Int}(h:HG qs i t)(i0:0<=i)(i1:i<=1099511627776):HG qs (i+1) (bJ .add .i64 t (clsSz (af qs i 1))):=by
 have b:=TF h i0;have c:=CX (k:=af qs i 1);refine⟨?_⟩;rw[show bJ .add .i64 t (clsSz (af qs i 1))=t+clsSz (af qs i 1)from bB (by omega),show(i+1).toNat=i.toNat+1 from by omega,M2, <-h.e,VQ i0]
theorem M3 {qs:aa}{i t:Int}(h:HG qs i t)(i1:i<=qs.length)(i2:(qs.length:Int)<=i):t=qcI qs:=by unfold qcI;rw[h.e,show i.toNat=qs.length from by omega]
def stlOk (b:aa)(a c s:Int):Bool:=inR c 0 3&&(decide (0<=a)&&(decide (0<=s)&&(!qtB b a&&(decide (b.length=0)||decide (af b (b.length-1:Int) 2<=s)))))
def AW (qs:aa)(i:Int):Bool:=stlOk (qs.take i.toNat) (af qs i 0) (af qs i 1) (af qs i 2)
def quarOk (rm:Int)(qs:aa):Bool:=b9 (AW qs) qs.length&&(inR rm 0 500&&decide (qcI qs<=rm))
def staB (a c s:Int):Bool:=inR c 0 3&&(decide (0<=a)&&decide (0<=s))
theorem sF {es:aa}{n:Nat}{i:Int}{j:Nat}(h:i.toNat<n):af (es.take n) i j=af es i j:=by
 unfold af;rw[If (l:=es.take n),VV,if_pos h,If (l:=es)]
section
variable {rm i : Int} {qs : aa}
theorem DR (i0:0<=i)(i1:i<qs.length)(h:AW qs i=false):quarOk rm qs=false:=by unfold quarOk;rw[bI i0 i1 h];rfl
theorem GQ (h:upto (AW qs) i)(g:(qs.length:Int)<=i):quarOk rm qs=(inR rm 0 500&&decide (qcI qs<=rm)):=by unfold quarOk;rw[bA h g];rfl
theorem Qp (h:staB (af qs i 0) (af qs i 1) (af qs i 2)=false):AW qs i=false:=by
 unfold AW stlOk;unfold staB at h
 revert h
 cases inR (af qs i 1) 0 3<;>cases decide (0<=af qs i 0)<;>cases decide (0<=af qs i 2)<;>simp
theorem DO (i0:0<i)(i1:i<qs.length):(decide ((qs.take i.toNat).length=0)||decide (af (qs.take i.toNat) ((qs.take i.toNat).length-1:Int) 2<=af qs i 2))=decide (af qs (i-1) 2<=af qs i 2):=by
 have e:(qs.take i.toNat).length=i.toNat:=by rw[VK];omega
 rw[e,sF (by omega),decide_eq_false (p:=i.toNat=0) (by omega),show((i.toNat:Nat):Int)-1=i-1 from by omega];rfl
theorem Qq (i0:0<i)(i1:i<qs.length)(h:af qs i 2<af qs (i-1) 2):AW qs i=false:=by
 unfold AW stlOk;rw[DO i0 i1,decide_eq_false (p:=af qs (i-1) 2<=af qs i 2) (by omega)];simp
theorem Qr (h:qtB (qs.take i.toNat) (af qs i 0)=true):AW qs i=false:=by unfold AW stlOk;rw[h];simp
theorem Qs (h:staB (af qs i 0) (af qs i 1) (af qs i 2)=true)(g:qtB (qs.take i.toNat) (af qs i 0)=false)(i0:0<=i)(z:i<=0):AW qs i=true:=by
 unfold AW stlOk;unfold staB at h;simp only[AI]at h;have e:i=0:=by omega
 subst e;rw[h.1,h.2.1,h.2.2,g];rfl
theorem Qt (h:staB (af qs i 0) (af qs i 1) (af qs i 2)=true)(g:qtB (qs.take i.toNat) (af qs i 0)=false)(i0:0<i)(i1:i<qs.length)(z:af qs (i-1) 2<=af qs i 2):AW qs i=true:=by
 unfold AW stlOk;unfold staB at h;simp only[AI]at h;rw[DO i0 i1,h.1,h.2.1,h.2.2,g,decide_eq_true z];rfl
end
def sv (ls:aa)(i:Int):Nat->List Int
 |0=>[]
 |n+1=>sv ls i n++[af (aO ls i 0) n 0]
def sy (ls:aa):Nat->List Int
 |0=>[]
 |n+1=>sy ls n++sv ls n (aO ls n 0).length
def Jz (ls:aa)(i k:Int):Bool:=inR (af (aO ls i 0) k 0) 0 511&&decide (bJ .rem .i64 (af (aO ls i 0) k 0) (clsSz i)=0)
def Ll (ls:aa)(i:Int):Bool:=decide ((aO ls i 0).length<=8)&&b9 (Jz ls i) (aO ls i 0).length
def caOk (ls:aa):Bool:=decide (ls.length=4)&&(b9 (Ll ls) 4&&decide ((sy ls 4).Nodup))
theorem sx {ls:aa}{i:Int}:∀ n,(sv ls i n).length=n
 |0=>rfl
 |n+1=>by rw[sv,By,sx n];rfl
theorem CU {ls:aa}{i:Int}:∀ (m n:Nat),n<=m->∃ r,sv ls i m=sv ls i n++r
 |0,n,h=>⟨[],by rw[show n=0 from by omega];rfl⟩
 | m+1,n,h=>by
   by_cases c:n=m+1
   ·subst c;exact⟨[],by simp⟩
   ·obtain⟨r,e⟩:=CU (ls:=ls) (i:=i) m n (by omega);exact⟨r++[af (aO ls i 0) m 0],by rw[sv,e,IS]⟩
theorem CV {ls:aa}:∀ (m n:Nat),n<=m->∃ r,sy ls m=sy ls n++r
 |0,n,h=>⟨[],by rw[show n=0 from by omega];rfl⟩
 | m+1,n,h=>by
   by_cases c:n=m+1
   ·subst c;exact⟨[],by simp⟩
   ·obtain⟨r,e⟩:=CV (ls:=ls) m n (by omega);exact⟨r++sv ls m (aO ls m 0).length,by rw[sy,e,IS]⟩
theorem ux {ls:aa}{i k:Int}(h:0<=k):sv ls i (k+1).toNat=sv ls i k.toNat++[af (aO ls i 0) k 0]:=by
 rw[show(k+1).toNat=k.toNat+1 from by omega,sv,VQ h]
theorem uy {ls:aa}{i:Int}(h:0<=i):sy ls (i+1).toNat=sy ls i.toNat++sv ls i (aO ls i 0).length:=by
 rw[show(i+1).toNat=i.toNat+1 from by omega,sy,VQ h]
structure KY (ls:aa)(i:Int):Prop where
 ok:upto (Ll ls) i
 nd:(sy ls i.toNat).Nodup
 l:i<=4
 b:∀ x∈sy ls i.toNat,0<=x/\x<=511
 n:(sy ls i.toNat).length<=8*i.toNat
structure Nu (ls:aa)(i k:Int):Prop where
 ok:upto (Ll ls) i
 nd:(sy ls i.toNat++sv ls i k.toNat).Nodup
 l:i<=3
 s:(aO ls i 0).length<=8
 bk:upto (Jz ls i) k
 b:∀ x∈sy ls i.toNat++sv ls i k.toNat,0<=x/\x<=511
 n:(sy ls i.toNat).length<=8*i.toNat
section
variable {ls : aa} {i k : Int}
theorem N6 :KY ls 0:=⟨bu,Wd,by omega,(fun x hx=>by cases hx),No _⟩
theorem N8 (h:KY ls i)(i0:0<=i)(c:inR i 0 3=true)(s:(aO ls i 0).length<=8):Nu ls i 0:=
 ⟨h.ok,by simpa[sv]using h.nd,(bH.1 c).2,s,bu,by simpa[sv]using h.b,h.n⟩
theorem JE (h:Nu ls i k)(k0:0<=k)(h1:inR (af (aO ls i 0) k 0) 0 511=true)(h2:bJ .rem .i64 (af (aO ls i 0) k 0) (clsSz i)=0)(h3:af (aO ls i 0) k 0∉sy ls i.toNat++sv ls i k.toNat):Nu ls i (k+1):=by
 refine⟨h.ok,?_,h.l,h.s,aY h.bk (by unfold Jz;rw[h1,decide_eq_true h2];rfl),?_,h.n⟩
 ·rw[ux k0, <-IS];exact gZ h.nd h3
 ·rw[ux k0, <-IS];intro x hx;rcases BY.1 hx with q|q
  ·exact h.b x q
  ·simp at q;subst q;exact bH.1 h1
theorem JB (h:Nu ls i k)(i0:0<=i)(k1:k<=((aO ls i 0).length:Int))(k2:((aO ls i 0).length:Int)<=k):KY ls (i+1):=by
 have e:k.toNat=(aO ls i 0).length:=by omega
 have nd:=h.nd;have b:=h.b;have n:=h.n;have s:=h.s;have l:=h.l;rw[e, <-uy i0]at nd b;refine⟨aY h.ok (by unfold Ll;rw[decide_eq_true h.s,bA h.bk k2];rfl),nd,by omega,b,?_⟩;rw[uy i0,By,sx];omega
theorem yC (h:(ls.length:Int)≠4):caOk ls=false:=by unfold caOk;rw[decide_eq_false (by omega)];rfl
theorem JA (i0:0<=i)(l:i<=3)(h:Ll ls i=false):caOk ls=false:=by unfold caOk;rw[bI (n:=4) i0 (by omega) h];simp
theorem E8 (i0:0<=i)(h:8<(aO ls i 0).length)(l:i<=3):caOk ls=false:=JA i0 l (by unfold Ll;rw[decide_eq_false (by omega)];rfl)
theorem yD (i0:0<=i)(l:i<=3)(k0:0<=k)(k1:k<(aO ls i 0).length)(h:Jz ls i k=false):caOk ls=false:=JA i0 l (by unfold Ll;rw[bI k0 k1 h,Ww])
theorem JC (h:inR (af (aO ls i 0) k 0) 0 511=false):Jz ls i k=false:=by unfold Jz;rw[h];rfl
theorem JD (h:bJ .rem .i64 (af (aO ls i 0) k 0) (clsSz i)≠0):Jz ls i k=false:=by unfold Jz;rw[decide_eq_false h,Ww]
theorem E7 (i0:0<=i)(l:i<=3)(k0:0<=k)(k1:k<(aO ls i 0).length)(h:af (aO ls i 0) k 0∈sy ls i.toNat++sv ls i k.toNat):caOk ls=false:=by
 obtain⟨r,e⟩:=CV (ls:=ls) 4 (i+1).toNat (by omega);obtain⟨r2,e2⟩:=CU (ls:=ls) (i:=i) (aO ls i 0).length (k+1).toNat (by omega);rw[uy i0,e2,ux k0]at e;have:¬ (sy ls 4).Nodup:=dup (a:=sy ls i.toNat++sv ls i k.toNat) (b:=r2++r) (x:=af (aO ls i 0) k 0) (by rw[e];simp only[IS];rfl) h;unfold caOk;rw[decide_eq_false this];simp
theorem E9 (h:KY ls i)(h1:(ls.length:Int)=4)(i2:4<=i):caOk ls=true:=by
 have l:=h.l;have e:i=4:=by omega
 subst e;unfold caOk;rw[decide_eq_true (by omega),bA h.ok (by omega),decide_eq_true (p:=(sy ls 4).Nodup) h.nd];rfl
theorem Lm (h:KY ls i)(i1:i<=ls.length)(i2:(ls.length:Int)<=i):decide ((ls.length:Int)=4)=caOk ls:=by
 by_cases c:(ls.length:Int)=4
 ·rw[E9 h c (by omega)];exact decide_eq_true c
 ·rw[yC c];exact decide_eq_false c
end
structure N2 (ls:aa)(i:Int)(o:aa):Prop where
 p:KY ls i
 e:o=eV (sy ls i.toNat)
structure Jt (ls:aa)(i k:Int)(o:aa):Prop where
 p:Nu ls i k
 e:o=eV (sy ls i.toNat++sv ls i k.toNat)
structure BD (ls:aa)(i:Int)(es:aa):Prop where
 p:KY ls i
 s:lP es (sy ls i.toNat)
structure BE (ls:aa)(i k:Int)(es:aa):Prop where
 p:Nu ls i k
 s:lP es (sy ls i.toNat++sv ls i k.toNat)
section
variable {ls o es : aa} {i k : Int}
theorem T8 :N2 ls 0 []:=⟨N6,rfl⟩
theorem Uc (h:N2 ls i o)(i0:0<=i)(i1:i<4)(s:(aO ls i 0).length<=8):Jt ls i 0 o:=⟨N8 h.p i0 (bH.2 (by omega)) s,by rw[h.e];simp[sv]⟩
theorem QS (h:Jt ls i k o)(k0:0<=k)(h1:inR (af (aO ls i 0) k 0) 0 511=true)(h2:bJ .rem .i64 (af (aO ls i 0) k 0) (clsSz i)=0)(h3:hasB o (af (aO ls i 0) k 0)=false):Jt ls i (k+1) (o++[[.i (af (aO ls i 0) k 0)]]):=by
 have e:=h.e;rw[e]at h3;refine⟨JE h.p k0 h1 h2 (sG h3),?_⟩;rw[ux k0, <-IS,eF, <-e];rfl
theorem QR (h:Jt ls i k o)(i0:0<=i)(k1:k<=((aO ls i 0).length:Int))(k2:((aO ls i 0).length:Int)<=k):N2 ls (i+1) o:=
 ⟨JB h.p i0 k1 k2,by rw[uy i0,h.e,show k.toNat=(aO ls i 0).length from by omega]⟩
theorem Nb (h:Jt ls i k o)(i0:0<=i)(k0:0<=k)(k1:k<(aO ls i 0).length)(h3:hasB o (af (aO ls i 0) k 0)=true):caOk ls=false:=by
 rw[h.e,lh]at h3;exact E7 i0 h.p.l k0 k1 h3
theorem Nc (h:Jt ls i k o)(k0:0<=k):o.length<=40+k.toNat/\Rw [tI] o:=by
 have n:=h.p.n;have l:=h.p.l;have s:=h.p.s;have q:o.length<=40+k.toNat:=by rw[h.e,bU,By,sx];omega
 refine⟨q,?_⟩;rw[h.e];have nd:=h.p.nd;refine pI (fun x hx=>by have:=h.p.b x hx;omega) ?_;rw[<-bU, <-h.e];have bd:k.toNat<=512\/512<k.toNat:=by omega
 rcases bd with bd|bd
 ·omega
 ·exfalso;have c:=XT (l₁:=sy ls i.toNat++sv ls i k.toNat) (l₂:=(List.range 512).map fun j:Nat=>(j:Int)) nd (fun x hx=>by
   have b:=h.p.b x hx;rw[Wu];exact⟨x.toNat,WN.2 (by omega),by omega⟩)
  rw[By,sx,Yi,List.length_range]at c;omega
theorem OZ :BD ls 0 []:=⟨N6,Cu⟩
theorem O0 (h:BD ls i es)(i0:0<=i)(c:inR i 0 3=true)(s:(aO ls i 0).length<=8):BE ls i 0 es:=⟨N8 h.p i0 c s,by simpa[sv]using h.s⟩
theorem L0 (h:BE ls i k es)(k0:0<=k)(h1:inR (af (aO ls i 0) k 0) 0 511=true)(h2:bJ .rem .i64 (af (aO ls i 0) k 0) (clsSz i)=0)(h3:mgbI es (af (aO ls i 0) k 0)=false):BE ls i (k+1) (iV es (af (aO ls i 0) k 0) (.v (.bool true))):=by
 refine⟨JE h.p k0 h1 h2 (fun m=>by rw[(h.s.at_ _).2 m]at h3;cases h3),?_⟩;rw[ux k0, <-IS];exact sN h.s
theorem LZ (h:BE ls i k es)(i0:0<=i)(k1:k<=((aO ls i 0).length:Int))(k2:((aO ls i 0).length:Int)<=k):BD ls (i+1) es:=
 ⟨JB h.p i0 k1 k2,by have s:=h.s;rw[show k.toNat=(aO ls i 0).length from by omega]at s;rw[uy i0];exact s⟩
theorem Ih (h:BE ls i k es)(i0:0<=i)(k0:0<=k)(k1:k<(aO ls i 0).length)(h3:mgbI es (af (aO ls i 0) k 0)=true):caOk ls=false:=E7 i0 h.p.l k0 k1 ((h.s.at_ _).1 h3)
theorem Ie (h:BD ls i es)(i0:0<=i)(s:8<(aO ls i 0).length)(i1:i<ls.length):caOk ls=false:=by
 by_cases c:(ls.length:Int)=4
 ·exact E8 i0 s (by omega)
 ·exact yC c
theorem Ig (h:BD ls i es)(i0:0<=i)(c:inR i 0 3=false)(i1:i<ls.length):caOk ls=false:=by
 have:=nR.1 c;exact yC (by omega)
end
def Ew (cs:aa)(i:Int):Bool:=inR (af cs i 0) 0 15&& !(decide (0<i)&&decide (af cs i 0<=af cs (i-1) 0))
def plOk (k m:Int)(cs:aa):Bool:=b9 (Ew cs) cs.length&&(inR k 0 31&&(inR m 0 31&&decide (k≠m)))
def jbOk (k m:Int)(cs:aa)(ph nx:Int):Bool:=plOk k m cs&&(inR ph 0 5&&inR nx 0 cs.length)
section
variable {k m i : Int} {cs : aa}
theorem GM (i0:0<=i)(i1:i<cs.length)(h:inR (af cs i 0) 0 15=false):plOk k m cs=false:=by
 unfold plOk;rw[bI i0 i1 (by unfold Ew;rw[h];rfl)];rfl
theorem GN (i0:0<=i)(i1:i<cs.length)(h:0<i)(g:af cs i 0<=af cs (i-1) 0):plOk k m cs=false:=by
 unfold plOk;rw[bI i0 i1 (by unfold Ew;rw[decide_eq_true h,decide_eq_true g];simp)];rfl
theorem DJ (h:inR (af cs i 0) 0 15=true)(g:i<=0):Ew cs i=true:=by unfold Ew;rw[h,decide_eq_false (by omega)];rfl
theorem DK (h:inR (af cs i 0) 0 15=true)(g:af cs (i-1) 0<af cs i 0):Ew cs i=true:=by
 unfold Ew;rw[h,decide_eq_false (p:=af cs i 0<=_) (by omega)];simp
theorem zo (h:upto (Ew cs) i)(g:(cs.length:Int)<=i):plOk k m cs=(inR k 0 31&&(inR m 0 31&&decide (k≠m))):=by unfold plOk;rw[bA h g];rfl
end
end Go.V
namespace Go.V
theorem JL {sp lg:aa}{a:Int}(h:layOk sp lg=true):dzK sp lg a=dnK sp lg a:=by unfold dzK;rw[if_pos h]
theorem JM {sp lg:aa}{a:Int}(h:layOk sp lg=true):dzI sp lg a=dnI sp lg a:=by unfold dzI;rw[if_pos h]
theorem JN {sp lg:aa}{a:Int}(h:layOk sp lg=true):dzO sp lg a=dnO sp lg a:=by unfold dzO;rw[if_pos h]
theorem C3 {sp lg:aa}{a:Int}(h:dnK sp lg a=1):0<=dnI sp lg a/\dnI sp lg a<sp.length:=by
 unfold dnK at h;by_cases c:0<=mH sp a
 ·unfold dnI;rw[if_pos c];rcases nJ (p:=zw sp a) (n:=sp.length)with q|q
  ·have:mH sp a= -1:=q;omega
  ·exact q
 ·rw[if_neg c]at h;by_cases d:0<=wZ lg a
  ·rw[if_pos d]at h;omega
  ·rw[if_neg d]at h;omega
theorem JJ {sp lg:aa}{a:Int}(h:dnK sp lg a=3):0<=dnI sp lg a/\dnI sp lg a<lg.length:=by
 unfold dnK at h;by_cases c:0<=mH sp a
 ·rw[if_pos c]at h;split at h<;>omega
 ·rw[if_neg c]at h;by_cases d:0<=wZ lg a
  ·unfold dnI;rw[if_neg c,if_pos d];rcases nJ (p:=AL lg a) (n:=lg.length)with q|q
   ·have:wZ lg a= -1:=q;omega
   ·exact q
  ·rw[if_neg d]at h;omega
def B5 (os:aa)(x j:Int):Bool:=eqB (af os j 0) x
def oiI (os:aa)(x:Int):Int:=cB (B5 os x) os.length
def oiB (os:aa)(x:Int):Bool:=decide (0<=oiI os x)
def okO (sp lg:aa)(a s:Int):Bool:=decide (dnO sp lg a=0)&&((decide (dnK sp lg a=1)&&decide (af sp (dnI sp lg a) 1=clsOf s))||(decide (dnK sp lg a=3)&&decide (af lg (dnI sp lg a) 2=s)))
def xW (sp lg os cs:aa)(nx i:Int):Bool:=
 !(decide (0<i)&&decide (af os i 1<=af os (i-1) 1))&&(inR (af os i 0) 1 (bJ .sub .i64 nx 1)&&(inR (af os i 3) 0 (cs.length-1:Int)&&(!oiB (os.take i.toNat) (af os i 0)&&okO sp lg (af os i 1) (af os i 2))))
def objOk (sp lg os cs:aa)(nx:Int):Bool:=b9 (xW sp lg os cs nx) os.length
section
variable {sp lg os cs : aa} {nx i k : Int}
theorem jY (i0:0<=i)(i1:i<os.length)(h:xW sp lg os cs nx i=false):objOk sp lg os cs nx=false:=bI i0 i1 h
theorem GA (h:upto (xW sp lg os cs nx) i)(g:(os.length:Int)<=i):objOk sp lg os cs nx=true:=bA h g
theorem Kq (h:0<i)(g:af os i 1<=af os (i-1) 1):xW sp lg os cs nx i=false:=by unfold xW;rw[decide_eq_true h,decide_eq_true g];rfl
theorem Kr (h:inR (af os i 0) 1 (bJ .sub .i64 nx 1)=false):xW sp lg os cs nx i=false:=by unfold xW;rw[h];simp
theorem Ks (h:inR (af os i 3) 0 (cs.length-1:Int)=false):xW sp lg os cs nx i=false:=by unfold xW;rw[h];simp
theorem Kt (h:oiB (os.take i.toNat) (af os i 0)=true):xW sp lg os cs nx i=false:=by unfold xW;rw[h];simp
theorem Dy (h:okO sp lg (af os i 1) (af os i 2)=false):xW sp lg os cs nx i=false:=by unfold xW;rw[h];simp
theorem IC (h1:i<=0\/af os (i-1) 1<af os i 1)(h2:inR (af os i 0) 1 (bJ .sub .i64 nx 1)=true)(h3:inR (af os i 3) 0 (cs.length-1:Int)=true)(h4:oiB (os.take i.toNat) (af os i 0)=false)(h5:okO sp lg (af os i 1) (af os i 2)=true):xW sp lg os cs nx i=true:=by
 unfold xW;rw[h2,h3,h4,h5];rcases h1 with h|h
 ·rw[decide_eq_false (p:=0<i) (by omega)];rfl
 ·rw[decide_eq_false (p:=af os i 1<=af os (i-1) 1) (by omega)];simp
theorem Ku {a s:Int}(h:dnO sp lg a≠0):okO sp lg a s=false:=by unfold okO;rw[decide_eq_false h];rfl
theorem P3 {a s:Int}(h1:dnK sp lg a≠1\/af sp (dnI sp lg a) 1≠clsOf s)(h2:dnK sp lg a≠3\/af lg (dnI sp lg a) 2≠s):okO sp lg a s=false:=by
 unfold okO;rcases h1 with h|h<;>rcases h2 with g|g<;>simp[h,g]
theorem Kv {a s:Int}(h0:dnO sp lg a=0)(h1:dnK sp lg a=1)(h2:af sp (dnI sp lg a) 1=clsOf s):okO sp lg a s=true:=by unfold okO;rw[decide_eq_true h0,decide_eq_true h1,decide_eq_true h2];rfl
theorem Kw {a s:Int}(h0:dnO sp lg a=0)(h1:dnK sp lg a=3)(h2:af lg (dnI sp lg a) 2=s):okO sp lg a s=true:=by unfold okO;rw[decide_eq_true h0,decide_eq_true h1,decide_eq_true h2];simp
theorem MU (k0:0<=k)(k1:k<i)(i1:i<os.length)(h:af os k 0=af os i 0):oiB (os.take i.toNat) (af os i 0)=true:=by
 unfold oiB oiI;rw[decide_eq_true_eq,xH];refine⟨k.toNat,by rw[VK];omega,?_⟩;unfold B5;rw[VQ k0,sF (by omega)];exact uE h
theorem P2 {x:Int}(h:upto (fun j=> !eqB (af os j 0) x) k)(k1:i<=k)(i0:0<=i):oiB (os.take i.toNat) x=false:=by
 unfold oiB oiI;refine decide_eq_false (fun c=>?_);obtain⟨m,m1,m2⟩:=xH.1 c;rw[VK]at m1;have q:=h m (by omega) (by omega);unfold B5 at m2;rw[sF (by omega)]at m2;simp only at q;rw[m2]at q;cases q
end
end Go.V
namespace Go.V
def RG (es:aa):Prop:=∀ e∈es,∃ k b:Int,e=[.i k,.i b]
theorem qp {k b:Int}{es:aa}{n:Int}:dc ([.i k,.i b]::es) n=if k=n then some (0,.int .i64 b)else(dc es n).map fun p=>(p.1+1,p.2):=rfl
theorem kI {k b:Int}{es:aa}{n:Int}:ft ([.i k,.i b]::es) n=if k=n then b else ft es n:=by
 unfold ft;rw[qp];by_cases c:k=n
 ·rw[if_pos c,if_pos c]
 ·rw[if_neg c,if_neg c];cases dc es n with
  |none=>rfl
  |some p=>obtain⟨j,v⟩:=p;cases v<;>rfl
theorem Gw {k b x:Int}{es:aa}{n:Int}:iV ([.i k,.i b]::es) n (.i x)=if k=n then[.i n,.i x]::es else[.i k,.i b]::iV es n (.i x):=by
 unfold iV;rw[qp];by_cases c:k=n
 ·rw[if_pos c,if_pos c];rfl
 ·rw[if_neg c,if_neg c];cases dc es n with
  |none=>rfl
  |some p=>rfl
theorem PS {x n:Int}:∀ {es:aa},RG es->RG (iV es n (.i x))/\∀ m,ft (iV es n (.i x)) m=if m=n then x else ft es m
 | [],_=>by
   refine⟨fun e he=>?_,fun m=>?_⟩
   ·have:e=[.i n,.i x]:=by simpa[iV,dc]using he
    exact⟨n,x,this⟩
   ·show ft [[.i n,.i x]] m=_;rw[kI];by_cases c:m=n
    ·rw[if_pos c.symm,if_pos c]
    ·rw[if_neg (fun e=>c e.symm),if_neg c]
 | e::es,h=>by
   obtain⟨k,b,rfl⟩:=h e (by simp);have h':RG es:=fun e he=>h e (by simp[he])
   obtain⟨a1,a2⟩:=PS (x:=x) (n:=n) h';rw[Gw];by_cases c:k=n
   ·rw[if_pos c];refine⟨fun e he=>?_,fun m=>?_⟩
    ·rcases VN.1 he with rfl|he
     ·exact⟨n,x,rfl⟩
     ·exact h' e he
    ·rw[kI,kI];by_cases d:m=n
     ·rw[if_pos d.symm,if_pos d]
     ·rw[if_neg (fun e=>d e.symm),if_neg d,if_neg (fun e=>d (by rw[<-e,c]))]
   ·rw[if_neg c];refine⟨fun e he=>?_,fun m=>?_⟩
    ·rcases VN.1 he with rfl|he
     ·exact⟨k,b,rfl⟩
     ·exact a1 e he
    ·rw[kI,kI,a2 m];by_cases d:k=m
     ·rw[if_pos d,if_pos d,if_neg (fun e=>c (d.trans e))]
     ·rw[if_neg d,if_neg d]
def huI (es:aa)(a:Int):aa:=iV es a (.i (bJ .add .i64 (ft es a) 1))
structure yi (es:aa)(l:List Int):Prop where
 wf:RG es
 c:∀ m,ft es m=(l.count m:Int)
theorem R2 :yi [] []:=⟨(fun e he=>by cases he),fun m=>rfl⟩
theorem CY {es:aa}{l:List Int}{a:Int}(h:yi es l)(hl:l.length<=1099511627776):yi (huI es a) (l++[a]):=by
 have q:=PS (x:=bJ .add .i64 (ft es a) 1) (n:=a) h.wf;refine⟨q.1,fun m=>?_⟩;show ft (iV es a _) m=_;have b:l.count a<=l.length:=List.count_le_length;have e:=h.c a;rw[q.2 m,List.count_append,show bJ .add .i64 (ft es a) 1=ft es a+1 from bB (by omega)];by_cases c:m=a
 ·subst c;rw[if_pos rfl,e];simp
 ·rw[if_neg c,h.c m];have:[a].count m=0:=YN.2 (by simpa using c);rw[this];rfl
def gB (l:aa)(f:Nat):Nat->List Int
 |0=>[]
 |n+1=>gB l f n++[af l n f]
def wY (ls:aa):Nat->List Int
 |0=>[]
 |n+1=>wY ls n++gB (aO ls n 0) 0 (aO ls n 0).length
def oQ (cs:aa):Nat->List Int
 |0=>[]
 |n+1=>oQ cs n++wY (aO cs n 0) (aO cs n 0).length
theorem cM {l:aa}{f:Nat}:∀ n,(gB l f n).length=n
 |0=>rfl
 |n+1=>by rw[gB,By,cM n];rfl
theorem kG {l:aa}{f:Nat}{i:Int}(h:0<=i):gB l f (i+1).toNat=gB l f i.toNat++[af l i f]:=by
 rw[show(i+1).toNat=i.toNat+1 from by omega,gB,VQ h]
theorem Fc {l:aa}{i:Int}(h:0<=i):wY l (i+1).toNat=wY l i.toNat++gB (aO l i 0) 0 (aO l i 0).length:=by
 rw[show(i+1).toNat=i.toNat+1 from by omega,wY,VQ h]
theorem Fb {l:aa}{i:Int}(h:0<=i):oQ l (i+1).toNat=oQ l i.toNat++wY (aO l i 0) (aO l i 0).length:=by
 rw[show(i+1).toNat=i.toNat+1 from by omega,oQ,VQ h]
theorem lm {l:aa}{f:Nat}{x:Int}:∀ {n},x∈gB l f n↔∃ k:Nat,k<n/\x=af l k f
 |0=>⟨(fun h=>by cases h),fun⟨k,h,_⟩=>absurd h (XM _)⟩
 | n+1=>by
   rw[gB,BY,lm,WG]
   constructor
   ·rintro(⟨k,h,e⟩|e)
    ·exact⟨k,by omega,e⟩
    ·exact⟨n,by omega,e⟩
   ·rintro⟨k,h,e⟩;by_cases c:k=n
    ·subst c;exact .inr e
    ·exact .inl ⟨k,by omega,e⟩
theorem y9 {ls:aa}{x:Int}:∀ {n},x∈wY ls n↔∃ k:Nat,k<n/\x∈gB (aO ls k 0) 0 (aO ls k 0).length
 |0=>⟨(fun h=>by cases h),fun⟨k,h,_⟩=>absurd h (XM _)⟩
 | n+1=>by
   rw[wY,BY,y9]
   constructor
   ·rintro(⟨k,h,e⟩|e)
    ·exact⟨k,by omega,e⟩
    ·exact⟨n,by omega,e⟩
   ·rintro⟨k,h,e⟩;by_cases c:k=n
    ·subst c;exact .inr e
    ·exact .inl ⟨k,by omega,e⟩
theorem y8 {cs:aa}{x:Int}:∀ {n},x∈oQ cs n↔∃ k:Nat,k<n/\x∈wY (aO cs k 0) (aO cs k 0).length
 |0=>⟨(fun h=>by cases h),fun⟨k,h,_⟩=>absurd h (XM _)⟩
 | n+1=>by
   rw[oQ,BY,y8]
   constructor
   ·rintro(⟨k,h,e⟩|e)
    ·exact⟨k,by omega,e⟩
    ·exact⟨n,by omega,e⟩
   ·rintro⟨k,h,e⟩;by_cases c:k=n
    ·subst c;exact .inr e
    ·exact .inl ⟨k,by omega,e⟩
theorem yE {ls:aa}:∀ n,n<=ls.length->(wY ls n).length<=bD (ls.take n)
 |0,_=>No _
 | n+1,h=>by
   have q:=yE n (by omega:n<=ls.length);have c:=uR (es:=ls) (n:=n) (j:=0) (by omega);unfold ag at c;rw[wY,By,cM,jc (by omega)];omega
theorem gX {cs:aa}:∀ n,n<=cs.length->(oQ cs n).length<=bD (cs.take n)
 |0,_=>No _
 | n+1,h=>by
   have q:=gX n (by omega:n<=cs.length);have c:=uR (es:=cs) (n:=n) (j:=0) (by omega);have d:=yE (ls:=aO cs n 0) (aO cs n 0).length (VJ _);rw[Xa]at d;unfold ag at c;rw[oQ,By,jc (by omega)];omega
theorem HX {cs:aa}{i k:Int}(i0:0<=i)(i1:i<cs.length)(k1:k<=(aO cs i 0).length):(oQ cs i.toNat++wY (aO cs i 0) k.toNat).length+bD ((aO cs i 0).drop k.toNat)<=bD cs:=by
 have q:=gX (cs:=cs) i.toNat (by omega);have c:=Ap (es:=cs) (n:=i.toNat+1);have d:=jc (es:=cs) (n:=i.toNat) (by omega);have e:=uR (es:=cs) (n:=i.toNat) (j:=0) (by omega);rw[VQ i0]at e;have f:=yE (ls:=aO cs i 0) k.toNat (by omega);have g:bD (aO cs i 0)=bD ((aO cs i 0).take k.toNat)+bD ((aO cs i 0).drop k.toNat):=by rw[<-d5,V2]
 rw[By];unfold ag at e;omega
theorem CW {cs:aa}{i k j:Int}(i0:0<=i)(i1:i<cs.length)(k0:0<=k)(k1:k<(aO cs i 0).length)(j0:0<=j)(j1:j<=(aO (aO cs i 0) k 0).length):(oQ cs i.toNat++wY (aO cs i 0) k.toNat++gB (aO (aO cs i 0) k 0) 0 j.toNat).length<=bD cs:=by
 have q:=HX i0 i1 (by omega:k<=(aO cs i 0).length);have e:=uR (es:=aO cs i 0) (n:=k.toNat) (j:=0) (by omega);rw[VQ k0]at e;have d:cL ((aO cs i 0).getD k.toNat [])<=bD ((aO cs i 0).drop k.toNat):=by
  rw[XA (by omega)];rw[If,IN (by omega)];simp[bD]
 rw[By,cM];unfold ag at e;omega
def hlB (sp lg:aa)(a k:Int):Bool:=decide (dnK sp lg a=1)&&(decide (dnO sp lg a=0)&&(decide (k<0)||decide (af sp (dnI sp lg a) 1=k)))
def jA (sp lg l:aa)(k j:Int):Bool:=hlB sp lg (af l j 0) k
def kA (sp lg ls:aa)(k:Int):Bool:=b9 (jA sp lg (aO ls k 0) k) (aO ls k 0).length
def iA (sp lg cs:aa)(i:Int):Bool:=b9 (kA sp lg (aO cs i 0)) (aO cs i 0).length
def qA (sp lg qs:aa)(i:Int):Bool:=hlB sp lg (af qs i 0) (af qs i 1)
def sA (qs:aa)(c i:Int):Bool:=decide (af qs i 2<=c)
def DT (sp lg qs:aa)(c i:Int):Bool:=qA sp lg qs i&&sA qs c i
def Ic (os cs qs fl:aa):List Int:=oQ cs cs.length++gB qs 0 qs.length++gB fl 0 fl.length++gB os 1 os.length
def BU (os cs qs fl:aa):List Int:=gB os 1 os.length++oQ cs cs.length++gB qs 0 qs.length++gB fl 0 fl.length
def Jy (l:List Int)(lv:aa)(i:Int):Bool:=decide (l.count (af lv i 0)=1)
def hoI (sp lg os cs b x qs:aa)(c:Int):Bool:=b9 (iA sp lg cs) cs.length&&(b9 (DT sp lg qs c) qs.length&&(b9 (jA sp lg (ifL b x) (-1)) (ifL b x).length&&b9 (Jy (Ic os cs qs (ifL b x)) (laL sp lg)) (laL sp lg).length))
def hoS (sp lg os cs b x qs:aa):Bool:=b9 (iA sp lg cs) cs.length&&(b9 (qA sp lg qs) qs.length&&(b9 (jA sp lg (ifL b x) (-1)) (ifL b x).length&&(decide ((BU os cs qs (ifL b x)).Nodup)&&decide ((BU os cs qs (ifL b x)).length=(laL sp lg).length))))
section
variable {sp lg os cs b x qs fl es : aa} {i k j c : Int}
theorem OV (k0:0<=k)(k1:k<(aO cs i 0).length)(j0:0<=j)(j1:j<(aO (aO cs i 0) k 0).length)(h:hlB sp lg (af (aO (aO cs i 0) k 0) j 0) k=false):iA sp lg cs i=false:=
 bI k0 k1 (bI (p:=jA sp lg (aO (aO cs i 0) k 0) k) j0 j1 h)
theorem LJ (i0:0<=i)(i1:i<cs.length)(h:iA sp lg cs i=false):hoI sp lg os cs b x qs c=false:=by unfold hoI;rw[bI i0 i1 h];rfl
theorem FB (i0:0<=i)(i1:i<qs.length)(h:DT sp lg qs c i=false):hoI sp lg os cs b x qs c=false:=by unfold hoI;rw[bI i0 i1 h];simp
theorem LK (i0:0<=i)(i1:i<(ifL b x).length)(h:hlB sp lg (af (ifL b x) i 0) (-1)=false):hoI sp lg os cs b x qs c=false:=by unfold hoI;rw[bI (p:=jA sp lg (ifL b x) (-1)) i0 i1 h];simp
theorem LL (i0:0<=i)(i1:i<(laL sp lg).length)(h:Jy (Ic os cs qs (ifL b x)) (laL sp lg) i=false):hoI sp lg os cs b x qs c=false:=by unfold hoI;rw[bI i0 i1 h];simp
theorem LM (i0:0<=i)(i1:i<cs.length)(h:iA sp lg cs i=false):hoS sp lg os cs b x qs=false:=by unfold hoS;rw[bI i0 i1 h];rfl
theorem LN (i0:0<=i)(i1:i<qs.length)(h:qA sp lg qs i=false):hoS sp lg os cs b x qs=false:=by unfold hoS;rw[bI i0 i1 h];simp
theorem LO (i0:0<=i)(i1:i<(ifL b x).length)(h:hlB sp lg (af (ifL b x) i 0) (-1)=false):hoS sp lg os cs b x qs=false:=by unfold hoS;rw[bI (p:=jA sp lg (ifL b x) (-1)) i0 i1 h];simp
theorem Qz (h:hlB sp lg (af qs i 0) (af qs i 1)=false):DT sp lg qs c i=false:=by unfold DT qA;rw[h];rfl
theorem QA (h:c<af qs i 2):DT sp lg qs c i=false:=by unfold DT sA;rw[decide_eq_false (by omega),Ww]
theorem TO (h:hlB sp lg (af qs i 0) (af qs i 1)=true)(g:af qs i 2<=c):DT sp lg qs c i=true:=by unfold DT qA sA;rw[h,decide_eq_true g];rfl
structure Nw (sp lg cs:aa)(i:Int)(es:aa):Prop where
 ok:upto (iA sp lg cs) i
 c:yi es (oQ cs i.toNat)
structure Ny (sp lg cs:aa)(i k:Int)(es:aa):Prop where
 ok:upto (iA sp lg cs) i
 ok2:upto (kA sp lg (aO cs i 0)) k
 c:yi es (oQ cs i.toNat++wY (aO cs i 0) k.toNat)
structure Nx (sp lg cs:aa)(i k j:Int)(es:aa):Prop where
 ok:upto (iA sp lg cs) i
 ok2:upto (kA sp lg (aO cs i 0)) k
 ok3:upto (jA sp lg (aO (aO cs i 0) k 0) k) j
 c:yi es (oQ cs i.toNat++wY (aO cs i 0) k.toNat++gB (aO (aO cs i 0) k 0) 0 j.toNat)
structure Nz (sp lg cs qs:aa)(t j:Int)(es:aa):Prop where
 ok:b9 (iA sp lg cs) cs.length=true
 ok2:upto (DT sp lg qs t) j
 c:yi es (oQ cs cs.length++gB qs 0 j.toNat)
structure Nv (sp lg cs qs fl:aa)(t j:Int)(es:aa):Prop where
 ok:b9 (iA sp lg cs) cs.length=true
 ok2:b9 (DT sp lg qs t) qs.length=true
 ok3:upto (jA sp lg fl (-1)) j
 c:yi es (oQ cs cs.length++gB qs 0 qs.length++gB fl 0 j.toNat)
structure KZ (sp lg os cs qs fl:aa)(t j:Int)(es:aa):Prop where
 ok:b9 (iA sp lg cs) cs.length=true
 ok2:b9 (DT sp lg qs t) qs.length=true
 ok3:b9 (jA sp lg fl (-1)) fl.length=true
 c:yi es (oQ cs cs.length++gB qs 0 qs.length++gB fl 0 fl.length++gB os 1 j.toNat)
theorem Sg :Nw sp lg cs 0 []:=⟨bu,R2⟩
theorem Sj (h:Nw sp lg cs i es):Ny sp lg cs i 0 es:=⟨h.ok,bu,by simpa[wY]using h.c⟩
theorem Si (h:Ny sp lg cs i k es):Nx sp lg cs i k 0 es:=⟨h.ok,h.ok2,bu,by simpa[gB]using h.c⟩
theorem Oz (h:Nx sp lg cs i k j es)(i0:0<=i)(i1:i<cs.length)(k0:0<=k)(k1:k<(aO cs i 0).length)(j0:0<=j)(j1:j<(aO (aO cs i 0) k 0).length)(hc:ag cs<=1073741824)(hh:hlB sp lg (af (aO (aO cs i 0) k 0) j 0) k=true):
 Nx sp lg cs i k (j+1) (huI es (af (aO (aO cs i 0) k 0) j 0)):=by
 have l:=CW (cs:=cs) i0 i1 k0 k1 j0 (by omega);unfold ag at hc;exact⟨h.ok,h.ok2,aY h.ok3 hh,by rw[kG j0, <-IS];exact CY h.c (by omega)⟩
theorem OA (h:Nx sp lg cs i k j es)(k0:0<=k)(j1:j<=((aO (aO cs i 0) k 0).length:Int))(j2:((aO (aO cs i 0) k 0).length:Int)<=j):Ny sp lg cs i (k+1) es:=by
 refine⟨h.ok,aY h.ok2 (bA h.ok3 j2),?_⟩;have c:=h.c;rw[show j.toNat=(aO (aO cs i 0) k 0).length from by omega,IS, <-Fc k0]at c;exact c
theorem Oy (h:Ny sp lg cs i k es)(i0:0<=i)(k1:k<=((aO cs i 0).length:Int))(k2:((aO cs i 0).length:Int)<=k):Nw sp lg cs (i+1) es:=by
 refine⟨aY h.ok (bA h.ok2 k2),?_⟩;have c:=h.c;rw[show k.toNat=(aO cs i 0).length from by omega, <-Fb i0]at c;exact c
theorem SC (h:Nw sp lg cs i es)(i1:i<=cs.length)(i2:(cs.length:Int)<=i):Nz sp lg cs qs c 0 es:=
 ⟨bA h.ok i2,bu,by have c:=h.c;rw[show i.toNat=cs.length from by omega]at c;simpa[gB]using c⟩
theorem OS (h:Nz sp lg cs qs c j es)(j0:0<=j)(j1:j<qs.length)(hc:ag cs<=1073741824)(hq:qs.length<=1073741824)(hh:DT sp lg qs c j=true):Nz sp lg cs qs c (j+1) (huI es (af qs j 0)):=by
 have l:=gX (cs:=cs) cs.length (VJ _);rw[Xa]at l;unfold ag at hc;refine⟨h.ok,aY h.ok2 hh,?_⟩;rw[kG j0, <-IS];refine CY h.c ?_;rw[By,cM];omega
theorem Sf (h:Nz sp lg cs qs c i es)(i1:i<=qs.length)(i2:(qs.length:Int)<=i):Nv sp lg cs qs fl c 0 es:=
 ⟨h.ok,bA h.ok2 i2,bu,by have c:=h.c;rw[show i.toNat=qs.length from by omega]at c;simpa[gB]using c⟩
theorem Ox (h:Nv sp lg cs qs fl c j es)(j0:0<=j)(j1:j<fl.length)(hc:ag cs<=1073741824)(hq:qs.length<=1073741824)(hf:fl.length<=30)(hh:hlB sp lg (af fl j 0) (-1)=true):Nv sp lg cs qs fl c (j+1) (huI es (af fl j 0)):=by
 have l:=gX (cs:=cs) cs.length (VJ _);rw[Xa]at l;unfold ag at hc;refine⟨h.ok,h.ok2,aY h.ok3 hh,?_⟩;rw[kG j0, <-IS];refine CY h.c ?_;rw[By,By,cM,cM];omega
theorem Sn (h:Nv sp lg cs qs fl c i es)(i1:i<=fl.length)(i2:(fl.length:Int)<=i):KZ sp lg os cs qs fl c 0 es:=
 ⟨h.ok,h.ok2,bA h.ok3 i2,by have c:=h.c;rw[show i.toNat=fl.length from by omega]at c;simpa[gB]using c⟩
theorem OD (h:KZ sp lg os cs qs fl c j es)(j0:0<=j)(j1:j<os.length)(hc:ag cs<=1073741824)(hq:qs.length<=1073741824)(ho:os.length<=1073741824)(hf:fl.length<=30):KZ sp lg os cs qs fl c (j+1) (huI es (af os j 1)):=by
 have l:=gX (cs:=cs) cs.length (VJ _);rw[Xa]at l;unfold ag at hc;refine⟨h.ok,h.ok2,h.ok3,?_⟩;rw[kG j0, <-IS];refine CY h.c ?_;rw[By,By,By,cM,cM,cM];omega
structure Jo (sp lg os cs qs fl:aa)(t i:Int)(es:aa):Prop where
 p:KZ sp lg os cs qs fl t os.length es
 ok:upto (Jy (Ic os cs qs fl) (laL sp lg)) i
theorem Sk (h:KZ sp lg os cs qs fl c i es)(i1:i<=os.length)(i2:(os.length:Int)<=i):Jo sp lg os cs qs fl c 0 es:=⟨by rw[show(os.length:Int)=i from by omega];exact h,bu⟩
theorem OB (h:Jo sp lg os cs qs fl c i es)(m:Int):ft es m=((Ic os cs qs fl).count m:Int):=by
 have q:=h.p.c.c m;rw[V4]at q;exact q
theorem OC (h:Jo sp lg os cs qs fl c i es)(e:ft es (af (laL sp lg) i 0)=1):Jo sp lg os cs qs fl c (i+1) es:=
 ⟨h.p,aY h.ok (by unfold Jy;rw[OB h]at e;exact decide_eq_true (by omega))⟩
theorem Sl (h:Jo sp lg os cs qs (ifL b x) c i es)(i0:0<=i)(i1:i<(laL sp lg).length)(e:ft es (af (laL sp lg) i 0)≠1):hoI sp lg os cs b x qs c=false:=
 LL i0 i1 (by unfold Jy;rw[OB h]at e;exact decide_eq_false (by omega))
theorem LI (h:Jo sp lg os cs qs (ifL b x) c i es)(i2:((laL sp lg).length:Int)<=i):hoI sp lg os cs b x qs c=true:=by
 unfold hoI;rw[h.p.ok,h.p.ok2,h.p.ok3,bA h.ok i2];rfl
end
end Go.V
namespace Go.V
structure K9 (os:aa)(i:Int)(o:aa):Prop where
 e:o=eV (gB os 1 i.toNat)
structure NH (sp lg os cs:aa)(i:Int)(o:aa):Prop where
 ok:upto (iA sp lg cs) i
 e:o=eV (gB os 1 os.length++oQ cs i.toNat)
structure NI (sp lg os cs:aa)(i k:Int)(o:aa):Prop where
 ok:upto (iA sp lg cs) i
 ok2:upto (kA sp lg (aO cs i 0)) k
 e:o=eV (gB os 1 os.length++(oQ cs i.toNat++wY (aO cs i 0) k.toNat))
structure La (sp lg os cs:aa)(i k j:Int)(o:aa):Prop where
 ok:upto (iA sp lg cs) i
 ok2:upto (kA sp lg (aO cs i 0)) k
 ok3:upto (jA sp lg (aO (aO cs i 0) k 0) k) j
 e:o=eV (gB os 1 os.length++(oQ cs i.toNat++wY (aO cs i 0) k.toNat++gB (aO (aO cs i 0) k 0) 0 j.toNat))
structure Lb (sp lg os cs qs:aa)(j:Int)(o:aa):Prop where
 ok:b9 (iA sp lg cs) cs.length=true
 ok2:upto (qA sp lg qs) j
 e:o=eV (gB os 1 os.length++oQ cs cs.length++gB qs 0 j.toNat)
structure Lc (sp lg os cs qs fl:aa)(j:Int)(o:aa):Prop where
 ok:b9 (iA sp lg cs) cs.length=true
 ok2:b9 (qA sp lg qs) qs.length=true
 ok3:upto (jA sp lg fl (-1)) j
 e:o=eV (gB os 1 os.length++oQ cs cs.length++gB qs 0 qs.length++gB fl 0 j.toNat)
structure HH (sp lg os cs qs fl:aa)(j:Int)(o:aa):Prop where
 ok:b9 (iA sp lg cs) cs.length=true
 ok2:b9 (qA sp lg qs) qs.length=true
 ok3:b9 (jA sp lg fl (-1)) fl.length=true
 e:o=eV (BU os cs qs fl)
 nd:((BU os cs qs fl).take j.toNat).Nodup
section
variable {sp lg os cs b x qs fl o : aa} {i k j : Int}
theorem TS :K9 os 0 []:=⟨rfl⟩
theorem TT (h:K9 os i o):o.length=i.toNat:=by rw[h.e,bU,cM]
theorem QG (h:K9 os i o)(i0:0<=i):K9 os (i+1) (o++[[.i (af os i 1)]]):=⟨by rw[kG i0,eF, <-h.e];rfl⟩
theorem TU (h:K9 os i o)(i1:i<=os.length)(i2:(os.length:Int)<=i):NH sp lg os cs 0 o:=⟨bu,by rw[h.e,show i.toNat=os.length from by omega];simp[oQ]⟩
theorem TV (h:NH sp lg os cs i o):NI sp lg os cs i 0 o:=⟨h.ok,bu,by rw[h.e];simp[wY]⟩
theorem TW (h:NI sp lg os cs i k o):La sp lg os cs i k 0 o:=⟨h.ok,h.ok2,bu,by rw[h.e];simp[gB]⟩
theorem TX (h:La sp lg os cs i k j o)(i0:0<=i)(i1:i<cs.length)(k0:0<=k)(k1:k<(aO cs i 0).length)(j0:0<=j)(j1:j<=(aO (aO cs i 0) k 0).length)(hc:ag cs<=1073741824)(ho:os.length<=1073741824):o.length<=2147483648:=by
 have l:=CW (cs:=cs) i0 i1 k0 k1 j0 j1;unfold ag at hc;rw[h.e,bU,By,cM];omega
theorem QJ (h:La sp lg os cs i k j o)(j0:0<=j)(hh:hlB sp lg (af (aO (aO cs i 0) k 0) j 0) k=true):La sp lg os cs i k (j+1) (o++[[.i (af (aO (aO cs i 0) k 0) j 0)]]):=
 ⟨h.ok,h.ok2,aY h.ok3 hh,by rw[kG j0, <-IS (oQ cs i.toNat++wY (aO cs i 0) k.toNat), <-IS (gB os 1 os.length),eF, <-h.e];rfl⟩
theorem QI (h:La sp lg os cs i k j o)(k0:0<=k)(j1:j<=((aO (aO cs i 0) k 0).length:Int))(j2:((aO (aO cs i 0) k 0).length:Int)<=j):NI sp lg os cs i (k+1) o:=by
 refine⟨h.ok,aY h.ok2 (bA h.ok3 j2),?_⟩;rw[h.e,show j.toNat=(aO (aO cs i 0) k 0).length from by omega,IS (oQ cs i.toNat), <-Fc k0]
theorem QH (h:NI sp lg os cs i k o)(i0:0<=i)(k1:k<=((aO cs i 0).length:Int))(k2:((aO cs i 0).length:Int)<=k):NH sp lg os cs (i+1) o:=by
 refine⟨aY h.ok (bA h.ok2 k2),?_⟩;rw[h.e,show k.toNat=(aO cs i 0).length from by omega, <-Fb i0]
theorem TY (h:NH sp lg os cs i o)(i1:i<=cs.length)(i2:(cs.length:Int)<=i):Lb sp lg os cs qs 0 o:=⟨bA h.ok i2,bu,by rw[h.e,show i.toNat=cs.length from by omega];simp[gB]⟩
theorem TZ (h:Lb sp lg os cs qs j o)(j1:j<=qs.length)(hc:ag cs<=1073741824)(ho:os.length<=1073741824)(hq:qs.length<=1073741824):o.length<=4294967296:=by
 have l:=gX (cs:=cs) cs.length (VJ _);rw[Xa]at l;unfold ag at hc;rw[h.e,bU,By,By,cM,cM];omega
theorem QK (h:Lb sp lg os cs qs j o)(j0:0<=j)(hh:hlB sp lg (af qs j 0) (af qs j 1)=true):Lb sp lg os cs qs (j+1) (o++[[.i (af qs j 0)]]):=
 ⟨h.ok,aY h.ok2 hh,by rw[kG j0, <-IS,eF, <-h.e];rfl⟩
theorem T0 (h:Lb sp lg os cs qs i o)(i1:i<=qs.length)(i2:(qs.length:Int)<=i):Lc sp lg os cs qs fl 0 o:=⟨h.ok,bA h.ok2 i2,bu,by rw[h.e,show i.toNat=qs.length from by omega];simp[gB]⟩
theorem T3 (h:Lc sp lg os cs qs fl j o)(j1:j<=fl.length)(hc:ag cs<=1073741824)(ho:os.length<=1073741824)(hq:qs.length<=1073741824)(hf:fl.length<=30):o.length<=4294967400:=by
 have l:=gX (cs:=cs) cs.length (VJ _);rw[Xa]at l;unfold ag at hc;rw[h.e,bU,By,By,By,cM,cM,cM];omega
theorem QL (h:Lc sp lg os cs qs fl j o)(j0:0<=j)(hh:hlB sp lg (af fl j 0) (-1)=true):Lc sp lg os cs qs fl (j+1) (o++[[.i (af fl j 0)]]):=
 ⟨h.ok,h.ok2,aY h.ok3 hh,by rw[kG j0, <-IS,eF, <-h.e];rfl⟩
theorem T4 (h:Lc sp lg os cs qs fl i o)(i1:i<=fl.length)(i2:(fl.length:Int)<=i):HH sp lg os cs qs fl 0 o:=
 ⟨h.ok,h.ok2,bA h.ok3 i2,by rw[h.e,show i.toNat=fl.length from by omega];rfl,Wd⟩
theorem QM (h:HH sp lg os cs qs fl j o)(hc:ag cs<=1073741824)(ho:os.length<=1073741824)(hq:qs.length<=1073741824)(hf:fl.length<=30):o.length<=4294967400:=by
 have l:=gX (cs:=cs) cs.length (VJ _);rw[Xa]at l;unfold ag at hc;rw[h.e,bU];unfold BU;rw[By,By,By,cM,cM,cM];omega
theorem A2 {l:List Int}{n:Nat}:(eV l).take n=eV (l.take n):=by unfold eV;rw[List.map_take]
theorem zu {l:List Int}{i:Int}(h0:0<=i)(h:i<(eV l).length):∃ x,l[i.toNat]?=some x/\af (eV l) i 0=x:=by
 rw[bU]at h;have q:=pH (l:=l) (k:=i.toNat) (by omega);rw[VQ h0]at q;exact⟨_,IN (by omega),q⟩
theorem QO (h:HH sp lg os cs qs fl j o)(j0:0<=j)(j1:j<o.length)(hh:hasB (o.take j.toNat) (af o j 0)=false):HH sp lg os cs qs fl (j+1) o:=by
 refine⟨h.ok,h.ok2,h.ok3,h.e,?_⟩;have e:=h.e;rw[e]at j1 hh;obtain⟨v,q1,q2⟩:=zu j0 j1;rw[A2,q2]at hh;have nm:=sG hh;rw[show(j+1).toNat=j.toNat+1 from by omega,List.take_succ,q1];exact gZ h.nd nm
theorem T5 (h:HH sp lg os cs qs (ifL b x) j o)(j0:0<=j)(j1:j<o.length)(hh:hasB (o.take j.toNat) (af o j 0)=true):hoS sp lg os cs b x qs=false:=by
 have e:=h.e;rw[e]at j1 hh;obtain⟨v,q1,q2⟩:=zu j0 j1;rw[A2,q2,lh]at hh;have:¬ (BU os cs qs (ifL b x)).Nodup:=fun nd=>by
  have lt:j.toNat<(BU os cs qs (ifL b x)).length:=by rw[bU]at j1;omega
  have sp:=V2 j.toNat (BU os cs qs (ifL b x));rw[XA lt]at sp;have gv:(BU os cs qs (ifL b x))[j.toNat]=v:=by rw[IN lt]at q1;exact WT q1
  rw[gv]at sp;exact dup sp.symm hh nd
 unfold hoS;rw[decide_eq_false this];simp
theorem Na (h:HH sp lg os cs qs (ifL b x) j o)(j2:(o.length:Int)<=j):decide ((o.length:Int)=(laL sp lg).length)=hoS sp lg os cs b x qs:=by
 have e:=h.e;have nd:=h.nd;have l:(BU os cs qs (ifL b x)).length=o.length:=by rw[e,bU]
 rw[List.take_of_length_le (by omega)]at nd;unfold hoS;rw[h.ok,h.ok2,h.ok3,decide_eq_true nd,l];simp only[Yl];exact eA (by rw[decide_eq_true_eq,decide_eq_true_eq];omega)
def NL (l:List Int):Prop:=∀ v∈l,-9223372036854775808<=v/\v<=9223372036854775807
theorem yT {l m:List Int}(h:NL l)(g:NL m):NL (l++m):=fun v hv=>by
 rcases BY.1 hv with q|q
 ·exact h v q
 ·exact g v q
theorem yU {fs:List Ty}{l:aa}{f:Nat}(h:Rw fs l)(hf:fs[f]?=some tI):NL (gB l f l.length):=fun v hv=>by
 obtain⟨n,n1,rfl⟩:=lm.1 hv;exact xN h hf (by omega)
theorem L5 {ls:aa}(h:Rw [.sl [tI]] ls):NL (wY ls ls.length):=fun v hv=>by
 obtain⟨n,n1,q⟩:=y9.1 hv;exact yU (fs:=[tI]) (Rw.sub (fs:=[.sl [tI]]) h (by omega) rfl) rfl v q
theorem L4 {cs:aa}(h:Rw [.sl [.sl [tI]]] cs):NL (oQ cs cs.length):=fun v hv=>by
 obtain⟨n,n1,q⟩:=y8.1 hv;exact L5 (Rw.sub (fs:=[.sl [.sl [tI]]]) h (by omega) rfl) v q
theorem QN (N:zZ sp lg os cs b x qs)(h:HH sp lg os cs qs (ifL b x) j o)(n:Nat):Rw [tI] (o.take n):=by
 have l:=QM h N.cl N.ol N.ql BZ;refine Rw.take ?_ n;rw[h.e]at l ⊢;rw[bU]at l;refine pI ?_ (by omega);unfold BU;exact yT (yT (yT (yU N.ow rfl) (L4 N.cw)) (yU N.qw rfl)) (yU (FL N.m) rfl)
theorem FA {a k:Int}(hl:layOk sp lg=true)(h:hlB sp lg a k=true):sd sp lg a=true:=by
 unfold hlB at h;simp only[AI,decide_eq_true_eq]at h;exact(Do hl).2 ⟨h.2.1,.inl h.1⟩
theorem P4 {a s:Int}(hl:layOk sp lg=true)(h:okO sp lg a s=true):sd sp lg a=true:=by
 unfold okO at h;simp only[AI,Wo,decide_eq_true_eq]at h;exact(Do hl).2 ⟨h.1,h.2.elim (fun q=>.inl q.1) (fun q=>.inr q.1)⟩
def MD (sp lg:aa):List Int:=Kf sp lg 512
theorem Pf (hl:layOk sp lg=true):laL sp lg=eV (MD sp lg):=by unfold laL MD;rw[if_pos hl,u9]
theorem Iu (hl:layOk sp lg=true){a:Int}:a∈MD sp lg↔sd sp lg a=true:=by
 unfold MD;rw[nY]
 constructor
 ·exact fun h=>h.2.2
 ·intro h;have F:=NM hl;have v:=Kg F hl h;have r:a∈LS sp lg:=Ds.2 v;refine⟨?_,?_,h⟩
  ·rcases v with⟨i,k,i1,k1,_,e⟩|⟨j,j1,e⟩
   ·have ae:=ke (s:=(k:Int)) (F.s i i1) (by omega) (by omega);have t:=jH (F.s i i1);omega
   ·have t:=ig (F.l j j1);omega
  ·rcases v with⟨i,k,i1,k1,_,e⟩|⟨j,j1,e⟩
   ·have ae:=ke (s:=(k:Int)) (F.s i i1) (by omega) (by omega);have t:=jH (F.s i i1);omega
   ·have t:=ig (F.l j j1);have b:=gQ t.1;omega
theorem MO :(MD sp lg).Nodup:=(Cq 512).imp (fun h=>by omega)
theorem DG :(Ic os cs qs fl).Perm (BU os cs qs fl):=by
 unfold Ic BU;have q:=List.perm_append_comm (l₁:=oQ cs cs.length++gB qs 0 qs.length++gB fl 0 fl.length) (l₂:=gB os 1 os.length);refine q.trans ?_;rw[IS,IS,IS]
theorem Gz {l m:List Int}(hm:m.Nodup)(hs:∀ v∈l,v∈m):(∀ v∈m,l.count v=1)↔l.Nodup/\l.length=m.length:=by
 constructor
 ·intro h;have nd:l.Nodup:=YD.2 (fun v=>by
   by_cases c:v∈l
   ·rw[h v (hs v c)];exact VJ _
   ·rw[YN.2 c];omega)
  refine⟨nd,?_⟩;have p:l.Perm m:=by
   rw[List.perm_ext_iff_of_nodup nd hm];intro v;refine⟨hs v,fun hv=>?_⟩;have:=h v hv;exact YO.1 (by omega)
  exact p.length_eq
 ·rintro⟨nd,len⟩ v hv;have hv':v∈l:=by
   by_cases c:v∈l
   ·exact c
   ·exfalso;have q:=XT (l₁:=v::l) (l₂:=m) (List.nodup_cons.2 ⟨c,nd⟩) (fun y hy=>by
     rcases VN.1 hy with rfl|hy
     ·exact hv
     ·exact hs y hy)
    rw[V9]at q;omega
  have p1:=YD.1 nd v;have p2:=YO.2 hv';omega
theorem d8 {p:Int->Bool}{n:Nat}(h:b9 p n=true):∀ k:Nat,k<n->p k=true:=fun k hk=>cS.1 h k (by omega) (by omega)
theorem IJ {c:Int}:b9 (DT sp lg qs c) qs.length=(b9 (qA sp lg qs) qs.length&&b9 (sA qs c) qs.length):=by
 refine eA ?_;rw[AI,cS,cS,cS];unfold upto DT
 constructor
 ·intro h;refine⟨fun j h0 h1=>?_,fun j h0 h1=>?_⟩
  ·have:=h j h0 h1;rw[AI]at this;exact this.1
  ·have:=h j h0 h1;rw[AI]at this;exact this.2
 ·rintro⟨h,g⟩ j h0 h1;rw[h j h0 h1,g j h0 h1];rfl
theorem FC {nx c:Int}(hl:layOk sp lg=true)(ho:objOk sp lg os cs nx=true):hoI sp lg os cs b x qs c=(hoS sp lg os cs b x qs&&b9 (sA qs c) qs.length):=by
 unfold hoI hoS;rw[IJ];by_cases h1:b9 (iA sp lg cs) cs.length=true
 case neg=>rw[Xb]at h1;rw[h1];rfl
 by_cases h2:b9 (qA sp lg qs) qs.length=true
 case neg=>rw[Xb]at h2;rw[h2];simp
 by_cases h3:b9 (jA sp lg (ifL b x) (-1)) (ifL b x).length=true
 case neg=>rw[Xb]at h3;rw[h3];simp
 have sub:∀ v∈Ic os cs qs (ifL b x),v∈MD sp lg:=by
  intro v hv;rw[Iu hl];unfold Ic at hv;rw[BY,BY,BY]at hv;rcases hv with((hv|hv)|hv)|hv
  ·obtain⟨i,i1,hv⟩:=y8.1 hv;obtain⟨k,k1,hv⟩:=y9.1 hv;obtain⟨j,j1,rfl⟩:=lm.1 hv;have q1:=d8 h1 i i1;have q2:=d8 q1 k k1;have q3:=d8 q2 j j1;exact FA hl q3
  ·obtain⟨j,j1,rfl⟩:=lm.1 hv;exact FA hl (d8 h2 j j1)
  ·obtain⟨j,j1,rfl⟩:=lm.1 hv;exact FA hl (d8 h3 j j1)
  ·obtain⟨j,j1,rfl⟩:=lm.1 hv;have q:=d8 ho j j1;unfold xW at q;simp only[AI]at q;exact P4 hl q.2.2.2.2
 have key:=Gz MO sub;have e1:b9 (Jy (Ic os cs qs (ifL b x)) (laL sp lg)) (laL sp lg).length=(decide (BU os cs qs (ifL b x)).Nodup&&decide ((BU os cs qs (ifL b x)).length=(laL sp lg).length)):=by
  refine eA ?_;rw[AI,decide_eq_true_eq,decide_eq_true_eq, <-DG.nodup_iff, <-DG.length_eq,Pf hl,bU, <-key]
  constructor
  ·intro h v hv;obtain⟨n,n1,rfl⟩:=XN.1 hv;have q:=d8 h n n1;unfold Jy at q;rw[pH n1,decide_eq_true_eq]at q;exact q
  ·intro h;rw[cS];intro j h0 h1;have n1:j.toNat<(MD sp lg).length:=by omega
   have q:=pH n1;rw[VQ h0]at q;unfold Jy;rw[q,decide_eq_true_eq];exact h _ (YY n1)
 rw[h1,h2,h3,e1];simp only[Yl];exact Bool.and_comm _ _
end
end Go.V
namespace Go.V
theorem Df {n:Int}:∀ {es:aa},NJ es->∀ m,m∈jm (iV es n (.v (.bool true)))↔m∈jm es\/m=n
 | [],_,m=>by
   show m∈jm [[.i n,.v (.bool true)]]↔_;simp[jm,RO]
 | e::es,h,m=>by
   obtain⟨k,b,rfl⟩:=h e (by simp);have h':NJ es:=fun e he=>h e (by simp[he])
   have ih:=Df (n:=n) h' m;rw[Du];by_cases c:k=n
   ·rw[if_pos c];subst c;show m∈k::jm es↔m∈k::jm es\/m=k;simp only[VN]
    constructor
    ·exact fun h=>.inl h
    ·rintro(h|h)
     ·exact h
     ·exact .inl h
   ·rw[if_neg c];show m∈k::jm (iV es n (.v (.bool true)))↔m∈k::jm es\/m=n;simp only[VN,ih,or_assoc]
structure sQ (es:aa)(l:List Int):Prop where
 s:lP es l
 k:∀ m,m∈jm es↔m∈l
theorem P6 :sQ [] []:=⟨Cu,fun m=>Iff.rfl⟩
theorem GE {es:aa}{l:List Int}{n:Int}(h:sQ es l):sQ (iV es n (.v (.bool true))) (l++[n]):=
 ⟨sN h.s,fun m=>by rw[Df h.s.wf,h.k,BY,WG]⟩
def sM (sp:aa)(i:Int):Bool:= !(decide (0<i)&&decide (af sp i 0<=af sp (i-1) 0))
def Lw (es:aa)(p:Int):Bool:=decide ((fpg es p).length=1)
def yY (es lg:aa)(i:Int):Bool:=sM lg i&&b9 (fun k=>Lw es (af lg i 0+k)) (af lg i 1).toNat
def ownB (sp lg:aa)(p:Int):Bool:=decide (p∈vq sp lg)
def mapB (es:aa)(p:Int):Bool:=decide (peM es p≠0)
def xC (es fr sp lg:aa)(p:Int):Bool:=(mapB es p==ownB sp lg p)&& !(rhB fr p==ownB sp lg p)
def Gy (es sp lg:aa):Bool:=decide (∀ p∈vq sp lg,p<es.length)
def vk (sp:aa)(i j:Int):Bool:=mshB (af sp i 0) (af sp i 1) (af sp i 2) (af sp j 0) (af sp j 1) (af sp j 2)
def EL (es sp:aa)(i j:Int):Bool:= !decide (peF es (af sp i 0)=peF es (af sp j 0))||vk sp i j
def Hz (es sp:aa)(i:Int):Bool:=b9 (EL es sp i) i.toNat
def Gf (es sp:aa)(i k:Int):Bool:=decide (spI sp (af (fpg es (af sp i 0)) k 0)=i)||(decide (0<=spI sp (af (fpg es (af sp i 0)) k 0))&&vk sp i (spI sp (af (fpg es (af sp i 0)) k 0)))
def msA (es sp:aa)(i:Int):Bool:=b9 (Gf es sp i) (fpg es (af sp i 0)).length
def pgI (es fr sp lg:aa):Bool:=b9 (sM sp) sp.length&&(b9 (yY es lg) lg.length&&(b9 (xC es fr sp lg) es.length&&(Gy es sp lg&&b9 (Hz es sp) sp.length)))
def pgS (es fr sp lg:aa):Bool:=b9 (sM sp) sp.length&&(b9 (yY es lg) lg.length&&(Gy es sp lg&&b9 (xC es fr sp lg) es.length))
def smS (es sp:aa):Bool:=b9 (msA es sp) sp.length
section
variable {es fr sp lg m : aa} {i j k p : Int} {vs : List Int}
theorem D1 (h:0<i)(g:af sp i 0<=af sp (i-1) 0):sM sp i=false:=by unfold sM;rw[decide_eq_true h,decide_eq_true g];rfl
theorem D2 (h:i<=0):sM sp i=true:=by unfold sM;rw[decide_eq_false (by omega)];rfl
theorem D3 (h:af sp (i-1) 0<af sp i 0):sM sp i=true:=by unfold sM;rw[decide_eq_false (p:=af sp i 0<=_) (by omega)];simp
theorem Qd (i0:0<=i)(i1:i<sp.length)(h:sM sp i=false):pgI es fr sp lg=false:=by unfold pgI;rw[bI i0 i1 h];rfl
theorem Kz (i0:0<=i)(i1:i<lg.length)(h:yY es lg i=false):pgI es fr sp lg=false:=by unfold pgI;rw[bI i0 i1 h];simp
theorem KA (i0:0<=i)(i1:i<es.length)(h:xC es fr sp lg i=false):pgI es fr sp lg=false:=by unfold pgI;rw[bI i0 i1 h];simp
theorem Qe (h:Gy es sp lg=false):pgI es fr sp lg=false:=by unfold pgI;rw[h];simp
theorem Qf (i0:0<=i)(i1:i<sp.length)(h:Hz es sp i=false):pgI es fr sp lg=false:=by unfold pgI;rw[bI i0 i1 h];simp
theorem TA {a b c d:Int}(h1:upto (sM sp) a)(g1:(sp.length:Int)<=a)(h2:upto (yY es lg) b)(g2:(lg.length:Int)<=b)(h3:upto (xC es fr sp lg) c)(g3:(es.length:Int)<=c)(h4:Gy es sp lg=true)(h5:upto (Hz es sp) d)(g5:(sp.length:Int)<=d):pgI es fr sp lg=true:=by
 unfold pgI;rw[bA h1 g1,bA h2 g2,bA h3 g3,h4,bA h5 g5];rfl
theorem Qn (i0:0<=i)(i1:i<sp.length)(h:sM sp i=false):pgS es fr sp lg=false:=by unfold pgS;rw[bI i0 i1 h];rfl
theorem KB (i0:0<=i)(i1:i<lg.length)(h:yY es lg i=false):pgS es fr sp lg=false:=by unfold pgS;rw[bI i0 i1 h];simp
theorem KC (i0:0<=i)(i1:i<es.length)(h:xC es fr sp lg i=false):pgS es fr sp lg=false:=by unfold pgS;rw[bI i0 i1 h];simp
theorem Qo (h:Gy es sp lg=false):pgS es fr sp lg=false:=by unfold pgS;rw[h];simp
theorem TD {a b c:Int}(h1:upto (sM sp) a)(g1:(sp.length:Int)<=a)(h2:upto (yY es lg) b)(g2:(lg.length:Int)<=b)(h3:upto (xC es fr sp lg) c)(g3:(es.length:Int)<=c)(h4:Gy es sp lg=true):pgS es fr sp lg=true:=by
 unfold pgS;rw[bA h1 g1,bA h2 g2,bA h3 g3,h4];rfl
theorem Kc (h:sM lg i=false):yY es lg i=false:=by unfold yY;rw[h];rfl
theorem Kd (k0:0<=k)(k1:k<af lg i 1)(h:(fpg es (af lg i 0+k)).length≠1):yY es lg i=false:=by
 unfold yY;rw[bI (i:=k) (n:=(af lg i 1).toNat) k0 (by omega) (show Lw es (af lg i 0+k)=false from decide_eq_false h),Ww]
theorem Ph (h:sM lg i=true)(g:upto (fun k=>Lw es (af lg i 0+k)) k)(k1:af lg i 1<=k)(n0:0<=af lg i 1):yY es lg i=true:=by
 unfold yY;rw[h,bA g (by omega)];rfl
theorem JQ (g:upto (fun k=>Lw es (af lg i 0+k)) k)(h:(fpg es (af lg i 0+k)).length=1):upto (fun k=>Lw es (af lg i 0+k)) (k+1):=aY g (decide_eq_true h)
structure NG (es sp lg:aa)(j:Int)(m:aa):Prop where
 ok:upto (yY es lg) j
 o:sQ m (iw sp sp.length++iu lg j.toNat)
structure NF (es sp lg:aa)(j k:Int)(m:aa):Prop where
 ok:upto (yY es lg) j
 h:sM lg j=true
 g:upto (fun k=>Lw es (af lg j 0+k)) k
 o:sQ m (iw sp sp.length++iu lg j.toNat++lz (af lg j 0) k.toNat)
theorem TC (h:sQ m (iw sp i.toNat))(i1:i<=sp.length)(i2:(sp.length:Int)<=i):NG es sp lg 0 m:=⟨bu,by rw[show i.toNat=sp.length from by omega]at h;simpa[iu]using h⟩
theorem Qh (h:NG es sp lg j m)(g:sM lg j=true):NF es sp lg j (af lg j 0-af lg j 0) m:=by
 rw[Int.sub_self];exact⟨h.ok,g,bu,by simpa[lz]using h.o⟩
theorem Qj (h:NF es sp lg j (p-af lg j 0) m)(p0:af lg j 0<=p)(g:(fpg es p).length=1):NF es sp lg j (p+1-af lg j 0) (iV m p (.v (.bool true))):=by
 have e:af lg j 0+(p-af lg j 0)=p:=by omega
 rw[show p+1-af lg j 0=(p-af lg j 0)+1 from by omega];refine⟨h.ok,h.h,JQ h.g (by rw[e];exact g),?_⟩;rw[vu (by omega),e, <-IS];exact GE h.o
theorem Qi (p0:af lg j 0<=p)(p1:p<af lg j 0+af lg j 1)(h:(fpg es p).length≠1):yY es lg j=false:=
 Kd (k:=p-af lg j 0) (by omega) (by omega) (by rw[show af lg j 0+(p-af lg j 0)=p from by omega];exact h)
theorem Qk (h:NF es sp lg j (p-af lg j 0) m)(j0:0<=j)(n0:0<=af lg j 1)(p1:p<=af lg j 0+af lg j 1)(p2:af lg j 0+af lg j 1<=p):NG es sp lg (j+1) m:=by
 refine⟨aY h.ok (Ph h.h h.g (by omega) n0),?_⟩;have o:=h.o;rw[show(p-af lg j 0).toNat=(af lg j 1).toNat from by omega,IS, <-mo j0]at o;exact o
theorem MZ (h:NG es sp lg j m)(j1:j<=lg.length)(j2:(lg.length:Int)<=j):sQ m (vq sp lg):=by
 have o:=h.o;rw[show j.toNat=lg.length from by omega]at o;exact o
theorem P7 (h:sQ m (vq sp lg))(p:Int):mgbI m p=ownB sp lg p:=by
 refine eA ?_;unfold ownB;rw[h.s.at_,decide_eq_true_eq]
theorem JO (h:mapB es p≠ownB sp lg p):xC es fr sp lg p=false:=by unfold xC;rw[beq_eq_false_iff_ne.2 h];rfl
theorem JP (h:rhB fr p=ownB sp lg p):xC es fr sp lg p=false:=by unfold xC;rw[h];simp
theorem On (h:mapB es p=ownB sp lg p)(g:rhB fr p≠ownB sp lg p):xC es fr sp lg p=true:=by unfold xC;rw[h,beq_eq_false_iff_ne.2 g];simp
theorem Ls (h:mapB es p=rhB fr p)(g:mapB es p=ownB sp lg p):xC es fr sp lg p=false:=JP (by rw[<-h,g])
theorem Oo (h:mapB es p≠rhB fr p)(g:mapB es p=ownB sp lg p):xC es fr sp lg p=true:=On g (fun e=>h (by rw[g,e]))
theorem PF (p0:0<=p)(p1:p<es.length):co .neq (af es p 0) 0=mapB es p:=by rw[yF];unfold mapB peM;rw[if_pos (by omega)]
theorem P1 (h:p∈vq sp lg)(g:(es.length:Int)<=p):Gy es sp lg=false:=decide_eq_false (fun c=>by have:=c p h;omega)
theorem Tu (o:sQ m (vq sp lg))(h:∀ k∈vs,k<es.length)(g:∀ k∈jm m,k∈vs):Gy es sp lg=true:=decide_eq_true (fun p hp=>h p (g p ((o.k p).2 hp)))
theorem Q4 {q:Int}(h:∀ k∈vs,k<(es.length:Int))(g:q<es.length):∀ k∈q::vs,k<(es.length:Int):=fun k hk=>by
 rcases VN.1 hk with rfl|hk
 ·exact g
 ·exact h k hk
theorem Tl (j0:0<=j)(j1:j<i)(h:peF es (af sp i 0)=peF es (af sp j 0))(g:vk sp i j=false):Hz es sp i=false:=by
 unfold Hz;exact bI j0 (by omega) (by unfold EL;rw[g,decide_eq_true h];rfl)
theorem Pz (h:peF es (af sp i 0)≠peF es (af sp j 0)):EL es sp i j=true:=by unfold EL;rw[decide_eq_false h];rfl
theorem PC (h:vk sp i j=true):EL es sp i j=true:=by unfold EL;rw[h,Zm]
theorem Tm (h:upto (EL es sp i) j)(g:i<=j)(i0:0<=i):Hz es sp i=true:=by unfold Hz;exact bA h (by omega)
structure Ht (es sp lg:aa)(j:Int)(o:aa):Prop where
 ok:upto (yY es lg) j
 e:o=eV (iw sp sp.length++iu lg j.toNat)
 l:(iu lg j.toNat).length<=64*j.toNat
structure K7 (es sp lg:aa)(j k:Int)(o:aa):Prop where
 ok:upto (yY es lg) j
 h:sM lg j=true
 g:upto (fun k=>Lw es (af lg j 0+k)) k
 e:o=eV (iw sp sp.length++iu lg j.toNat++lz (af lg j 0) k.toNat)
 l:(iu lg j.toNat).length<=64*j.toNat
structure K8 (sp:aa)(i:Int)(o:aa):Prop where
 ok:upto (sM sp) i
 e:o=eV (iw sp i.toNat)
variable {o : aa}
theorem TM :K8 sp 0 []:=⟨bu,rfl⟩
theorem TN (h:K8 sp i o):o.length=i.toNat:=by rw[h.e,bU,lG]
theorem KF (h:K8 sp i o)(i0:0<=i)(g:sM sp i=true):K8 sp (i+1) (o++[[.i (af sp i 0)]]):=⟨aY h.ok g,by rw[kS i0,eF, <-h.e];rfl⟩
theorem TH (h:K8 sp i o)(i1:i<=sp.length)(i2:(sp.length:Int)<=i):Ht es sp lg 0 o:=⟨bu,by rw[h.e,show i.toNat=sp.length from by omega];simp[iu],No _⟩
theorem Qv (h:Ht es sp lg j o)(g:sM lg j=true):K7 es sp lg j 0 o:=⟨h.ok,g,bu,by rw[h.e];simp[lz],h.l⟩
theorem Qw (h:K7 es sp lg j k o)(k0:0<=k)(g:(fpg es (af lg j 0+k)).length=1):K7 es sp lg j (k+1) (o++[[.i (af lg j 0+k)]]):=
 ⟨h.ok,h.h,JQ h.g g,by rw[vu k0, <-IS,eF, <-h.e];rfl,h.l⟩
theorem Qy (h:K7 es sp lg j k o)(j0:0<=j)(n0:0<=af lg j 1)(n1:af lg j 1<=64)(k1:k<=af lg j 1)(k2:af lg j 1<=k):Ht es sp lg (j+1) o:=by
 have l:=h.l;refine⟨aY h.ok (Ph h.h h.g k2 n0),?_,?_⟩
 ·rw[h.e,show k.toNat=(af lg j 1).toNat from by omega,IS, <-mo j0]
 ·rw[mo j0,By,om];omega
theorem TG (h:K7 es sp lg j k o)(k1:k<=64):o.length<=sp.length+64*j.toNat+64:=by
 have l:=h.l;rw[h.e,bU,By,By,lG,om];omega
theorem II (h:Ht es sp lg j o)(j1:j<=lg.length)(j2:(lg.length:Int)<=j):o=eV (vq sp lg):=by
 have e:=h.e;rw[show j.toNat=lg.length from by omega]at e;exact e
theorem Ky (hl:layOk sp lg=true){x:Int}(h:x∈vq sp lg):0<=x/\x<=31:=by
 have F:=NM hl;unfold vq at h;rw[BY,lr,nX]at h;rcases h with⟨i,i1,e⟩|⟨j,j1,e1,e2⟩
 ·have t:=jH (F.s i i1);omega
 ·have t:=ig (F.l j j1);have b:=gQ t.1;omega
theorem Qx (hl:layOk sp lg=true)(h:Ht es sp lg j o)(j1:j<=lg.length)(j2:(lg.length:Int)<=j)(hs:sp.length<=1073741824)(hg:lg.length<=1073741824):Rw [tI] o:=by
 have l:=h.l;rw[II h j1 j2];refine pI (fun x hx=>by have:=Ky hl hx;omega) ?_;unfold vq;rw[By,lG];rw[show j.toNat=lg.length from by omega]at l;omega
theorem TJ (h:Ht es sp lg j o)(j1:j<=lg.length)(j2:(lg.length:Int)<=j)(i0:0<=i)(i1:i<o.length)(g:(es.length:Int)<=af o i 0):Gy es sp lg=false:=by
 have e:=II h j1 j2;rw[e]at i1 g;obtain⟨v,q1,q2⟩:=zu i0 i1;rw[q2]at g;exact P1 (List.mem_of_getElem? q1) g
theorem TL (h:Ht es sp lg j o)(j1:j<=lg.length)(j2:(lg.length:Int)<=j)(g:upto (fun t=>decide (af o t 0<es.length)) i)(i2:(o.length:Int)<=i):Gy es sp lg=true:=by
 have e:=II h j1 j2;refine decide_eq_true (fun p hp=>?_);obtain⟨n,n1,rfl⟩:=XN.1 hp;have n2:n<o.length:=by rw[e,bU];exact n1
 have q:=g n (by omega) (by omega);rw[decide_eq_true_eq,e,pH n1]at q;exact q
theorem TK (h:Ht es sp lg j o)(j1:j<=lg.length)(j2:(lg.length:Int)<=j)(p:Int):hasB o p=ownB sp lg p:=by
 refine eA ?_;rw[II h j1 j2,lh];unfold ownB;rw[decide_eq_true_eq]
theorem PQ (k0:0<=k)(k1:k<(fpg es (af sp i 0)).length)(h:spI sp (af (fpg es (af sp i 0)) k 0)≠i)(g:spI sp (af (fpg es (af sp i 0)) k 0)<0):msA es sp i=false:=by
 unfold msA;exact bI k0 k1 (by unfold Gf;rw[decide_eq_false h,decide_eq_false (by omega)];rfl)
theorem PR (k0:0<=k)(k1:k<(fpg es (af sp i 0)).length)(h:spI sp (af (fpg es (af sp i 0)) k 0)≠i)(g:vk sp i (spI sp (af (fpg es (af sp i 0)) k 0))=false):msA es sp i=false:=by
 unfold msA;exact bI k0 k1 (by unfold Gf;rw[decide_eq_false h,g];simp)
theorem PD (h:spI sp (af (fpg es (af sp i 0)) k 0)=i):Gf es sp i k=true:=by unfold Gf;rw[decide_eq_true h];rfl
theorem PE (h:0<=spI sp (af (fpg es (af sp i 0)) k 0))(g:vk sp i (spI sp (af (fpg es (af sp i 0)) k 0))=true):Gf es sp i k=true:=by unfold Gf;rw[decide_eq_true h,g];simp
theorem QU {p:Int}(h:0<=spI sp p):spI sp p<sp.length:=by
 obtain⟨b,_⟩:=jh h;exact b
theorem BI {a b:Int}:bJ .and .i64 a b=bJ .and .i64 b a:=by
 show XU .i64 ((Wq _ a&&&Wq _ b).toNat)=XU .i64 ((Wq _ b&&&Wq _ a).toNat);rw[BitVec.and_comm]
theorem Gu :vk sp i j=vk sp j i:=by
 refine eA ?_;unfold vk mshB;simp only[AI,decide_eq_true_eq];rw[BI (a:=af sp i 2)]
 constructor
 ·rintro⟨a,b,c,d,e⟩;exact⟨b,a,c.symm,fun h=>d h.symm,e⟩
 ·rintro⟨a,b,c,d,e⟩;exact⟨b,a,c.symm,fun h=>d h.symm,e⟩
theorem zk {es:aa}{f:Int}:∀ {n:Nat} {x:Int},hasB (sf es f n) x=true↔∃ k:Nat,k<n/\x=k/\af es k 0≠0/\af es k 1=f
 |0,x=>⟨fun h=>absurd (xO.1 h) (WW),fun⟨k,h,_⟩=>absurd h (XM _)⟩
 | n+1,x=>by
   by_cases c:af es n 0≠0/\af es n 1=f
   ·rw[DI c.1 c.2,H9,Wo,zk,Ia]
    constructor
    ·rintro(⟨k,h,e⟩|e)
     ·exact⟨k,by omega,e⟩
     ·exact⟨n,by omega,e.symm,c⟩
    ·rintro⟨k,h,e,q⟩;by_cases d:k=n
     ·subst d;exact .inr e.symm
     ·exact .inl ⟨k,by omega,e,q⟩
   ·have c':af es n 0=0\/af es n 1≠f:=by
     by_cases z:af es n 0=0
     ·exact .inl z
     ·exact .inr (fun e=>c ⟨z,e⟩)
    rw[GK c',zk]
    constructor
    ·rintro⟨k,h,e⟩;exact⟨k,by omega,e⟩
    ·rintro⟨k,h,e,q⟩;by_cases d:k=n
     ·subst d;exact absurd q c
     ·exact⟨k,by omega,e,q⟩
theorem sC {p x:Int}:hasB (fpg es p) x=true↔peM es p≠0/\0<=x/\x<es.length/\peM es x≠0/\peF es x=peF es p:=by
 by_cases c:peM es p=0
 ·rw[Ft c];exact⟨fun h=>absurd (xO.1 h) (WW),fun h=>absurd c h.1⟩
 ·rw[C6 c];unfold pagesOn;rw[zk]
  constructor
  ·rintro⟨k,h,rfl,q1,q2⟩;refine⟨c,by omega,by omega,?_,?_⟩
   ·unfold peM;rw[if_pos (by omega)];exact q1
   ·rw[show peF es k=af es k 1 from by unfold peF;rw[if_pos (by omega)]];exact q2
  ·rintro⟨_,h0,h1,q1,q2⟩;refine⟨x.toNat,by omega,by omega,?_,?_⟩
   ·rw[VQ h0];unfold peM at q1;rw[if_pos (by omega)]at q1;exact q1
   ·rw[VQ h0];unfold peF at q2;rw[if_pos (c:=0<=x/\x<_) (by omega)]at q2;rw[q2];rfl
theorem yQ {l:aa}{x:Int}:hasB l x=true↔∃ k:Nat,k<l.length/\af l k 0=x:=C8
theorem GL (hl:layOk sp lg=true):pgI es fr sp lg=(pgS es fr sp lg&&smS es sp):=by
 have F:=NM hl;unfold pgI pgS;by_cases h1:b9 (sM sp) sp.length=true
 case neg=>rw[Xb]at h1;rw[h1];rfl
 by_cases h2:b9 (yY es lg) lg.length=true
 case neg=>rw[Xb]at h2;rw[h2];simp
 by_cases h3:b9 (xC es fr sp lg) es.length=true
 case neg=>rw[Xb]at h3;rw[h3];simp
 by_cases h4:Gy es sp lg=true
 case neg=>rw[Xb]at h4;rw[h4];simp
 rw[h1,h2,h3,h4];simp only[Yl];have h4':=of_decide_eq_true h4;have mp:∀ q:Int,0<=q->q<es.length->(peM es q≠0↔q∈vq sp lg):=by
  intro q q0 q1;have e:=cS.1 h3 q q0 q1;unfold xC at e;simp only[AI,beq_iff_eq]at e;have e:=e.1;unfold mapB ownB at e
  constructor
  ·intro h;rw[decide_eq_true h]at e;exact of_decide_eq_true e.symm
  ·intro h;rw[decide_eq_true h]at e;exact of_decide_eq_true e
 have spg:∀ n:Nat,n<sp.length->af sp n 0∈vq sp lg:=fun n hn=>BY.2 (.inl (lr.2 ⟨n,hn,rfl⟩))
 have spm:∀ n:Nat,n<sp.length->0<=af sp n 0/\af sp n 0<es.length/\peM es (af sp n 0)≠0:=by
  intro n hn;have b:=Ky hl (spg n hn);have c:=h4' _ (spg n hn);exact⟨b.1,c,(mp _ b.1 c).2 (spg n hn)⟩
 have sat:∀ n:Nat,n<sp.length->spI sp (af sp n 0)=n:=by
  intro n hn;have q:=nK (p:=isSp sp (af sp n 0)) hn (uE rfl);obtain⟨q1,q2⟩:=jh q;obtain⟨m,e⟩:=V1 q;have e':spI sp (af sp n 0)=m:=e;rw[e]at q1 q2;have:=F.ss m n (by omega) hn (of_decide_eq_true q2);rw[e',this]
 refine eA ?_;unfold smS;rw[cS,cS]
 constructor
 ·intro h i i0 i1;unfold msA;rw[cS];intro k k0 k1;obtain⟨ii,rfl⟩:=V1 i0;obtain⟨kk,rfl⟩:=V1 k0;have hx:hasB (fpg es (af sp ii 0)) (af (fpg es (af sp ii 0)) kk 0)=true:=yQ.2 ⟨kk,by omega,rfl⟩;generalize hX:af (fpg es (af sp ii 0)) kk 0=x at hx;obtain⟨c1,c2,c3,c4,c5⟩:=sC.1 hx;have hp:=(mp x c2 c3).1 c4;unfold vq at hp;rw[BY,lr,nX]at hp;unfold Gf;rw[hX];rcases hp with⟨n,n1,rfl⟩|⟨j,j1,e1,e2⟩
  ·rw[sat n n1];rcases X4 n ii with c|c|c
   ·have q:=cS.1 (h ii (by omega) i1) n (by omega) (by omega);unfold EL at q;rw[c5,decide_eq_true rfl]at q;rw[show vk sp ii n=true from by simpa using q,decide_eq_true (p:=(0:Int)<=n) (by omega)];simp
   ·rw[c,decide_eq_true rfl];rfl
   ·have q:=cS.1 (h n (by omega) (by omega)) ii (by omega) (by omega);unfold EL at q;rw[c5,decide_eq_true rfl]at q;have q':vk sp n ii=true:=by simpa using q
    rw[Gu,q',decide_eq_true (p:=(0:Int)<=n) (by omega)];simp
  ·exfalso;have t:=ig (F.l j j1);have b:=gQ t.1;have q:=d8 h2 j j1;unfold yY at q;simp only[AI]at q;have q2:=cS.1 q.2 (x-af lg j 0) (by omega) (by omega);rw[show af lg j 0+(x-af lg j 0)=x from by omega]at q2;have q3:=of_decide_eq_true q2;have s1:=spm ii (by omega);have a1:hasB (fpg es x) x=true:=sC.2 ⟨c4,c2,c3,c4,rfl⟩;have a2:hasB (fpg es x) (af sp ii 0)=true:=sC.2 ⟨c4,s1.1,s1.2.1,s1.2.2,c5.symm⟩;obtain⟨u,u1,u2⟩:=yQ.1 a1;obtain⟨v,v1,v2⟩:=yQ.1 a2;have:u=v:=by omega
   subst this;rw[u2]at v2;exact F.sl ii j (by omega) j1 (by omega) (by omega)
 ·intro h i i0 i1;unfold Hz;rw[cS];intro j j0 j1;obtain⟨ii,rfl⟩:=V1 i0;obtain⟨jj,rfl⟩:=V1 j0;unfold EL;by_cases c:peF es (af sp ii 0)=peF es (af sp jj 0)
  case neg=>rw[decide_eq_false c];rfl
  have s1:=spm ii (by omega);have s2:=spm jj (by omega);have a:hasB (fpg es (af sp ii 0)) (af sp jj 0)=true:=sC.2 ⟨s1.2.2,s2.1,s2.2.1,s2.2.2,c.symm⟩;obtain⟨k,k1,k2⟩:=yQ.1 a;have q:=h ii (by omega) i1;unfold msA at q;have q:=d8 q k k1;unfold Gf at q;rw[k2,sat jj (by omega),decide_eq_false (p:=(jj:Int)=ii) (by omega)]at q;simp only[Bool.false_or,AI]at q;rw[q.2,Zm]
end
end Go.V
namespace Go.V
def jobZ (k m:Int)(cs:aa)(ph nx:Int):Bool:=decide (ph=0)&&(decide (nx=0)&&(decide (k=0)&&(decide (m=0)&&decide (cs.length=0))))
def uY (sp:aa)(me:Bool)(k m:Int)(cs:aa)(ph nx:Int):Bool:=
 bif me then(jbOk k m cs ph nx&&(decide (0<=spI sp k)&&decide (0<=spI sp m)))else jobZ k m cs ph nx
def JF (cs:aa)(i:Int):Bool:=caOk (aO cs i 0)
def hpI (a0 a1 a2:aa)(a3:Int)(a4 a5 a6 a7 a8 a9 aA aB:aa)(aC:Int)(aD:aa)(aE aF aG aH:Int)(aI:Bool)(aJ aK:Int)(aL:aa)(aM aN:Int):Bool:=
 kerOk a0 a1 a2 a3 a4&&(rgOk a2.length a5&&(layOk a6 a7&&(pgI a2 a5 a6 a7&&(mailOk aA aB&&(decide (a9.length=aA.length)&&(quarOk aC aD&&(b9 (JF a9) a9.length&&
  (objOk a6 a7 a8 a9 aH&&(hoI a6 a7 a8 a9 aA aB aD aF&&(inR aE 0 1073741823&&(inR aF 0 1000000&&(inR aG 0 1000&&(inR aH 1 1000000&&uY a6 aI aJ aK aL aM aN)))))))))))))
structure NY (a0 a1 a2 a4 a5 a6 a7 a8 a9 aA aB aD aL:aa):Prop where
 n:zZ a6 a7 a8 a9 aA aB aD
 c:Rw [.sl [tI]] a0
 u:Rw [tB] a1
 e:Rw [tI,tI] a2
 el:a2.length<=1073741824
 r:Rw [tI] a4
 f:Rw [tI,tI] a5
 fl:a5.length<=1073741824
 j:Rw [tI] aL
 jl:aL.length<=1073741824
section
variable {a0 a1 a2 : aa} {a3 : Int} {a4 a5 a6 a7 a8 a9 aA aB : aa} {aC : Int} {aD : aa} {aE aF aG aH : Int} {aI : Bool} {aJ aK : Int} {aL : aa} {aM aN : Int} {i : Int}
theorem OG (h:kerOk a0 a1 a2 a3 a4=false):hpI a0 a1 a2 a3 a4 a5 a6 a7 a8 a9 aA aB aC aD aE aF aG aH aI aJ aK aL aM aN=false:=by unfold hpI;rw[h];simp
theorem OM (h:rgOk a2.length a5=false):hpI a0 a1 a2 a3 a4 a5 a6 a7 a8 a9 aA aB aC aD aE aF aG aH aI aJ aK aL aM aN=false:=by unfold hpI;rw[h];simp
theorem OH (h:layOk a6 a7=false):hpI a0 a1 a2 a3 a4 a5 a6 a7 a8 a9 aA aB aC aD aE aF aG aH aI aJ aK aL aM aN=false:=by unfold hpI;rw[h];simp
theorem LR (h:pgI a2 a5 a6 a7=false):hpI a0 a1 a2 a3 a4 a5 a6 a7 a8 a9 aA aB aC aD aE aF aG aH aI aJ aK aL aM aN=false:=by unfold hpI;rw[h];simp
theorem OI (h:mailOk aA aB=false):hpI a0 a1 a2 a3 a4 a5 a6 a7 a8 a9 aA aB aC aD aE aF aG aH aI aJ aK aL aM aN=false:=by unfold hpI;rw[h];simp
theorem SB (h:decide (a9.length=aA.length)=false):hpI a0 a1 a2 a3 a4 a5 a6 a7 a8 a9 aA aB aC aD aE aF aG aH aI aJ aK aL aM aN=false:=by unfold hpI;rw[h];simp
theorem OL (h:quarOk aC aD=false):hpI a0 a1 a2 a3 a4 a5 a6 a7 a8 a9 aA aB aC aD aE aF aG aH aI aJ aK aL aM aN=false:=by unfold hpI;rw[h];simp
theorem SA (h:b9 (JF a9) a9.length=false):hpI a0 a1 a2 a3 a4 a5 a6 a7 a8 a9 aA aB aC aD aE aF aG aH aI aJ aK aL aM aN=false:=by unfold hpI;rw[h];simp
theorem LQ (h:objOk a6 a7 a8 a9 aH=false):hpI a0 a1 a2 a3 a4 a5 a6 a7 a8 a9 aA aB aC aD aE aF aG aH aI aJ aK aL aM aN=false:=by unfold hpI;rw[h];simp
theorem LP (h:hoI a6 a7 a8 a9 aA aB aD aF=false):hpI a0 a1 a2 a3 a4 a5 a6 a7 a8 a9 aA aB aC aD aE aF aG aH aI aJ aK aL aM aN=false:=by unfold hpI;rw[h];simp
theorem ON (h:inR aE 0 1073741823=false):hpI a0 a1 a2 a3 a4 a5 a6 a7 a8 a9 aA aB aC aD aE aF aG aH aI aJ aK aL aM aN=false:=by unfold hpI;rw[h];simp
theorem OP (h:inR aF 0 1000000=false):hpI a0 a1 a2 a3 a4 a5 a6 a7 a8 a9 aA aB aC aD aE aF aG aH aI aJ aK aL aM aN=false:=by unfold hpI;rw[h];simp
theorem OQ (h:inR aG 0 1000=false):hpI a0 a1 a2 a3 a4 a5 a6 a7 a8 a9 aA aB aC aD aE aF aG aH aI aJ aK aL aM aN=false:=by unfold hpI;rw[h];simp
theorem OR (h:inR aH 1 1000000=false):hpI a0 a1 a2 a3 a4 a5 a6 a7 a8 a9 aA aB aC aD aE aF aG aH aI aJ aK aL aM aN=false:=by unfold hpI;rw[h];simp
theorem JZ (h:(a9.length:Int)≠aA.length):hpI a0 a1 a2 a3 a4 a5 a6 a7 a8 a9 aA aB aC aD aE aF aG aH aI aJ aK aL aM aN=false:=SB (decide_eq_false (by omega))
theorem JY (i0:0<=i)(i1:i<a9.length)(h:caOk (aO a9 i 0)=false):hpI a0 a1 a2 a3 a4 a5 a6 a7 a8 a9 aA aB aC aD aE aF aG aH aI aJ aK aL aM aN=false:=SA (bI i0 i1 h)
theorem FE (hk:kerOk a0 a1 a2 a3 a4=true)(hr:rgOk a2.length a5=true)(hl:layOk a6 a7=true)(hp:pgI a2 a5 a6 a7=true)(hm:mailOk aA aB=true)(hn:decide (a9.length=aA.length)=true)(hq:quarOk aC aD=true)(hc:b9 (JF a9) a9.length=true)(ho:objOk a6 a7 a8 a9 aH=true)(hh:hoI a6 a7 a8 a9 aA aB aD aF=true)(hs:inR aE 0 1073741823=true)(ht:inR aF 0 1000000=true)(hw:inR aG 0 1000=true)(hx:inR aH 1 1000000=true):hpI a0 a1 a2 a3 a4 a5 a6 a7 a8 a9 aA aB aC aD aE aF aG aH aI aJ aK aL aM aN=uY a6 aI aJ aK aL aM aN:=by unfold hpI;rw[hk,hr,hl,hp,hm,hn,hq,hc,ho,hh,hs,ht,hw,hx];rfl
structure Vo (a0 a1 a2:aa)(a3:Int)(a4 a5 a6 a7 a8 a9 aA aB:aa)(aC:Int)(aD:aa)(aE aF aG aH:Int)(aI:Bool)(aJ aK:Int)(aL:aa)(aM aN:Int):Prop where
 k:kerOk a0 a1 a2 a3 a4=true
 r:rgOk a2.length a5=true
 l:layOk a6 a7=true
 p:pgI a2 a5 a6 a7=true
 m:mailOk aA aB=true
 n:decide (a9.length=aA.length)=true
 q:quarOk aC aD=true
 c:b9 (JF a9) a9.length=true
 o:objOk a6 a7 a8 a9 aH=true
 h:hoI a6 a7 a8 a9 aA aB aD aF=true
 s:inR aE 0 1073741823=true
 t:inR aF 0 1000000=true
 w:inR aG 0 1000=true
 x:inR aH 1 1000000=true
 j:uY a6 aI aJ aK aL aM aN=true
theorem J1 (h:jbOk aJ aK aL aM aN=false):false=uY a6 true aJ aK aL aM aN:=by unfold uY;rw[h];rfl
theorem J2 (h:spI a6 aJ<0):false=uY a6 true aJ aK aL aM aN:=by unfold uY;rw[decide_eq_false (p:=0<=spI a6 aJ) (by omega)];simp
theorem J3 (h:jbOk aJ aK aL aM aN=true)(g:0<=spI a6 aJ):co .geq (spI a6 aK) 0=uY a6 true aJ aK aL aM aN:=by unfold uY;rw[h,decide_eq_true g];rfl
theorem QY (h:b9 (sA aD aF) aD.length=false)(hl:layOk a6 a7=true)(ho:objOk a6 a7 a8 a9 aH=true):hoI a6 a7 a8 a9 aA aB aD aF=false:=by rw[FC hl ho,h,Ww]
theorem OO (i0:0<=i)(i1:i<aD.length)(h:aF<af aD i 2)(hl:layOk a6 a7=true):hpI a0 a1 a2 a3 a4 a5 a6 a7 a8 a9 aA aB aC aD aE aF aG aH aI aJ aK aL aM aN=false:=by
 by_cases ho:objOk a6 a7 a8 a9 aH=true
 ·exact LP (QY (bI i0 i1 (by unfold sA;exact decide_eq_false (by omega))) hl ho)
 ·exact LQ (by simpa using ho)
theorem OK (hl:layOk a6 a7=true)(h:pgS a2 a5 a6 a7=false):hpI a0 a1 a2 a3 a4 a5 a6 a7 a8 a9 aA aB aC aD aE aF aG aH aI aJ aK aL aM aN=false:=LR (by rw[GL hl,h];rfl)
theorem OJ (hl:layOk a6 a7=true)(h:smS a2 a6=false):hpI a0 a1 a2 a3 a4 a5 a6 a7 a8 a9 aA aB aC aD aE aF aG aH aI aJ aK aL aM aN=false:=LR (by rw[GL hl,h,Ww])
theorem OE (hl:layOk a6 a7=true)(ho:objOk a6 a7 a8 a9 aH=true)(h:hoS a6 a7 a8 a9 aA aB aD=false):hpI a0 a1 a2 a3 a4 a5 a6 a7 a8 a9 aA aB aC aD aE aF aG aH aI aJ aK aL aM aN=false:=LP (by rw[FC hl ho,h];rfl)
theorem Tz (hl:layOk a6 a7=true)(h:pgS a2 a5 a6 a7=true)(g:smS a2 a6=true):pgI a2 a5 a6 a7=true:=by rw[GL hl,h,g];rfl
theorem Sv (hl:layOk a6 a7=true)(ho:objOk a6 a7 a8 a9 aH=true)(h:hoS a6 a7 a8 a9 aA aB aD=true)(i2:(aD.length:Int)<=i)(g:upto (sA aD aF) i):hoI a6 a7 a8 a9 aA aB aD aF=true:=by rw[FC hl ho,h,bA g i2];rfl
theorem T6 (h:af aD i 2<=aF):sA aD aF i=true:=decide_eq_true h
end
end Go.V
namespace Go.V
structure UU (os:aa):Prop where
 w:Rw [tI,tI,tI,tI] os
 l:os.length<=1099511627776
 b:∀ i:Int,0<=i->i<os.length->0<=af os i 1/\af os i 1<=2000/\1<=af os i 2/\af os i 2<=1000
end Go.V
namespace Go.V
end Go.V
namespace Go.V
end Go.V
namespace Go.V
end Go.V
namespace Go.V
end Go.V
namespace Go.V
structure Vy (es fr sp lg:aa):Prop where
 l:∀ j:Nat,j<lg.length->∀ q:Int,af lg j 0<=q->q<af lg j 0+af lg j 1->(fpg es q).length=1
 m:∀ q:Int,0<=q->q<es.length->(peM es q≠0↔q∈vq sp lg)
 o:∀ q∈vq sp lg,q<es.length
 c:∀ i j:Nat,i<sp.length->j<sp.length->peF es (af sp i 0)=peF es (af sp j 0)->af sp i 1=af sp j 1
end Go.V
namespace Go.V
def UI (sp lg fl:aa):Nat->Int
 |0=>0
 |n+1=>UI sp lg fl n+clsSz (af sp (dnI sp lg (af fl n 0)) 1)
def Vd (s:Int):Int:=if 0<=clsOf s then clsSz (clsOf s)else s
def UD (os:aa):Nat->Int
 |0=>0
 |n+1=>UD os n+Vd (af os n 2)
end Go.V
namespace Go.V
end Go.V
namespace Go.V
def UZ (cs es:aa)(a:Int):Int:=af (aO cs (peF es (a/16)) 0) (a%16) 0
def Ut (cs es:aa)(a:Int):Nat->aa
 |0=>[]
 |n+1=>Ut cs es a n++[[.i (UZ cs es (a+n))]]
structure Vk (cs es:aa)(a i:Int)(o:aa):Prop where
 e:o=Ut cs es a i.toNat
structure Vw (cs es os:aa):Prop where
 b:UU os
 f:∀ j:Int,0<=j->j<os.length->∀ i:Int,0<=i->i<af os j 2->0<=peF es ((af os j 1+i)/16)/\peF es ((af os j 1+i)/16)<cs.length/\(aO cs (peF es ((af os j 1+i)/16)) 0).length=16
end Go.V
namespace Go.V
end Go.V
namespace Go.V
def IW (k b:Int):Nat->aa
 |0=>[]
 |n+1=>if hsB b ((n:Int)/clsSz k)=true then IW k b n++[[.i n]]else IW k b n
def T9 (p k b:Int):aa:=if spOk p k b=true then IW k b 16 else[]
structure UW (k b i:Int)(o:aa):Prop where
 e:o=IW k b i.toNat
def T7 (sp:aa):Nat->Int
 |0=>0
 |n+1=>T7 sp n+(T9 (af sp n 0) (af sp n 1) (af sp n 2)).length
def Uy (lg:aa):Nat->Int
 |0=>0
 |n+1=>Uy lg n+af lg n 2
def Lo (ls:aa):Nat->Int
 |0=>0
 |n+1=>Lo ls n+(aO ls n 0).length*clsSz n
end Go.V
namespace Go.V
structure Vr (f:Int->Bool)(o:aa):Prop where
 w:Rw [tB] o
 l:o.length=16
 v:∀ c:Int,0<=c->c<16->oR o c 0=f c
end Go.V
namespace Go.V
def UY (ls:aa):Int:=if caOk ls=true then Lo ls ls.length else 0
structure UP (ls:aa)(i t:Int):Prop where
 e:t=Lo ls i.toNat
def Uq (cs:aa):Nat->Int
 |0=>0
 |n+1=>Uq cs n+UY (aO cs n 0)
structure Vi (cs:aa)(i t:Int):Prop where
 e:t=Uq cs i.toNat
structure Vx (os:aa)(i t:Int):Prop where
 e:t=UD os i.toNat
structure Vz (sp lg fl:aa)(i t:Int):Prop where
 e:t=UI sp lg fl i.toNat
structure UX (sp:aa)(i t:Int):Prop where
 e:t=T7 sp i.toNat
structure US (sp lg:aa)(i t:Int):Prop where
 e:t=T7 sp sp.length+Uy lg i.toNat
end Go.V
namespace Go.V
section
variable {r0 r1 r2 r3 r4 r5 r6 r7 r8 r9 r10 r11 r12 : aa}
theorem Ff {n:Nat}(h:ax [r0,r1,r2,r3,r4,r5,r6,r7,r8,r9,r10,r11,r12]<=n):ag r0<=n/\ag r1<=n/\ag r2<=n/\ag r3<=n/\ag r4<=n/\ag r5<=n/\ag r6<=n/\ag r7<=n/\ag r8<=n/\ag r9<=n/\ag r10<=n/\ag r11<=n/\ag r12<=n:=⟨dM h (by simp),dM h (by simp),dM h (by simp),dM h (by simp),dM h (by simp),dM h (by simp),dM h (by simp),dM h (by simp),dM h (by simp),dM h (by simp),dM h (by simp),dM h (by simp),dM h (by simp)⟩
theorem Kj (h0:Rw [.sl [tI]] r0)(h1:Rw [tB] r1)(h2:Rw [tI,tI] r2)(h3:Rw [tI] r3)(h4:Rw [tI,tI] r4)(h5:Rw [tI,tI,tI] r5)(h6:Rw [tI,tI,tI] r6)(h7:Rw [tI,tI,tI,tI] r7)(h8:Rw [.sl [.sl [tI]]] r8)(h9:Rw [.sl [tI,tI]] r9)(h10:Rw [.sl [tI]] r10)(h11:Rw [tI,tI,tI] r11)(h12:Rw [tI] r12)(hc:ax [r0,r1,r2,r3,r4,r5,r6,r7,r8,r9,r10,r11,r12]<=1099511627776):am [r0,r1,r2,r3,r4,r5,r6,r7,r8,r9,r10,r11,r12] 1<=1152921504606846976:=Gg (by intro r hr;simp only[VN,WW,or_false]at hr;rcases hr with rfl|rfl|rfl|rfl|rfl|rfl|rfl|rfl|rfl|rfl|rfl|rfl|rfl;exact h0.marks (by decide);exact h1.marks (by decide);exact h2.marks (by decide);exact h3.marks (by decide);exact h4.marks (by decide);exact h5.marks (by decide);exact h6.marks (by decide);exact h7.marks (by decide);exact h8.marks (by decide);exact h9.marks (by decide);exact h10.marks (by decide);exact h11.marks (by decide);exact h12.marks (by decide)) hc
theorem Tn (h0:Rw [.sl [tI]] r0)(h1:Rw [tB] r1)(h2:Rw [tI,tI] r2)(h3:Rw [tI] r3)(h4:Rw [tI,tI] r4)(h5:Rw [tI,tI,tI] r5)(h6:Rw [tI,tI,tI] r6)(h7:Rw [tI,tI,tI,tI] r7)(h8:Rw [.sl [.sl [tI]]] r8)(h9:Rw [.sl [tI,tI]] r9)(h10:Rw [.sl [tI]] r10)(h11:Rw [tI,tI,tI] r11)(h12:Rw [tI] r12)(hc:ax [r0,r1,r2,r3,r4,r5,r6,r7,r8,r9,r10,r11,r12]<=1099511627776):am [r0,r1,r2,r3,r4,r5,r6,r7,r8,r9,r10,r11,r12] 1<=1152921504606846976/\(ao r1 (am [r0] 1)=ao r1 (am [ao r0 1] 1)/\ao r2 (am [r0,r1] 1)=ao r2 (am [ao r0 1,ao r1 (am [r0] 1)] 1)/\ao r3 (am [r0,r1,r2] 1)=ao r3 (am [ao r0 1,ao r1 (am [r0] 1),ao r2 (am [r0,r1] 1)] 1)/\ao r4 (am [r0,r1,r2,r3] 1)=ao r4 (am [ao r0 1,ao r1 (am [r0] 1),ao r2 (am [r0,r1] 1),ao r3 (am [r0,r1,r2] 1)] 1)/\ao r5 (am [r0,r1,r2,r3,r4] 1)=ao r5 (am [ao r0 1,ao r1 (am [r0] 1),ao r2 (am [r0,r1] 1),ao r3 (am [r0,r1,r2] 1),ao r4 (am [r0,r1,r2,r3] 1)] 1)/\ao r6 (am [r0,r1,r2,r3,r4,r5] 1)=ao r6 (am [ao r0 1,ao r1 (am [r0] 1),ao r2 (am [r0,r1] 1),ao r3 (am [r0,r1,r2] 1),ao r4 (am [r0,r1,r2,r3] 1),ao r5 (am [r0,r1,r2,r3,r4] 1)] 1)/\ao r7 (am [r0,r1,r2,r3,r4,r5,r6] 1)=ao r7 (am [ao r0 1,ao r1 (am [r0] 1),ao r2 (am [r0,r1] 1),ao r3 (am [r0,r1,r2] 1),ao r4 (am [r0,r1,r2,r3] 1),ao r5 (am [r0,r1,r2,r3,r4] 1),ao r6 (am [r0,r1,r2,r3,r4,r5] 1)] 1)/\ao r8 (am [r0,r1,r2,r3,r4,r5,r6,r7] 1)=ao r8 (am [ao r0 1,ao r1 (am [r0] 1),ao r2 (am [r0,r1] 1),ao r3 (am [r0,r1,r2] 1),ao r4 (am [r0,r1,r2,r3] 1),ao r5 (am [r0,r1,r2,r3,r4] 1),ao r6 (am [r0,r1,r2,r3,r4,r5] 1),ao r7 (am [r0,r1,r2,r3,r4,r5,r6] 1)] 1)/\ao r9 (am [r0,r1,r2,r3,r4,r5,r6,r7,r8] 1)=ao r9 (am [ao r0 1,ao r1 (am [r0] 1),ao r2 (am [r0,r1] 1),ao r3 (am [r0,r1,r2] 1),ao r4 (am [r0,r1,r2,r3] 1),ao r5 (am [r0,r1,r2,r3,r4] 1),ao r6 (am [r0,r1,r2,r3,r4,r5] 1),ao r7 (am [r0,r1,r2,r3,r4,r5,r6] 1),ao r8 (am [r0,r1,r2,r3,r4,r5,r6,r7] 1)] 1)/\ao r10 (am [r0,r1,r2,r3,r4,r5,r6,r7,r8,r9] 1)=ao r10 (am [ao r0 1,ao r1 (am [r0] 1),ao r2 (am [r0,r1] 1),ao r3 (am [r0,r1,r2] 1),ao r4 (am [r0,r1,r2,r3] 1),ao r5 (am [r0,r1,r2,r3,r4] 1),ao r6 (am [r0,r1,r2,r3,r4,r5] 1),ao r7 (am [r0,r1,r2,r3,r4,r5,r6] 1),ao r8 (am [r0,r1,r2,r3,r4,r5,r6,r7] 1),ao r9 (am [r0,r1,r2,r3,r4,r5,r6,r7,r8] 1)] 1)/\ao r11 (am [r0,r1,r2,r3,r4,r5,r6,r7,r8,r9,r10] 1)=ao r11 (am [ao r0 1,ao r1 (am [r0] 1),ao r2 (am [r0,r1] 1),ao r3 (am [r0,r1,r2] 1),ao r4 (am [r0,r1,r2,r3] 1),ao r5 (am [r0,r1,r2,r3,r4] 1),ao r6 (am [r0,r1,r2,r3,r4,r5] 1),ao r7 (am [r0,r1,r2,r3,r4,r5,r6] 1),ao r8 (am [r0,r1,r2,r3,r4,r5,r6,r7] 1),ao r9 (am [r0,r1,r2,r3,r4,r5,r6,r7,r8] 1),ao r10 (am [r0,r1,r2,r3,r4,r5,r6,r7,r8,r9] 1)] 1)/\ao r12 (am [r0,r1,r2,r3,r4,r5,r6,r7,r8,r9,r10,r11] 1)=ao r12 (am [ao r0 1,ao r1 (am [r0] 1),ao r2 (am [r0,r1] 1),ao r3 (am [r0,r1,r2] 1),ao r4 (am [r0,r1,r2,r3] 1),ao r5 (am [r0,r1,r2,r3,r4] 1),ao r6 (am [r0,r1,r2,r3,r4,r5] 1),ao r7 (am [r0,r1,r2,r3,r4,r5,r6] 1),ao r8 (am [r0,r1,r2,r3,r4,r5,r6,r7] 1),ao r9 (am [r0,r1,r2,r3,r4,r5,r6,r7,r8] 1),ao r10 (am [r0,r1,r2,r3,r4,r5,r6,r7,r8,r9] 1),ao r11 (am [r0,r1,r2,r3,r4,r5,r6,r7,r8,r9,r10] 1)] 1))/\am [ao r0 1,ao r1 (am [r0] 1),ao r2 (am [r0,r1] 1),ao r3 (am [r0,r1,r2] 1),ao r4 (am [r0,r1,r2,r3] 1),ao r5 (am [r0,r1,r2,r3,r4] 1),ao r6 (am [r0,r1,r2,r3,r4,r5] 1),ao r7 (am [r0,r1,r2,r3,r4,r5,r6] 1),ao r8 (am [r0,r1,r2,r3,r4,r5,r6,r7] 1),ao r9 (am [r0,r1,r2,r3,r4,r5,r6,r7,r8] 1),ao r10 (am [r0,r1,r2,r3,r4,r5,r6,r7,r8,r9] 1),ao r11 (am [r0,r1,r2,r3,r4,r5,r6,r7,r8,r9,r10] 1),ao r12 (am [r0,r1,r2,r3,r4,r5,r6,r7,r8,r9,r10,r11] 1)] 1=am [r0,r1,r2,r3,r4,r5,r6,r7,r8,r9,r10,r11,r12] 1/\(ag r0<=1099511627776/\ag r1<=1099511627776/\ag r2<=1099511627776/\ag r3<=1099511627776/\ag r4<=1099511627776/\ag r5<=1099511627776/\ag r6<=1099511627776/\ag r7<=1099511627776/\ag r8<=1099511627776/\ag r9<=1099511627776/\ag r10<=1099511627776/\ag r11<=1099511627776/\ag r12<=1099511627776):=
 ⟨Kj h0 h1 h2 h3 h4 h5 h6 h7 h8 h9 h10 h11 h12 hc,⟨congrArg _ (db (rs:=[r0]) (k:=1) (k':=1)).symm,congrArg _ (db (rs:=[r0,r1]) (k:=1) (k':=1)).symm,congrArg _ (db (rs:=[r0,r1,r2]) (k:=1) (k':=1)).symm,congrArg _ (db (rs:=[r0,r1,r2,r3]) (k:=1) (k':=1)).symm,congrArg _ (db (rs:=[r0,r1,r2,r3,r4]) (k:=1) (k':=1)).symm,congrArg _ (db (rs:=[r0,r1,r2,r3,r4,r5]) (k:=1) (k':=1)).symm,congrArg _ (db (rs:=[r0,r1,r2,r3,r4,r5,r6]) (k:=1) (k':=1)).symm,congrArg _ (db (rs:=[r0,r1,r2,r3,r4,r5,r6,r7]) (k:=1) (k':=1)).symm,congrArg _ (db (rs:=[r0,r1,r2,r3,r4,r5,r6,r7,r8]) (k:=1) (k':=1)).symm,congrArg _ (db (rs:=[r0,r1,r2,r3,r4,r5,r6,r7,r8,r9]) (k:=1) (k':=1)).symm,congrArg _ (db (rs:=[r0,r1,r2,r3,r4,r5,r6,r7,r8,r9,r10]) (k:=1) (k':=1)).symm,congrArg _ (db (rs:=[r0,r1,r2,r3,r4,r5,r6,r7,r8,r9,r10,r11]) (k:=1) (k':=1)).symm⟩,db (rs:=[r0,r1,r2,r3,r4,r5,r6,r7,r8,r9,r10,r11,r12]) (k:=1) (k':=1),Ff hc⟩
end
end Go.V
namespace Go.V
def Uu (b:aa)(f:Int):Int:=af (aO b f 0) 0 0
structure Vl (b x:aa)(f:Int):Prop where
 m:mailOk b x=true
 f0:0<=f
 f1:f<b.length
 n:0<(aO b f 0).length
 t0:0<=Uu b f
 t1:Uu b f<b.length
 l:x.length=b.length
end Go.V
namespace Go.V
structure Vp (cs us es:aa)(a:Int):Prop where
 a0:0<=a
 m:smM cs us es a=peM es (a/16)
 f:smF cs us es a=peF es (a/16)
 n:smM cs us es a≠0
section
variable {a0 a1 a2 : aa} {a3 : Int} {a4 a5 a6 a7 a8 a9 aA aB : aa} {aC : Int} {aD : aa} {aE aF aG aH : Int} {aI : Bool} {aJ aK : Int} {aL : aa} {aM aN : Int}
end
end Go.V
namespace Go.V
abbrev Pr :=Int×Int
def U6 (o:List Pr)(x:Pr):List Pr:=match o.getLast? with
 |some y=>if y.1+y.2=x.1 then o.dropLast++[(y.1,y.2+x.2)]else o++[x]
 |none=>o++[x]
structure Ip where
 o:List Pr
 r:Pr
 d:Bool
def U5 (s:Ip)(x:Pr):Ip:=
 if x.1+x.2=s.r.1 then⟨s.o,(x.1,x.2+s.r.2),s.d⟩
 else if s.r.1+s.r.2=x.1 then⟨s.o,(s.r.1,s.r.2+x.2),s.d⟩
 else if s.r.1<x.1/\s.d=false then⟨s.o++[s.r,x],s.r,true⟩
 else⟨s.o++[x],s.r,s.d⟩
structure Sp where
 o:List Pr
 d:Bool
def Vf (r:Pr)(s:Sp)(x:Pr):Sp:=if s.d=false/\r.1<x.1 then⟨s.o++[r]++[x],true⟩else⟨s.o++[x],s.d⟩
def Us :List Pr->Prop
 |[]=>True
 |[x]=>0<x.2
 |x::y::l=>0<x.2/\x.1+x.2<y.1/\Us (y::l)
end Go.V
namespace Go.V
structure ir (cs us es:aa):Prop where
 n0:1<=cs.length
 n1:cs.length<=32
 u:us.length=cs.length
 l:∀ i:Int,0<=i->i<cs.length->(aO cs i 0).length=16
 c:∀ i k:Int,0<=i->i<cs.length->0<=k->k<16->0<=af (aO cs i 0) k 0/\af (aO cs i 0) k 0<=999/\(oR us i 0=false->af (aO cs i 0) k 0=0)
 e0:1<=es.length
 e1:es.length<=32
 e:∀ i:Int,0<=i->i<es.length->0<=af es i 0/\af es i 0<=2/\(af es i 0=0->af es i 1=0)/\(0<af es i 0->0<=af es i 1/\af es i 1<cs.length)
 m:∀ i:Int,0<=i->i<cs.length->oR us i 0=eh es i
theorem MG {cs us es:aa}(h:machOk cs us es=true):ir cs us es:=by
 obtain⟨h1,h2,h3⟩:=Ki h;have a:=uH h1;have b:=vN h2;refine⟨a.2.1,a.2.2,a.1,fun i i0 i1=>JS h1 i0 i1,fun i k i0 i1 k0 k1=>?_,b.1,b.2,fun i i0 i1=>KO h2 i0 i1,h3⟩;have q:=h1;unfold framesOk at q;simp only[AI,decide_eq_true_eq]at q;have r:=cS.1 q.2 i i0 i1;unfold eE at r;simp only[AI,decide_eq_true_eq]at r;have s:=cS.1 r.2 k k0 (by omega);unfold ib at s;simp only[AI,Wo,decide_eq_true_eq]at s;have t:=bH.1 s.1;refine⟨t.1,t.2,fun f=>?_⟩;rcases s.2 with w|w
 ·rw[f]at w;cases w
 ·exact w
theorem Gn {es:aa}{f:Int}:∀ {n:Nat},0<(sf es f n).length↔∃ i:Nat,i<n/\af es i 0≠0/\af es i 1=f
 |0=>⟨fun h=>absurd h (Nat.lt_irrefl _),fun⟨i,h,_⟩=>absurd h (by omega)⟩
 | n+1=>by
   by_cases c:af es n 0≠0/\af es n 1=f
   ·rw[sf,if_pos c,By];exact⟨fun _=>⟨n,by omega,c⟩,fun _=>by simp only[V9,Wy];omega⟩
   ·rw[sf,if_neg c,Gn (n:=n)]
    constructor
    ·rintro⟨i,h,q⟩;exact⟨i,by omega,q⟩
    ·rintro⟨i,h,q⟩;by_cases z:i=n
     ·subst z;exact absurd q c
     ·exact⟨i,by omega,q⟩
theorem iL {es:aa}{f:Int}:eh es f=true↔∃ i:Nat,i<es.length/\af es i 0≠0/\af es i 1=f:=yZ.trans Gn
theorem uL {es:aa}{n i:Nat}{r:ay}(h:n<es.length):(es.set n r).getD i []=if i=n then r else es.getD i []:=by
 simp only[If,List.getElem?_set];by_cases c:n=i
 ·subst c;rw[if_pos rfl,if_pos h,if_pos rfl];rfl
 ·rw[if_neg c,if_neg (Ne.symm c)]
theorem Se {es:aa}{n i:Int}{r:ay}{j:Nat}(n0:0<=n)(n1:n<es.length)(i0:0<=i):af (es.set n.toNat r) i j=if i=n then Mu (r.getD j .g)else af es i j:=by
 unfold af;rw[uL (by omega)];by_cases c:i=n
 ·rw[if_pos (by omega),if_pos c]
 ·rw[if_neg (by omega),if_neg c]
theorem Uw {es:aa}{n i:Int}{r:ay}{j:Nat}(n0:0<=n)(n1:n<es.length)(i0:0<=i):oR (es.set n.toNat r) i j=if i=n then Tc (r.getD j .g)else oR es i j:=by
 unfold oR;rw[uL (by omega)];by_cases c:i=n
 ·rw[if_pos (by omega),if_pos c]
 ·rw[if_neg (by omega),if_neg c]
theorem RL {es:aa}{n i:Int}{r:ay}{j:Nat}(n0:0<=n)(n1:n<es.length)(i0:0<=i):aO (es.set n.toNat r) i j=if i=n then EK (r.getD j .g)else aO es i j:=by
 unfold aO;rw[uL (by omega)];by_cases c:i=n
 ·rw[if_pos (by omega),if_pos c]
 ·rw[if_neg (by omega),if_neg c]
def Uj (es:aa)(p:Int):aa:=es.set p.toNat [.i 0,.i 0]
def dfU (us es:aa)(f:Int):aa:=if eh es f=true then us else us.set f.toNat [.v (.bool false)]
def dfC (cs es:aa)(f:Int):aa:=if eh es f=true then cs else cs.set f.toNat [.s 1 (jC 16 [.i 0])]
theorem H8 {k:Int}(k0:0<=k)(k1:k<16):af (jC 16 [.i 0]) k 0=0:=by
 show af (Wi 16 [L.i 0]) k 0=0;unfold af;rw[If (l:=Wi _ _),List.getElem?_replicate,if_pos (by omega)];rfl
theorem Oj {cs us es es':aa}{f:Int}(h:ir cs us es)(f0:0<=f)(f1:f<cs.length)(l:es'.length=es.length) 
 (e:∀ i:Int,0<=i->i<es.length->0<=af es' i 0/\af es' i 0<=2/\(af es' i 0=0->af es' i 1=0)/\(0<af es' i 0->0<=af es' i 1/\af es' i 1<cs.length))
 (m:∀ i:Int,0<=i->i<cs.length->i≠f->eh es' i=eh es i) (g:eh es' f=true->eh es f=true):ir (dfC cs es' f) (dfU us es' f) es':=by
 unfold dfC dfU;by_cases q:eh es' f=true
 ·rw[if_pos q,if_pos q];refine⟨h.n0,h.n1,h.u,h.l,h.c,by rw[l];exact h.e0,by rw[l];exact h.e1,fun i i0 i1=>e i i0 (by omega),fun i i0 i1=>?_⟩;by_cases c:i=f
  ·rw[c,q,h.m f f0 f1,g q]
  ·rw[m i i0 i1 c];exact h.m i i0 i1
 ·have hu:=h.u;rw[if_neg q,if_neg q];refine⟨by rw[Wh];exact h.n0,by rw[Wh];exact h.n1,by rw[Wh,Wh];exact h.u,fun i i0 i1=>?_,fun i k i0 i1 k0 k1=>?_,by rw[l];exact h.e0,by rw[l];exact h.e1,fun i i0 i1=>by rw[Wh];exact e i i0 (by omega),fun i i0 i1=>?_⟩
  ·rw[Wh]at i1;rw[RL f0 f1 i0];split
   ·rfl
   ·exact h.l i i0 i1
  ·rw[Wh]at i1;rw[RL f0 f1 i0,Uw f0 (by omega) i0];split
   ·show 0<=af (jC 16 [.i 0]) k 0/\af (jC 16 [.i 0]) k 0<=999/\(_->af (jC 16 [.i 0]) k 0=0);rw[H8 k0 k1];exact⟨by omega,by omega,fun _=>rfl⟩
   ·exact h.c i k i0 i1 k0 k1
  ·rw[Wh]at i1;rw[Uw f0 (by omega) i0];split
   ·rename_i c;subst c;show false=_;cases z:eh es' i with
    |false=>rfl
    |true=>exact absurd z q
   ·rename_i c;rw[m i i0 i1 c];exact h.m i i0 i1
end Go.V
namespace Go.V
theorem x8 {es:aa}{p:Int}(h:peM es p≠0):(0<=p/\p<es.length)/\peM es p=af es p 0/\peF es p=af es p 1:=by
 have pr:0<=p/\p<es.length:=by
  by_cases c:0<=p/\p<es.length
  ·exact c
  ·exact absurd (DF c).1 h
 exact⟨pr,by unfold peM;rw[if_pos pr],by unfold peF;rw[if_pos pr]⟩
def oA (es:aa)(p m f:Int):aa:=es.set p.toNat [.i m,.i f]
theorem oB {es:aa}{p m f:Int}:(oA es p m f).length=es.length:=Wh
theorem kR {es:aa}{p m f:Int}(p0:0<=p)(p1:p<es.length)(i:Int)(i0:0<=i):af (oA es p m f) i 0=(if i=p then m else af es i 0)/\af (oA es p m f) i 1=if i=p then f else af es i 1:=⟨Se p0 p1 i0,Se p0 p1 i0⟩
theorem vJ {es:aa}{p m f g:Int}(p0:0<=p)(p1:p<es.length)(hm:m≠0):eh (oA es p m f) g=true↔f=g\/∃ i:Nat,i<es.length/\(i:Int)≠p/\af es i 0≠0/\af es i 1=g:=by
 rw[iL,oB]
 constructor
 ·rintro⟨i,i1,a,b⟩;rw[(kR p0 p1 i (by omega)).1]at a;rw[(kR p0 p1 i (by omega)).2]at b;by_cases c:(i:Int)=p
  ·rw[if_pos c]at b;exact .inl b
  ·rw[if_neg c]at a b;exact .inr ⟨i,i1,c,a,b⟩
 ·rintro(q|⟨i,i1,c,a,b⟩)
  ·obtain⟨n,rfl⟩:=V1 p0;exact⟨n,by omega,by rw[(kR p0 p1 n (by omega)).1,if_pos rfl];exact hm,by rw[(kR p0 p1 n (by omega)).2,if_pos rfl];exact q⟩
  ·exact⟨i,i1,by rw[(kR p0 p1 i (by omega)).1,if_neg c];exact a,by rw[(kR p0 p1 i (by omega)).2,if_neg c];exact b⟩
theorem KI {es:aa}{p m f:Int}{n:Nat}(p0:0<=p)(p1:p<es.length)(hm:1<=m/\m<=2)(hf:0<=f/\f<n) 
 (e:∀ i:Int,0<=i->i<es.length->0<=af es i 0/\af es i 0<=2/\(af es i 0=0->af es i 1=0)/\(0<af es i 0->0<=af es i 1/\af es i 1<n)):
 ∀ i:Int,0<=i->i<es.length->0<=af (oA es p m f) i 0/\af (oA es p m f) i 0<=2/\(af (oA es p m f) i 0=0->af (oA es p m f) i 1=0)/\(0<af (oA es p m f) i 0->0<=af (oA es p m f) i 1/\af (oA es p m f) i 1<n):=fun i i0 i1=>by
 rw[(kR p0 p1 i i0).1,(kR p0 p1 i i0).2];split
 ·exact⟨by omega,by omega,fun q=>by omega,fun _=>hf⟩
 ·exact e i i0 i1
theorem Qm {cs us es:aa}{p m:Int}(h:ir cs us es)(hp:peM es p≠0)(hm:1<=m/\m<=2):ir cs us (oA es p m (peF es p)):=by
 obtain⟨pr,em,ef⟩:=x8 hp;rw[em]at hp;have ep:=h.e p pr.1 pr.2;have fr:=ep.2.2.2 (by omega);rw[ef];refine⟨h.n0,h.n1,h.u,h.l,h.c,by rw[oB];exact h.e0,by rw[oB];exact h.e1,fun i i0 i1=>KI pr.1 pr.2 hm fr h.e i i0 (by rw[oB]at i1;exact i1),fun i i0 i1=>?_⟩;rw[h.m i i0 i1,Y6,vJ pr.1 pr.2 (by omega),iL]
 constructor
 ·rintro⟨k,k1,a,b⟩;by_cases c:(k:Int)=p
  ·rw[c]at b;exact .inl b
  ·exact .inr ⟨k,k1,c,a,b⟩
 ·rintro(q|⟨k,k1,_,a,b⟩)
  ·obtain⟨n,rfl⟩:=V1 pr.1;exact⟨n,by omega,hp,q⟩
  ·exact⟨k,k1,a,b⟩
theorem PL {cs us es:aa}{p q:Int}(h:ir cs us es)(hp:peM es p≠0)(hq:peM es q≠0)(ne:p≠q):ir (dfC cs (oA es p 2 (peF es q)) (peF es p)) (dfU us (oA es p 2 (peF es q)) (peF es p)) (oA es p 2 (peF es q)):=by
 obtain⟨pr,em,ef⟩:=x8 hp;obtain⟨qr,qm,qf⟩:=x8 hq;rw[em]at hp;rw[qm]at hq;have ep:=h.e p pr.1 pr.2;have eq:=h.e q qr.1 qr.2;have fp:=ep.2.2.2 (by omega);have fq:=eq.2.2.2 (by omega);rw[ef,qf];obtain⟨n,rfl⟩:=V1 qr.1;refine Oj h fp.1 fp.2 oB (KI pr.1 pr.2 (by omega) fq h.e) (fun i i0 i1 nf=>?_) (fun z=>?_)
 ·rw[Y6,vJ pr.1 pr.2 (by omega),iL]
  constructor
  ·rintro(c|⟨k,k1,_,a,b⟩)
   ·exact⟨n,by omega,hq,c⟩
   ·exact⟨k,k1,a,b⟩
  ·rintro⟨k,k1,a,b⟩;refine .inr ⟨k,k1,fun c=>?_,a,b⟩;rw[c]at b;exact nf b.symm
 ·rcases(vJ pr.1 pr.2 (by omega)).1 z with c|⟨k,k1,_,a,b⟩
  ·exact iL.2 ⟨n,by omega,hq,c⟩
  ·exact iL.2 ⟨k,k1,a,b⟩
theorem KL {cs us es:aa}{p f k v:Int}(h:ir cs us es)(hp:peM es p≠0)(ef':peF es p=f)(k0:0<=k)(k1:k<16)(v0:0<=v)(v1:v<=999):ir (lX cs f k v) us es:=by
 obtain⟨pr,em,ef⟩:=x8 hp;rw[em]at hp;have ep:=h.e p pr.1 pr.2;have fr:=ep.2.2.2 (by omega);rw[<-ef,ef']at fr;have used:oR us f 0=true:=by
  rw[h.m f fr.1 fr.2];obtain⟨n,rfl⟩:=V1 pr.1;exact iL.2 ⟨n,by omega,hp,by rw[<-ef,ef']⟩
 have lf:=h.l f fr.1 fr.2;unfold lX;refine⟨by rw[Wh];exact h.n0,by rw[Wh];exact h.n1,by rw[Wh];exact h.u,fun i i0 i1=>?_,fun i j i0 i1 j0 j1=>?_,h.e0,h.e1,fun i i0 i1=>by rw[Wh];exact h.e i i0 i1,fun i i0 i1=>by rw[Wh]at i1;exact h.m i i0 i1⟩
 ·rw[Wh]at i1;rw[RL fr.1 fr.2 i0];split
  ·show((aO cs f 0).set k.toNat _).length=16;rw[Wh,lf]
  ·exact h.l i i0 i1
 ·rw[Wh]at i1;rw[RL fr.1 fr.2 i0];split
  ·rename_i c;subst c;show 0<=af ((aO cs i 0).set k.toNat [.i v]) j 0/\af ((aO cs i 0).set k.toNat [.i v]) j 0<=999/\(_->af ((aO cs i 0).set k.toNat [.i v]) j 0=0);rw[Se k0 (by omega) j0];have c:=h.c i j i0 i1 j0 j1;split
   ·exact⟨v0,v1,fun q=>by rw[used]at q;cases q⟩
   ·exact c
  ·exact h.c i j i0 i1 j0 j1
end Go.V
namespace Go.V
def Ui (e:ay):Pr:=(Mu (e.getD 0 .g),Mu (e.getD 1 .g))
def KP (es:aa):List Pr:=es.map Ui
def U4 (p:Pr):ay:=[.i p.1,.i p.2]
def rowP (l:List Pr):aa:=l.map U4
structure VC (n:Int)(rs:aa):Prop where
 n0:1<=n
 n1:n<=32
 c:Us (KP rs)
 b:∀ x∈KP rs,0<=x.1/\1<=x.2/\x.1+x.2<=n
def ovB (x r:Pr):Bool:=decide (x.1<r.1+r.2)&&decide (r.1<x.1+x.2)
structure VD (rs:aa)(a0 l0 i:Int)(o:aa)(a l:Int)(d:Bool):Prop where
 s:∃ o',o=rowP o'/\((KP rs).take i.toNat).foldl U5 ⟨[],(a0,l0),false⟩=⟨o',(a,l),d⟩
 n:∀ x∈(KP rs).take i.toNat,ovB x (a0,l0)=false
 v:∀ x∈(KP rs).drop i.toNat,ovB x (a,l)=ovB x (a0,l0)
 b:0<=a/\1<=l/\a+l<=32
end Go.V
namespace Go.V
section
variable {n : Int} {rs : aa} {a0 l0 i : Int} {o : aa} {a l : Int} {d : Bool}
structure UV (rs:aa)(a0 l0 i:Int)(o:aa)(d:Bool):Prop where
 s:∃ o',o=rowP o'/\((KP rs).take i.toNat).foldl (Vf (a0,l0)) ⟨[],false⟩=⟨o',d⟩
 n:∀ x∈(KP rs).take i.toNat,ovB x (a0,l0)=false
 m:o.length<=2*i.toNat
end
end Go.V
namespace Go.V
theorem Q2 {o:aa}{n:Int}{x:Value}(h:Rw [tI,tI] o)(n0:0<=n)(n1:n<o.length):wg (.s 2 o) [(n.toNat,0)] [.v x]=o.set n.toNat [.v x,.i (af o n 1)]:=by
 show o.set n.toNat ((o.getD n.toNat []).take 0++[.v x]++(o.getD n.toNat []).drop (0+1))=_;rw[h.eta n0 n1];rfl
theorem QW {o:aa}{n:Int}{j:Nat}(h:Rw [tI,tI] o)(n0:0<=n)(n1:n<o.length)(hj:j<2):∃ rec o',bL (.s 2 o) [(n.toNat,j)]=some (rec,o')/\o'+1<=rec.length:=f8 (by omega) (by
 rw[h.eta n0 n1];show j+1<=2;omega)
theorem Em {o:aa}{n:Int}{j:Nat}(h:Rw [tI,tI] o)(n0:0<=n)(n1:n<o.length)(hj:j<2):∃ rec o',bL (L.s 2 o) [(n.toNat,j)]=some (rec,o')/\o'+[L.v (Wg Wx 0)].length<=rec.length/\Yv [L.v (Wg Wx 0)].length (Yw o' rec)=je ah (L.s 2 o) [(n.toNat,j)] 0 [L.v (Wg Wx 0)]:=by
 rcases(show j=0\/j=1 by omega)with rfl|rfl
 ·exact vH (z0:=[.i 0,.i 0]) (z:=[.i 0]) h.wf (by omega) rfl (by decide)
 ·exact vH (z0:=[.i 0,.i 0]) (z:=[.i 0]) h.wf (by omega) rfl (by decide)
theorem Ev {l:aa}{sz j:Nat}{i:Int}(h0:0<=i):EN (.s sz l) [(i.toNat,j)]=af l i j:=by
 rw[Cn];unfold af;rw[V4]
structure UR (rs:aa)(i:Int)(o:aa):Prop where
 s:o=rowP (((KP rs).take i.toNat).foldl U6 [])
 l:o.length<=i.toNat
section
variable {rs o : aa} {i : Int}
end
end Go.V
namespace Go.V
def N5 (rs:aa)(n:Int):Nat->Int
 |0=> -1
 |k+1=>if n<=af rs k 1/\(N5 rs n k<0\/af rs k 1<af rs (N5 rs n k) 1)then k else N5 rs n k
def NU (rs:aa)(n:Int):Int:=N5 rs n rs.length
structure Vj (rs:aa)(n i b:Int):Prop where
 e:b=N5 rs n i.toNat
section
variable {rs : aa} {n i b : Int}
end
structure VG (p:Int)(rs:aa)(n:Int):Prop where
 i0:0<=NU rs n
 i1:NU rs n<rs.length
 n0:1<=n
 a0:0<=af rs (NU rs n) 0
 l0:n<=af rs (NU rs n) 1
 e:af rs (NU rs n) 0+af rs (NU rs n) 1<=p
 p0:p<=32
end Go.V
namespace Go.V
def R9 (b:Int):Nat->aa
 |0=>[]
 |k+1=>if hsB b k=true then R9 b k else R9 b k++[[.i k]]
structure Vn (b i:Int)(o:aa):Prop where
 e:o=R9 b i.toNat
end Go.V
namespace Go.V
theorem Nh {ls r:aa}{k:Nat}(h:Rw [.sl [tI]] ls)(g:Rw [tI] r):Rw [.sl [tI]] (ls.set k [.s 1 r]):=Rw.set h (show ce [.sl [tI]] [.s 1 r]from⟨⟨rfl,g⟩,trivial⟩) _
end Go.V
namespace Go.V
def UK :aa->Int->Nat
 |[],_=>0
 |e::l,r=>if qcI (e::l)<=r then 0 else UK l r+1
structure VA (l:aa)(r i:Int):Prop where
 e:i.toNat<=UK l r
section
variable {l : aa} {r i : Int}
end
def UL :aa->Int->Nat
 |[],_=>0
 |e::l,t=>if Mu (e.getD 2 .g)<t then UL l t+1 else 0
structure VB (l:aa)(t i:Int):Prop where
 e:i.toNat<=UL l t
section
variable {l : aa} {t i : Int}
end
end Go.V
namespace Go.V
theorem C0 {k:Nat}:∀ {l:aa},(∀ e∈l,cL e<=k)->bD l<=k*l.length
 |[],_=>No _
 | e::l,h=>by
   have a:=h e (by simp);have b:=C0 (l:=l) (fun x hx=>h x (by simp[hx]));simp only[bD,V9,Nat.mul_succ];omega
theorem Dr {cs us es:aa}(h:ir cs us es)(rc:Rw [.sl [tI]] cs)(ru:Rw [tB] us)(re:Rw [tI,tI] es):ag cs<=1024/\ag us<=64/\ag es<=64:=by
 have n1:=h.n1;have hu:=h.u;have e1:=h.e1;refine⟨?_,?_,?_⟩
 ·have q:bD cs<=16*cs.length:=C0 fun e he=>by
   obtain⟨i,hi,rfl⟩:=List.getElem_of_mem he;have a:=rc.eta (i:=i) (by omega) (by omega);rw[If,V4,IN hi,Option.getD_some]at a;rw[a];show cL [.s 1 (aO cs i 0)]<=16;have l:=h.l i (by omega) (by omega);have w:=(Rw.sub (fs:=[.sl [tI]]) (j:=0) (i:=(i:Int)) rc (by omega) rfl).cnt rfl;have e:cL [.s 1 (aO cs i 0)]=ag (aO cs i 0):=by simp only[cL,eC,ag];omega
   rw[e,w];omega
  unfold ag;omega
 ·rw[ru.cnt rfl];omega
 ·rw[re.cnt rfl];omega
def U7 (cs es:aa)(p:Int):aa:=if peM es p≠0 then dfC cs (Uj es p) (peF es p)else cs
def U9 (us es:aa)(p:Int):aa:=if peM es p≠0 then dfU us (Uj es p) (peF es p)else us
def U8 (es:aa)(p:Int):aa:=if peM es p≠0 then Uj es p else es
def kpB (es:aa)(c:Int)(rs:aa)(p m:Int):Bool:= !hasB rs c&&(decide (peM es p≠0)&&(decide (m=1)||decide (m=2)))
def kpE (es:aa)(c:Int)(rs:aa)(p m:Int):aa:=if kpB es c rs p m=true then oA es p m (peF es p)else es
def koB (es:aa)(c:Int)(rs:aa)(p q:Int):Bool:= !hasB rs c&&(decide (peM es p≠0)&&(decide (peM es q≠0)&&decide (p≠q)))
def koC (cs es:aa)(c:Int)(rs:aa)(p q:Int):aa:=if koB es c rs p q=true then dfC cs (oA es p 2 (peF es q)) (peF es p)else cs
def koU (us es:aa)(c:Int)(rs:aa)(p q:Int):aa:=if koB es c rs p q=true then dfU us (oA es p 2 (peF es q)) (peF es p)else us
def koE (es:aa)(c:Int)(rs:aa)(p q:Int):aa:=if koB es c rs p q=true then oA es p 2 (peF es q)else es
theorem Pd {cs us es rs:aa}{c p m:Int}(h:ir cs us es):ir cs us (kpE es c rs p m):=by
 unfold kpE;by_cases g:kpB es c rs p m=true
 ·rw[if_pos g];unfold kpB at g;simp only[AI,Wo,decide_eq_true_eq]at g;exact Qm h g.2.1 (by omega)
 ·rw[if_neg g];exact h
theorem SU {cs us es rs:aa}{c p q:Int}(h:ir cs us es):ir (koC cs es c rs p q) (koU us es c rs p q) (koE es c rs p q):=by
 unfold koC koU koE;by_cases g:koB es c rs p q=true
 ·rw[if_pos g,if_pos g,if_pos g];unfold koB at g;simp only[AI,decide_eq_true_eq]at g;exact PL h g.2.1 g.2.2.1 g.2.2.2
 ·rw[if_neg g,if_neg g,if_neg g];exact h
theorem Vg {us:aa}{n:Nat}{b:Bool}(h:Rw [tB] us):Rw [tB] (us.set n [.v (.bool b)]):=Rw.set h (show ce [tB] [.v (.bool b)]from⟨trivial,trivial⟩) _
theorem IR {es:aa}{p m f:Int}(h:Rw [tI,tI] es)(hm: -9223372036854775808<=m/\m<=9223372036854775807)(hf: -9223372036854775808<=f/\f<=9223372036854775807):Rw [tI,tI] (oA es p m f):=Rw.set h (show ce [tI,tI] [.i m,.i f]from⟨⟨rfl,hm⟩,⟨rfl,hf⟩,trivial⟩) _
theorem TP {cs es:aa}{f:Int}(h:Rw [.sl [tI]] cs):Rw [.sl [tI]] (dfC cs es f):=by
 unfold dfC;split
 ·exact h
 ·exact Nh h (Rw.replicate (show ce [tI] [.i 0]from⟨⟨rfl,show-9223372036854775808<=(0:Int)/\(0:Int)<=9223372036854775807 from by omega⟩,trivial⟩) (by unfold maxLen;omega))
theorem TQ {us es:aa}{f:Int}(h:Rw [tB] us):Rw [tB] (dfU us es f):=by
 unfold dfU;split
 ·exact h
 ·exact Vg h
theorem uZ {cs us es rs:aa}{c:Int}(h:kerOk cs us es c rs=true):ir cs us es/\0<=c/\c<=100000/\ox rs=true:=by
 unfold kerOk at h;simp only[AI]at h;have r:=bH.1 h.1.2;exact⟨MG h.1.1,r.1,r.2,h.2⟩
end Go.V
namespace Go.V
structure yk (a0 a1 a2 a4 a5 a6 a7 a8 a9 aA aB aD aL:aa):Prop where
 r0:Rw [.sl [tI]] a0
 r1:Rw [tB] a1
 r2:Rw [tI,tI] a2
 r4:Rw [tI] a4
 r5:Rw [tI,tI] a5
 r6:Rw [tI,tI,tI] a6
 r7:Rw [tI,tI,tI] a7
 r8:Rw [tI,tI,tI,tI] a8
 r9:Rw [.sl [.sl [tI]]] a9
 r10:Rw [.sl [tI,tI]] aA
 r11:Rw [.sl [tI]] aB
 r13:Rw [tI,tI,tI] aD
 r21:Rw [tI] aL
 c0:ag a0<=1073741824
 c1:ag a1<=1073741824
 c2:ag a2<=1073741824
 c4:ag a4<=1073741824
 c5:ag a5<=1073741824
 c6:ag a6<=1073741824
 c7:ag a7<=1073741824
 c8:ag a8<=1073741824
 c9:ag a9<=1073741824
 c10:ag aA<=1073741824
 c11:ag aB<=1073741824
 c13:ag aD<=1073741824
 c21:ag aL<=1073741824
theorem yk.hp {a0 a1 a2 a4 a5 a6 a7 a8 a9 aA aB aD aL:aa}(h:yk a0 a1 a2 a4 a5 a6 a7 a8 a9 aA aB aD aL):NY a0 a1 a2 a4 a5 a6 a7 a8 a9 aA aB aD aL:=by
 have l2:=aU (es:=a2);have l5:=aU (es:=a5);have l6:=aU (es:=a6);have l7:=aU (es:=a7);have l8:=aU (es:=a8);have l13:=aU (es:=aD);have l21:=aU (es:=aL);have c2:=h.c2;have c5:=h.c5;have c6:=h.c6;have c7:=h.c7;have c8:=h.c8;have c13:=h.c13;have c21:=h.c21;exact⟨⟨h.r6,h.r7,h.r8,h.r9,h.r13,MS h.r10 h.r11 h.c10 h.c11,MQ h.r9 h.c9,by omega,by omega,by omega,by omega,h.c9⟩,h.r0,h.r1,h.r2,by omega,h.r4,h.r5,by omega,h.r21,by omega⟩
theorem Hf {fs:List Ty}{es:aa}{i:Int}(h:Rw [.sl fs] es)(h0:0<=i)(h1:i<es.length):Rw fs (aO es i 0):=Rw.sub (fs:=[.sl fs]) (j:=0) (i:=i) h (by omega) rfl
end Go.V
namespace Go.V
theorem KQ {b x:aa}{i:Int}(h:Rw [.sl [tI]] b)(h0:0<=i)(h1:i<b.length):wg (.s 1 b) [(i.toNat,0)] [.s 1 x]=b.set i.toNat [.s 1 x]:=oF (by rw[h.eta h0 h1];rfl)
theorem QX {fs:List Ty}{b:aa}{i:Int}(h:Rw [.sl fs] b)(h0:0<=i)(h1:i<b.length):∃ rec o',bL (.s 1 b) [(i.toNat,0)]=some (rec,o')/\o'+1<=rec.length:=f8 (by omega) (by rw[h.eta h0 h1];exact VJ _)
end Go.V
namespace Go.V
def ccB (cs us es:aa)(c:Int)(rs:aa):Bool:=decide (c≠100000)&&kerOk cs us es c rs
theorem xx {cs us es rs:aa}{c:Int}(h:ccB cs us es c rs=true):c≠100000/\kerOk cs us es c rs=true:=by
 unfold ccB at h;rw[AI,decide_eq_true_eq]at h;exact h
theorem N9 {cs us es rs:aa}{c:Int}(h:c=100000):ccB cs us es c rs=false:=by unfold ccB;rw[decide_eq_false (fun n=>n h)];rfl
theorem Oa {cs us es rs:aa}{c:Int}(h:c≠100000):ccB cs us es c rs=kerOk cs us es c rs:=by unfold ccB;rw[decide_eq_true h];rfl
theorem Ob {cs us es rs:aa}{c:Int}(h:kerOk cs us es c rs=false):ccB cs us es c rs=false:=by unfold ccB;rw[h];simp
theorem Oc {cs us es rs:aa}{c:Int}(h:kerOk cs us es c rs=true):co .lss c 100000=ccB cs us es c rs:=by
 have q:=(uZ h).2;unfold ccB;rw[h,Bool.and_true];show decide (c<100000)=_;by_cases e:c=100000
 ·rw[decide_eq_false (by omega),decide_eq_false (by simp[e])]
 ·rw[decide_eq_true (by omega),decide_eq_true e]
theorem fW {es:aa}{p:Int}(h:mapB es p=true):(0<=p/\p<es.length)/\peM es p=af es p 0/\peF es p=af es p 1/\peM es p≠0:=by
 unfold mapB at h;have:=of_decide_eq_true h;have q:=x8 this;exact⟨q.1,q.2.1,q.2.2,this⟩
theorem nW {cs us es:aa}{p:Int}(m:ir cs us es)(h:mapB es p=true):0<=af es p 1/\af es p 1<cs.length:=by
 have q:=fW h;have e:=m.e p q.1.1 q.1.2;exact e.2.2.2 (by have:=q.2.1;have:=q.2.2.2;omega)
theorem R3 {cs us es:aa}{f:Int}(h:((pagesOn es f).length:Int)=0):dfC cs es f=cs.set f.toNat [.s 1 (jC 16 [.i 0])]/\dfU us es f=us.set f.toNat [.v (.bool false)]:=by
 have e:eh es f=false:=Ir (by omega);unfold dfC dfU;rw[e];exact⟨rfl,rfl⟩
theorem R4 {cs us es:aa}{f:Int}(h:¬ ((pagesOn es f).length:Int)=0):dfC cs es f=cs/\dfU us es f=us:=by
 have e:eh es f=true:=yZ.2 (by omega);unfold dfC dfU;rw[e];exact⟨rfl,rfl⟩
structure K3 where
 c:aa
 u:aa
 e:aa
def JK (a0 a1 a2:aa)(t:Int):Nat->K3
 |0=>⟨a0,a1,a2⟩
 |n+1=>⟨U7 (JK a0 a1 a2 t n).c (JK a0 a1 a2 t n).e (t+n),U9 (JK a0 a1 a2 t n).u (JK a0 a1 a2 t n).e (t+n),U8 (JK a0 a1 a2 t n).e (t+n)⟩
def U0 (a0 a1 a2:aa)(t l:Int):aa:=(JK a0 a1 a2 t l.toNat).c
def U3 (a0 a1 a2:aa)(t l:Int):aa:=(JK a0 a1 a2 t l.toNat).u
def U2 (a0 a1 a2:aa)(t l:Int):aa:=(JK a0 a1 a2 t l.toNat).e
structure Vm (a0 a1 a2:aa)(t p:Int)(c u e:aa):Prop where
 m:ir c u e
 rc:Rw [.sl [tI]] c
 ru:Rw [tB] u
 re:Rw [tI,tI] e
 l:e.length=a2.length
 ec:c=U0 a0 a1 a2 t (p-t)
 eu:u=U3 a0 a1 a2 t (p-t)
 ee:e=U2 a0 a1 a2 t (p-t)
section
variable {a0 a1 a2 c u e : aa} {t p : Int}
end
def ifR (b:Bool)(x y:aa):aa:=if b=true then x else y
end Go.V
namespace Go.V
structure VE (rs:aa):Prop where
 w:Rw [tI,tI] rs
 b:∀ i:Int,0<=i->i<rs.length->0<=af rs i 0/\af rs i 0<=64/\0<=af rs i 1/\af rs i 1<=64
theorem Q1 {o:aa}{n:Int}{b:Bool}(h:Rw [tB] o)(h0:0<=n)(h1:n<o.length):wg (.s 1 o) [(n.toNat,0)] [.v (.bool b)]=o.set n.toNat [.v (.bool b)]:=oF (by rw[h.eta h0 h1];rfl)
theorem Uf {o:aa}{n:Int}(h:Rw [tB] o)(h0:0<=n)(h1:n<o.length):∃ rec o',bL (.s 1 o) [(n.toNat,0)]=some (rec,o')/\o'+1<=rec.length:=f8 (by omega) (by rw[h.eta h0 h1];exact VJ _)
theorem KN {es:aa}{p:Int}(h:Rw [tI,tI] es)(p0:0<=p)(p1:p<es.length):∃ rec o,bL (.s 2 es) [(p.toNat,0)]=some (rec,o)/\o+2<=rec.length:=f8 (by omega) (by rw[h.eta p0 p1];exact VJ _)
section
variable {n a0 l0 i : Int} {rs o : aa} {d : Bool}
structure Vq (rs:aa)(i:Int)(o:aa)(n:Nat):Prop where
 p:UR rs i o
 n:n=o.length
 w:Rw [tI,tI] o
 b:∀ k:Int,0<=k->k<o.length->0<=af o k 0/\af o k 0<=64/\0<=af o k 1/\af o k 1<=64*i
end
end Go.V
namespace Go.V
theorem LH {a0 a1 a2 a4 a5 a6 a7 a8 a9 aA aB aD aL:aa}(h0:Rw [.sl [tI]] a0)(h1:Rw [tB] a1)(h2:Rw [tI,tI] a2)(h4:Rw [tI] a4)(h5:Rw [tI,tI] a5)(h6:Rw [tI,tI,tI] a6)(h7:Rw [tI,tI,tI] a7)(h8:Rw [tI,tI,tI,tI] a8)(h9:Rw [.sl [.sl [tI]]] a9)(h10:Rw [.sl [tI,tI]] aA)(h11:Rw [.sl [tI]] aB)(h13:Rw [tI,tI,tI] aD)(h21:Rw [tI] aL)(hs:ax [a0,a1,a2,a4,a5,a6,a7,a8,a9,aA,aB,aD,aL]<=1048576):yk a0 a1 a2 a4 a5 a6 a7 a8 a9 aA aB aD aL:=by
 obtain⟨c0,c1,c2,c4,c5,c6,c7,c8,c9,c10,c11,c13,c21⟩:=Ff hs;exact⟨h0,h1,h2,h4,h5,h6,h7,h8,h9,h10,h11,h13,h21,by omega,by omega,by omega,by omega,by omega,by omega,by omega,by omega,by omega,by omega,by omega,by omega,by omega⟩
end Go.V
namespace Go.V
section
variable {n a0 l0 : Int} {rs : aa}
end
end Go.V
namespace Go.V
section
variable {a0 a1 a2 : aa} {a3 : Int} {a4 a5 a6 a7 a8 a9 aA aB : aa} {aC : Int} {aD : aa} {aE aF aG aH : Int} {aI : Bool} {aJ aK : Int} {aL : aa} {aM aN : Int} {i : Int}
section
variable {k m : Bool} {c x y p : Int} {sp : aa}
end
end
end Go.V
namespace Go.V
theorem Lk {r0 r1 r2 r3 r4 r5 r6 r7 r8 r9 r10 r11 r12:aa}(h:yk r0 r1 r2 r3 r4 r5 r6 r7 r8 r9 r10 r11 r12):ax [r0,r1,r2,r3,r4,r5,r6,r7,r8,r9,r10,r11,r12]<=1099511627776:=by
 have c0:=h.c0;have c1:=h.c1;have c2:=h.c2;have c3:=h.c4;have c4:=h.c5;have c5:=h.c6;have c6:=h.c7;have c7:=h.c8;have c8:=h.c9;have c9:=h.c10;have c10:=h.c11;have c11:=h.c13;have c12:=h.c21;simp only[ax];omega
section
variable {a0 a1 a2 : aa} {a3 : Int} {a4 a5 a6 a7 a8 a9 aA aB : aa} {aC : Int} {aD : aa} {aE aF aG aH : Int} {aI : Bool} {aJ aK : Int} {aL : aa} {aM aN : Int} {p : Int}
end
end Go.V
namespace Go.V
end Go.V
namespace Go.V
def Va (p n s z:Int):Bool:=lgOk p n s&&inR z 9 s
structure UT (p n s z:Int):Prop where
 g:lgOk p n s=true
 zi:inR z 9 1000=true
 z0:9<=z/\z<=1000/\z<=s
 p0:0<=p
 n1:p+n<=32
 m0:1<=pfN z/\pfN z<=n
 m1:z<=pfN z*16/\pfN z*16<z+16
theorem oa {cs us es:aa}{p:Int}(m:ir cs us es)(h:peM es p≠0):0<=peF es p/\peF es p<cs.length:=by
 have q:=nW m (p:=p) (decide_eq_true h);have e:=x8 h;rw[e.2.2];exact q
def Ve (p ad:Int):Bool:=eqB (bJ .mul .i64 p 16) ad
def SJ (lg:aa)(ad j:Int):Bool:=Ve (af lg j 0) ad
def Pj (lg:aa)(ad:Int):Int:=cB (SJ lg ad) lg.length
def Ug (cs:aa)(f k:Int):Nat->aa
 |0=>cs
 |i+1=>lX (Ug cs f k i) f (k+i) 0
def Vh (cs es:aa)(a n:Int):aa:=Ug cs (peF es (a/16)) (a%16) n.toNat
structure VF (cs us es:aa)(f k i:Int)(c:aa):Prop where
 e:c=Ug cs f k i.toNat
 m:ir c us es
 w:Rw [.sl [tI]] c
section
variable {cs us es c : aa} {f k i p : Int}
end
end Go.V
namespace Go.V
def Nn (a7:aa)(ad:Int):Int:=af a7 (Pj a7 ad) 0
def Uh (a7:aa)(ad:Int):Int:=af a7 (Pj a7 ad) 1
def UN (a7:aa)(ad:Int):Int:=af a7 (Pj a7 ad) 2
def UM (a0 a2 a7:aa)(ad z:Int):aa:=Vh a0 a2 (Nn a7 ad*16+z) ((16- (Nn a7 ad*16+z)%16)%16)
section
variable {a0 a1 a2 : aa} {a3 : Int} {a4 a5 a6 a7 a8 a9 aA aB : aa} {aC : Int} {aD : aa} {aE aF aG aH : Int} {aI : Bool} {aJ aK : Int} {aL : aa} {aM aN ad z k : Int}
structure VH (a1 a2 a5 a7 a8 a0:aa)(ad z:Int):Prop where
 k0:0<=Pj a7 ad
 k1:Pj a7 ad<a7.length
 p:Nn a7 ad*16=ad
 t:UT (Nn a7 ad) (Uh a7 ad) (UN a7 ad) z
 b:Va (Nn a7 ad) (Uh a7 ad) (UN a7 ad) z=true
 o0:0<=obI a8 ad
 o1:obI a8 ad<a8.length
 m:ir a0 a1 a2
 g:∀ q:Int,Nn a7 ad<=q->q<Nn a7 ad+Uh a7 ad->peM a2 q≠0
 f:a5.length<=32
 d:ir (UM a0 a2 a7 ad z) a1 a2
 dw:Rw [.sl [tI]] (UM a0 a2 a7 ad z)
end
end Go.V
namespace Go.V
section
variable {a0 a1 a2 a5 a7 a8 c : aa} {ad z x : Int}
end
end Go.V
namespace Go.V
section
variable {a0 a1 a2 : aa} {a3 : Int} {a4 a5 a6 a7 a8 a9 aA aB : aa} {aC : Int} {aD : aa} {aE aF aG aH : Int} {aI : Bool} {aJ aK : Int} {aL : aa} {aM aN ad z : Int}
end
end Go.V
namespace Go.V
def c1N (c:Int):Int:=c+1
def nhR (rs:aa)(c:Int):Bool:= !hasB rs c
def kqN (k:Bool)(c:Int):Int:=if k=true then c+1 else c
def kqE (k:Bool)(es:aa)(c:Int)(rs:aa)(p m:Int):aa:=if k=true then kpE es c rs p m else es
def kqB (k:Bool)(es:aa)(c:Int)(rs:aa)(p m:Int):Bool:=k&&kpB es c rs p m
def krC (k:Bool)(cs es:aa)(c:Int)(rs:aa)(p q:Int):aa:=if k=true then koC cs es c rs p q else cs
def krU (k:Bool)(us es:aa)(c:Int)(rs:aa)(p q:Int):aa:=if k=true then koU us es c rs p q else us
def krE (k:Bool)(es:aa)(c:Int)(rs:aa)(p q:Int):aa:=if k=true then koE es c rs p q else es
def krB (k:Bool)(es:aa)(c:Int)(rs:aa)(p q:Int):Bool:=k&&koB es c rs p q
section
variable {cs us es rs : aa} {c p q m : Int}
theorem Mp (h:nhR rs c=false):kpB es c rs p m=false:=by unfold nhR at h;unfold kpB;rw[h];rfl
theorem O9 (h:mapB es p=false):kpB es c rs p m=false:=by unfold mapB at h;unfold kpB;rw[h];simp
theorem Ka (h:peM es p=0):kpB es c rs p m=false:=O9 (decide_eq_false (fun n=>n h))
theorem Mq (h:¬ (m=1\/m=2)):kpB es c rs p m=false:=by
 unfold kpB;rw[decide_eq_false (p:=m=1) (fun e=>h (.inl e)),decide_eq_false (p:=m=2) (fun e=>h (.inr e))];simp
theorem Mr (h:nhR rs c=true)(g:mapB es p=true)(w:m=1\/m=2):kpB es c rs p m=true:=by
 unfold nhR at h;unfold mapB at g;unfold kpB;rw[h,g];rcases w with rfl|rfl<;>simp
theorem Pb (h:kpB es c rs p m=true):kpE es c rs p m=oA es p m (peF es p):=by unfold kpE;rw[if_pos h]
theorem Ek (h:kpB es c rs p m=false):kpE es c rs p m=es:=by unfold kpE;rw[h];rfl
theorem Mj (h:nhR rs c=false):koB es c rs p q=false:=by unfold nhR at h;unfold koB;rw[h];rfl
theorem Mk (h:mapB es p=false):koB es c rs p q=false:=by unfold mapB at h;unfold koB;rw[h];simp
theorem Ml (h:mapB es q=false):koB es c rs p q=false:=by unfold mapB at h;unfold koB;rw[h];simp
theorem Mm (h:p=q):koB es c rs p q=false:=by unfold koB;rw[decide_eq_false (p:=p≠q) (fun n=>n h)];simp
theorem Mn (h:nhR rs c=true)(g:mapB es p=true)(w:mapB es q=true)(n:p≠q):koB es c rs p q=true:=by
 unfold nhR at h;unfold mapB at g w;unfold koB;rw[h,g,w,decide_eq_true n];rfl
theorem O8 (h:koB es c rs p q=true):koC cs es c rs p q=dfC cs (oA es p 2 (peF es q)) (peF es p)/\koU us es c rs p q=dfU us (oA es p 2 (peF es q)) (peF es p)/\koE es c rs p q=oA es p 2 (peF es q):=by
 unfold koC koU koE;rw[if_pos h,if_pos h,if_pos h];exact⟨rfl,rfl,rfl⟩
theorem AK (h:koB es c rs p q=false):koC cs es c rs p q=cs/\koU us es c rs p q=us/\koE es c rs p q=es:=by
 unfold koC koU koE;rw[h];exact⟨rfl,rfl,rfl⟩
theorem KJ {f:Int}(h:Rw [tI,tI] es)(p0:0<=p)(p1:p<es.length):wg (.s 2 es) [(p.toNat,0)] [.i m,.i f]=oA es p m f:=by
 unfold oA;exact oF (by rw[h.eta p0 p1];rfl)
theorem QT (h:Rw [tI,tI] es)(p0:0<=p)(p1:p<es.length)(e:peF es p=af es p 1):wg (.s 2 es) [(p.toNat,0)] [.i m]=oA es p m (peF es p):=by
 rw[Q2 h p0 p1,e];rfl
end
theorem iJ {b x e b' x' e' r r':aa}{c c':Int}{z z':Bool}(h1:b=b')(h2:x=x')(h3:e=e')(h4:c=c')(h5:r=r')(h6:z=z'):[DV.agg [.s 1 b,.s 1 x,.s 2 e,.i c,.s 1 r],DV.k z]=[DV.agg [.s 1 b',.s 1 x',.s 2 e',.i c',.s 1 r'],DV.k z']:=by rw[h1,h2,h3,h4,h5,h6]
end Go.V
namespace Go.V
def kcB (es:aa)(p q:Int)(xs:aa):Bool:=mapB es p&&(mapB es q&&inR (af xs 0 0) 0 15)
def kcC (cs es:aa)(p q:Int)(xs:aa):aa:=if kcB es p q xs=true then lX cs (peF es q) (af xs 0 0) (af (aO cs (peF es p) 0) (af xs 0 0) 0)else cs
def kdC (k:Bool)(cs es:aa)(p q:Int)(xs:aa):aa:=if k=true then kcC cs es p q xs else cs
def kdB (k:Bool)(es:aa)(p q:Int)(xs:aa):Bool:=k&&kcB es p q xs
structure Jq (cs es:aa)(p q:Int)(xs:aa)(i:Int)(d:aa):Prop where
 z:i=0->d=cs
 o:0<i->inR (af xs 0 0) 0 15=true/\d=lX cs (peF es q) (af xs 0 0) (af (aO cs (peF es p) 0) (af xs 0 0) 0)
section
variable {cs us es xs d : aa} {p q i : Int}
theorem J8 :Jq cs es p q xs 0 cs:=⟨fun _=>rfl,fun h=>absurd h (by omega)⟩
theorem J9 (h:Jq cs es p q xs i d)(i0:0<=i)(i1:i<1)(c:inR (af xs i 0) 0 15=true):Jq cs es p q xs (i+1) (lX d (peF es q) (af xs i 0) (af (aO cs (peF es p) 0) (af xs i 0) 0)):=by
 obtain rfl:i=0:=by omega
 refine⟨fun e=>absurd e (by omega),fun _=>⟨c,?_⟩⟩;rw[h.z rfl]
theorem Mc (h:mapB es p=false):kcB es p q xs=false:=by unfold kcB;rw[h];rfl
theorem Md (h:mapB es q=false):kcB es p q xs=false:=by unfold kcB;rw[h];simp
theorem Me (h:inR (af xs 0 0) 0 15=false):kcB es p q xs=false:=by unfold kcB;rw[h];simp
theorem Mf (h:mapB es p=true)(g:mapB es q=true)(k:Jq cs es p q xs i d)(i1:1<=i):kcB es p q xs=true/\d=kcC cs es p q xs:=by
 have o:=k.o (by omega);have b:kcB es p q xs=true:=by unfold kcB;rw[h,g,o.1];rfl
 exact⟨b,by unfold kcC;rw[if_pos b];exact o.2⟩
theorem Ej (h:kcB es p q xs=false):kcC cs es p q xs=cs:=by unfold kcC;rw[h];rfl
theorem Fx {T:aa}{w p:Int}(h:Rw [.sl [tI]] T)(h0:0<=w)(h1:w<T.length)(p0:0<=p)(p1:p<(aO T w 0).length):bL (.s 1 T) [(w.toNat,0),(p.toNat,0)]=some ([.i (af (aO T w 0) p 0)],0):=by
 have hr:Rw [tI] (aO T w 0):=Rw.sub (fs:=[.sl [tI]]) h (by omega) rfl;show(match T[w.toNat]? with
  | some rec=>match rec[0]? with
    |some l=>bL l [(p.toNat,0)]
    |none=>none
  |none=>none)=_
 rw[HK h h0 h1];show(((aO T w 0)[p.toNat]?).map (·,0))=_;have e:(aO T w 0).getD p.toNat []=[.i (af (aO T w 0) p 0)]:=hr.eta p0 p1;rw[If,IN (by omega)]at e;rw[IN (by omega)];have e2:(aO T w 0)[p.toNat]=[.i (af (aO T w 0) p 0)]:=by simpa using e
 rw[e2];rfl
theorem Qg {T:aa}{w p:Int}(h:Rw [.sl [tI]] T)(h0:0<=w)(h1:w<T.length)(p0:0<=p)(p1:p<(aO T w 0).length):EN (.s 1 T) [(w.toNat,0),(p.toNat,0)]=af (aO T w 0) p 0:=by
 unfold EN BR;rw[Fx h h0 h1 p0 p1];rfl
theorem S9 {T:aa}{w p:Int}(h:Rw [.sl [tI]] T)(h0:0<=w)(h1:w<T.length)(p0:0<=p)(p1:p<(aO T w 0).length):∃ rec o,bL (.s 1 T) [(w.toNat,0),(p.toNat,0)]=some (rec,o)/\o+[L.v (Wg Wx 0)].length<=rec.length/\Yv [L.v (Wg Wx 0)].length (Yw o rec)=je ah (.s 1 T) [(w.toNat,0),(p.toNat,0)] 0 [L.v (Wg Wx 0)]:=by
 refine⟨_,_,Fx h h0 h1 p0 p1,VJ _,?_⟩;show[L.i (af (aO T w 0) p 0)]=[L.i (EN (.s 1 T) [(w.toNat,0),(p.toNat,0)])];rw[Qg h h0 h1 p0 p1]
theorem SQ (m:ir cs us es):ir (kcC cs es p q xs) us es:=by
 unfold kcC;by_cases b:kcB es p q xs=true
 ·rw[if_pos b];unfold kcB mapB at b;simp only[AI,decide_eq_true_eq]at b;have x:=bH.1 b.2.2;have f:=oa m b.1;have c:=m.c (peF es p) (af xs 0 0) f.1 f.2 x.1 (by omega);exact KL m b.2.1 rfl x.1 (by omega) c.1 c.2.1
 ·rw[if_neg b];exact m
end
end Go.V
namespace Go.V
def NX (xs:aa)(n:Int):aa:=[[.i (af xs n 0)]]
def ifN (b:Bool)(x y:Int):Int:=if b=true then x else y
def jmB (k:Bool)(es:aa)(kp mv:Int)(xs:aa)(ph nx:Int):Bool:=k&&(jbOk kp mv xs ph nx&&(mapB es kp&&(mapB es mv&& !decide (peF es kp=peF es mv))))
def jsC (cs us es:aa)(c:Int)(rs:aa)(kp mv:Int)(xs:aa)(ph nx:Int):aa:=
 if ph=1 then(if nx=xs.length then cs else kcC cs es mv kp (NX xs nx))else if ph=2 then koC cs es c rs mv kp else if ph=3/\0<nx then stC cs us es (kp*16+af xs (nx-1) 0) 0 else cs
def jsU (us es:aa)(c:Int)(rs:aa)(kp mv ph:Int):aa:=if ph=2 then koU us es c rs mv kp else us
def jsE (es:aa)(c:Int)(rs:aa)(kp mv ph nx:Int):aa:=
 if ph=0 then kpE es c rs mv 1 else if ph=2 then koE es c rs mv kp else if ph=3/\¬ 0<nx then kpE es c rs mv 2 else es
def jsN (c ph nx:Int):Int:=if ph=0\/ph=2\/(ph=3/\¬ 0<nx)then c+1 else c
def jsP (es:aa)(c:Int)(rs:aa)(kp mv:Int)(xs:aa)(ph nx:Int):Int:=
 if ph=0 then(if kpB es c rs mv 1=true then 1 else 5)else if ph=1 then(if nx=xs.length then 2 else 1)else if ph=2 then(if koB es c rs mv kp=true then 4 else 3)else
 if ph=3 then(if¬ 0<nx/\kpB es c rs mv 2=true then 5 else 3)else ph
def jsX (xs:aa)(ph nx:Int):Int:=if ph=1/\nx≠xs.length then nx+1 else if ph=3/\0<nx then nx-1 else nx
section
variable {cs us es rs xs : aa} {c kp mv ph nx : Int} {k : Bool}
theorem O3 (h:k=false):jmB k es kp mv xs ph nx=false:=by unfold jmB;rw[h];rfl
theorem O4 (h:jbOk kp mv xs ph nx=false):jmB k es kp mv xs ph nx=false:=by unfold jmB;rw[h];simp
theorem O5 (h:mapB es kp=false):jmB k es kp mv xs ph nx=false:=by unfold jmB;rw[h];simp
theorem O6 (h:mapB es mv=false):jmB k es kp mv xs ph nx=false:=by unfold jmB;rw[h];simp
theorem SL (h:peF es kp=peF es mv):jmB k es kp mv xs ph nx=false:=by unfold jmB;rw[decide_eq_true h];simp
theorem SO (h1:k=true)(h2:jbOk kp mv xs ph nx=true)(h3:mapB es kp=true)(h4:mapB es mv=true)(h5:peF es kp≠peF es mv):jmB k es kp mv xs ph nx=true:=by
 unfold jmB;rw[h1,h2,h3,h4,decide_eq_false h5];rfl
theorem FP (h:jmB k es kp mv xs ph nx=true):k=true/\jbOk kp mv xs ph nx=true/\mapB es kp=true/\mapB es mv=true/\peF es kp≠peF es mv:=by
 unfold jmB at h;simp only[AI,Bool.not_eq_true',decide_eq_false_iff_not]at h;exact h
structure NC (kp mv:Int)(xs:aa)(ph nx:Int):Prop where
 k0:0<=kp
 k1:kp<=31
 m0:0<=mv
 m1:mv<=31
 p0:0<=ph
 p1:ph<=5
 n0:0<=nx
 n1:nx<=xs.length
 x:∀ i:Int,0<=i->i<xs.length->0<=af xs i 0/\af xs i 0<=15
theorem RN (h:jbOk kp mv xs ph nx=true):NC kp mv xs ph nx:=by
 unfold jbOk plOk at h;simp only[AI,decide_eq_true_eq]at h;obtain⟨⟨ha,hk,hm,_⟩,hp,hn⟩:=h;have a:=bH.1 hk;have b:=bH.1 hm;have d:=bH.1 hp;have e:=bH.1 hn;refine⟨a.1,a.2,b.1,b.2,d.1,d.2,e.1,e.2,fun i i0 i1=>?_⟩;have q:=cS.1 ha i i0 i1;unfold Ew at q;simp only[AI]at q;exact bH.1 q.1
theorem FQ (h:ph=0):jsC cs us es c rs kp mv xs ph nx=cs/\jsU us es c rs kp mv ph=us/\jsE es c rs kp mv ph nx=kpE es c rs mv 1/\jsN c ph nx=c+1/\jsX xs ph nx=nx:=by
 subst h;unfold jsC jsU jsE jsN jsX;refine⟨?_,?_,?_,?_,?_⟩<;>simp
theorem J5 (h:ph=0)(g:kpB es c rs mv 1=true):jsP es c rs kp mv xs ph nx=1:=by subst h;unfold jsP;simp[g]
theorem J4 (h:ph=0)(g:kpB es c rs mv 1=false):jsP es c rs kp mv xs ph nx=5:=by subst h;unfold jsP;simp[g]
theorem FR (h:ph=1)(g:nx=xs.length):jsC cs us es c rs kp mv xs ph nx=cs/\jsU us es c rs kp mv ph=us/\jsE es c rs kp mv ph nx=es/\jsN c ph nx=c/\jsX xs ph nx=nx/\jsP es c rs kp mv xs ph nx=2:=by
 subst h;unfold jsC jsU jsE jsN jsX jsP;refine⟨?_,?_,?_,?_,?_,?_⟩<;>simp[g]
theorem AG (h:ph=1)(g:nx≠xs.length):jsC cs us es c rs kp mv xs ph nx=kcC cs es mv kp (NX xs nx)/\jsU us es c rs kp mv ph=us/\jsE es c rs kp mv ph nx=es/\jsN c ph nx=c/\jsX xs ph nx=nx+1/\jsP es c rs kp mv xs ph nx=1:=by
 subst h;unfold jsC jsU jsE jsN jsX jsP;refine⟨?_,?_,?_,?_,?_,?_⟩<;>simp[g]
theorem FT (h:ph=2):jsC cs us es c rs kp mv xs ph nx=koC cs es c rs mv kp/\jsU us es c rs kp mv ph=koU us es c rs mv kp/\jsE es c rs kp mv ph nx=koE es c rs mv kp/\jsN c ph nx=c+1/\jsX xs ph nx=nx:=by
 subst h;unfold jsC jsU jsE jsN jsX;refine⟨?_,?_,?_,?_,?_⟩<;>simp
theorem J7 (h:ph=2)(g:koB es c rs mv kp=true):jsP es c rs kp mv xs ph nx=4:=by subst h;unfold jsP;simp[g]
theorem J6 (h:ph=2)(g:koB es c rs mv kp=false):jsP es c rs kp mv xs ph nx=3:=by subst h;unfold jsP;simp[g]
theorem xQ (h:ph=3)(g:0<nx):jsC cs us es c rs kp mv xs ph nx=stC cs us es (kp*16+af xs (nx-1) 0) 0/\jsU us es c rs kp mv ph=us/\jsE es c rs kp mv ph nx=es/\jsN c ph nx=c/\jsX xs ph nx=nx-1/\jsP es c rs kp mv xs ph nx=3:=by
 subst h;unfold jsC jsU jsE jsN jsX jsP;refine⟨?_,?_,?_,?_,?_,?_⟩<;>simp[g]
theorem lV (h:ph=3)(g:¬ 0<nx):jsC cs us es c rs kp mv xs ph nx=cs/\jsU us es c rs kp mv ph=us/\jsE es c rs kp mv ph nx=kpE es c rs mv 2/\jsN c ph nx=c+1/\jsX xs ph nx=nx:=by
 subst h;unfold jsC jsU jsE jsN jsX;refine⟨?_,?_,?_,?_,?_⟩<;>simp[g]
theorem FU (h:ph=3)(g:¬ 0<nx)(b:kpB es c rs mv 2=true):jsP es c rs kp mv xs ph nx=5:=by subst h;unfold jsP;simp[g,b]
theorem AH (h:ph=3)(b:kpB es c rs mv 2=false):jsP es c rs kp mv xs ph nx=3:=by subst h;unfold jsP;simp[b]
theorem Ma (h0:ph≠0)(h1:ph≠1)(h2:ph≠2)(h3:ph≠3):jsC cs us es c rs kp mv xs ph nx=cs/\jsU us es c rs kp mv ph=us/\jsE es c rs kp mv ph nx=es/\jsN c ph nx=c/\jsX xs ph nx=nx/\jsP es c rs kp mv xs ph nx=ph:=by
 unfold jsC jsU jsE jsN jsX jsP;refine⟨?_,?_,?_,?_,?_,?_⟩<;>simp[h0,h1,h2,h3]
theorem KR {a b:Nat}(h:Rw [tI] xs)(n0:0<=nx)(n1:nx<xs.length)(ea:a=nx.toNat)(eb:b=1):zA xs a b=NX xs nx:=by
 subst ea eb;unfold zA NX;have e:xs.getD nx.toNat []=[.i (af xs nx 0)]:=h.eta n0 n1;apply List.ext_getElem?;intro i;rw[VV,List.getElem?_drop];rw[If,IN (by omega)]at e;by_cases q:i=0
 ·subst q;rw[if_pos (by omega),Nat.add_zero,IN (by omega)]
  simpa using e
 ·rw[if_neg (by omega),Wb (by simp only[V9,Wy];omega)]
theorem KS (h:Rw [tI] xs)(n0:0<=nx)(n1:nx<xs.length):Rw [tI] (NX xs nx):=by
 rw[<-KR h n0 n1 rfl rfl];exact⟨by have:=h.1;unfold zA;simp only[VK,List.length_drop];omega,fun e he=>h.2 e (List.mem_of_mem_drop (List.mem_of_mem_take he))⟩
theorem iI {b x e b' x' e' r r':aa}{d d' p p' n n':Int}{y:aa}(h1:b=b')(h2:x=x')(h3:e=e')(h4:d=d')(h5:r=r')(h6:p=p')(h7:n=n'):
 [DV.agg [.s 1 b,.s 1 x,.s 2 e,.i d,.s 1 r],DV.agg [.i kp,.i mv,.s 1 y,.i p,.i n]]=
 [DV.agg [.s 1 b',.s 1 x',.s 2 e',.i d',.s 1 r'],DV.agg [.i kp,.i mv,.s 1 y,.i p',.i n']]:=by rw[h1,h2,h3,h4,h5,h6,h7]
theorem QV {a v:Int}(m:ir cs us es):ir (stC cs us es a v) us es:=by
 unfold stC;by_cases h:stK cs us es a v=0
 ·rw[if_pos h];have nz:smM cs us es a≠0:=fun e=>by rw[(Bb e).1]at h;exact absurd h (by decide)
  have ok:=A8 nz;have y:=mC (a:=a) ok.1;have z:=jn (es:=es) (a:=a) (by omega);rw[y.1,z.1]at nz;rw[y.2,z.2.1];have v1:inR v 0 999=true:=by
   cases q:inR v 0 999 with
   |true=>rfl
   | false=>
     unfold stK at h;rw[q]at h;split at h
     ·cases h
     ·split at h
      ·cases h
      ·rw[if_neg (by decide)]at h;cases h
  have w:=bH.1 v1;exact KL m nz rfl (by omega) (by omega) w.1 w.2
 ·rw[if_neg h];exact m
theorem SP (m:ir cs us es)(j:NC kp mv xs ph nx):ir (jsC cs us es c rs kp mv xs ph nx) (jsU us es c rs kp mv ph) (jsE es c rs kp mv ph nx):=by
 by_cases h0:ph=0
 ·have q:=FQ (cs:=cs) (us:=us) (es:=es) (c:=c) (rs:=rs) (kp:=kp) (mv:=mv) (xs:=xs) (nx:=nx) h0;rw[q.1,q.2.1,q.2.2.1];exact Pd m
 by_cases h1:ph=1
 ·by_cases g:nx=xs.length
  ·have q:=FR (cs:=cs) (us:=us) (es:=es) (c:=c) (rs:=rs) (kp:=kp) (mv:=mv) h1 g;rw[q.1,q.2.1,q.2.2.1];exact m
  ·have q:=AG (cs:=cs) (us:=us) (es:=es) (c:=c) (rs:=rs) (kp:=kp) (mv:=mv) h1 g;rw[q.1,q.2.1,q.2.2.1];exact SQ m
 by_cases h2:ph=2
 ·have q:=FT (cs:=cs) (us:=us) (es:=es) (c:=c) (rs:=rs) (kp:=kp) (mv:=mv) (xs:=xs) (nx:=nx) h2;rw[q.1,q.2.1,q.2.2.1];exact SU m
 by_cases h3:ph=3
 ·by_cases g:0<nx
  ·have q:=xQ (cs:=cs) (us:=us) (es:=es) (c:=c) (rs:=rs) (kp:=kp) (mv:=mv) (xs:=xs) h3 g;rw[q.1,q.2.1,q.2.2.1];exact QV m
  ·have q:=lV (cs:=cs) (us:=us) (es:=es) (c:=c) (rs:=rs) (kp:=kp) (mv:=mv) (xs:=xs) h3 g;rw[q.1,q.2.1,q.2.2.1];exact Pd m
 have q:=Ma (cs:=cs) (us:=us) (es:=es) (c:=c) (rs:=rs) (kp:=kp) (mv:=mv) (xs:=xs) (nx:=nx) h0 h1 h2 h3;rw[q.1,q.2.1,q.2.2.1];exact m
theorem Mo {p m:Int}(h:ir cs us es)(we:Rw [tI,tI] es)(m0: -9223372036854775808<=m/\m<=9223372036854775807):Rw [tI,tI] (kpE es c rs p m):=by
 unfold kpE;split
 ·rename_i g;unfold kpB at g;simp only[AI,decide_eq_true_eq]at g;have f:=oa h g.2.1;have n:=h.n1;exact IR we m0 (by omega)
 ·exact we
theorem Mh {p q:Int}(h:ir cs us es)(we:Rw [tI,tI] es):Rw [tI,tI] (koE es c rs p q):=by
 unfold koE;split
 ·rename_i g;unfold koB at g;simp only[AI,decide_eq_true_eq]at g;have f:=oa h g.2.2.1;have n:=h.n1;exact IR we (by omega) (by omega)
 ·exact we
theorem Mg {p q:Int}(wc:Rw [.sl [tI]] cs):Rw [.sl [tI]] (koC cs es c rs p q):=by
 unfold koC;split
 ·exact TP wc
 ·exact wc
theorem Mi {p q:Int}(wu:Rw [tB] us):Rw [tB] (koU us es c rs p q):=by
 unfold koU;split
 ·exact TQ wu
 ·exact wu
theorem Mb {p q:Int}{y:aa}(h:ir cs us es)(wc:Rw [.sl [tI]] cs):Rw [.sl [tI]] (kcC cs es p q y):=by
 unfold kcC;split
 ·rename_i g;unfold kcB mapB at g;simp only[AI,decide_eq_true_eq]at g;have x:=bH.1 g.2.2;have f:=oa h g.1;have d:=oa h g.2.1;have e:=h.c (peF es p) (af y 0 0) f.1 f.2 x.1 (by omega);exact Ba wc d.1 d.2 (by omega)
 ·exact wc
theorem O7 (m:ir cs us es)(wc:Rw [.sl [tI]] cs)(wu:Rw [tB] us)(we:Rw [tI,tI] es):Rw [.sl [tI]] (jsC cs us es c rs kp mv xs ph nx)/\Rw [tB] (jsU us es c rs kp mv ph)/\Rw [tI,tI] (jsE es c rs kp mv ph nx):=by
 unfold jsC jsU jsE;refine⟨?_,?_,?_⟩
 ·repeat' split
  all_goals first|exact wc|exact Mb m wc|exact Mg wc|exact Nk wc (by omega)
 ·split
  ·exact Mi wu
  ·exact wu
 ·repeat' split
  all_goals first|exact we|exact Mo m we (by omega)|exact Mh m we
def od (ph:Int):Bool:=decide (ph=4)||decide (ph=5)
theorem SX {p m:Int}(h:k=true):kqE k es c rs p m=kpE es c rs p m:=by subst h;rfl
theorem SY (h:k=true):kqN k c=c+1:=by subst h;rfl
theorem SV {p m:Int}(h:k=true):kqB k es c rs p m=kpB es c rs p m:=by subst h;rfl
theorem S5 {p q:Int}(h:k=true):krC k cs es c rs p q=koC cs es c rs p q:=by subst h;rfl
theorem S7 {p q:Int}(h:k=true):krU k us es c rs p q=koU us es c rs p q:=by subst h;rfl
theorem S6 {p q:Int}(h:k=true):krE k es c rs p q=koE es c rs p q:=by subst h;rfl
theorem SZ {p q:Int}(h:k=true):krB k es c rs p q=koB es c rs p q:=by subst h;rfl
theorem SR {p q:Int}{y:aa}(h:k=true):kdC k cs es p q y=kcC cs es p q y:=by subst h;rfl
end
end Go.V
namespace Go.V
def msB (k:Bool)(c:Int)(me:Bool):Bool:=k&&(decide (c<=99000)&&me)
def zb (a0 a1 a2:aa)(a3:Int)(a4:aa)(aJ aK:Int)(aL:aa)(aM aN:Int):Bool:=jmB (ccB a0 a1 a2 a3 a4) a2 aJ aK aL aM aN
def Ix (a0 a1 a2:aa)(a3:Int)(a4:aa)(aJ aK:Int)(aL:aa)(aM aN:Int):Int:=ifN (zb a0 a1 a2 a3 a4 aJ aK aL aM aN) (jsP a2 a3 a4 aJ aK aL aM aN) aM
def Tt (a0 a1 a2:aa)(a3:Int)(a4:aa)(aJ aK:Int)(aL:aa)(aM aN:Int):Int:=ifN (zb a0 a1 a2 a3 a4 aJ aK aL aM aN) (jsX aL aM aN) aN
def mcC (g:Bool)(a0 a1 a2:aa)(a3:Int)(a4:aa)(aJ aK:Int)(aL:aa)(aM aN:Int):aa:=ifR (g&&zb a0 a1 a2 a3 a4 aJ aK aL aM aN) (jsC a0 a1 a2 a3 a4 aJ aK aL aM aN) a0
def mcU (g:Bool)(a0 a1 a2:aa)(a3:Int)(a4:aa)(aJ aK:Int)(aL:aa)(aM aN:Int):aa:=ifR (g&&zb a0 a1 a2 a3 a4 aJ aK aL aM aN) (jsU a1 a2 a3 a4 aJ aK aM) a1
def mcE (g:Bool)(a0 a1 a2:aa)(a3:Int)(a4:aa)(aJ aK:Int)(aL:aa)(aM aN:Int):aa:=ifR (g&&zb a0 a1 a2 a3 a4 aJ aK aL aM aN) (jsE a2 a3 a4 aJ aK aM aN) a2
def mcN (g:Bool)(a0 a1 a2:aa)(a3:Int)(a4:aa)(aJ aK:Int)(aL:aa)(aM aN:Int):Int:=ifN (g&&zb a0 a1 a2 a3 a4 aJ aK aL aM aN) (jsN a3 aM aN) a3
def moB (g:Bool)(a0 a1 a2:aa)(a3:Int)(a4:aa)(aJ aK:Int)(aL:aa)(aM aN:Int):Bool:=g&&od (Ix a0 a1 a2 a3 a4 aJ aK aL aM aN)
def meB (o me:Bool):Bool:= !o&&me
section
variable {a0 a1 a2 : aa} {a3 : Int} {a4 a5 a6 a7 a8 a9 aA aB : aa} {aC : Int} {aD : aa} {aJ aK : Int} {aL : aa} {aM aN : Int} {g : Bool}
theorem Kl (h:yk a0 a1 a2 a4 a5 a6 a7 a8 a9 aA aB aD aL){o:Bool}:
 yk (mcC g a0 a1 a2 a3 a4 aJ aK aL aM aN) (mcU g a0 a1 a2 a3 a4 aJ aK aL aM aN) (mcE g a0 a1 a2 a3 a4 aJ aK aL aM aN) a4 a5 a6 a7 a8 a9 aA aB aD (ifR o [] aL):=by
 have h21:Rw [tI] (ifR o [] aL)/\ag (ifR o [] aL)<=1073741824:=by
  cases o with
  |true=>exact⟨Rw.nil,No _⟩
  |false=>exact⟨h.r21,h.c21⟩
 unfold mcC mcU mcE;cases q:(g&&zb a0 a1 a2 a3 a4 aJ aK aL aM aN)with
 |false=>exact⟨h.r0,h.r1,h.r2,h.r4,h.r5,h.r6,h.r7,h.r8,h.r9,h.r10,h.r11,h.r13,h21.1,h.c0,h.c1,h.c2,h.c4,h.c5,h.c6,h.c7,h.c8,h.c9,h.c10,h.c11,h.c13,h21.2⟩
 | true=>
   simp only[AI]at q;have j:=FP q.2;have m:=(uZ (xx j.1).2).1;have J:=RN j.2.1;have w:=O7 (c:=a3) (rs:=a4) (kp:=aJ) (mv:=aK) (xs:=aL) (ph:=aM) (nx:=aN) m h.r0 h.r1 h.r2;have n:=Dr (SP (c:=a3) (rs:=a4) m J) w.1 w.2.1 w.2.2;exact⟨w.1,w.2.1,w.2.2,h.r4,h.r5,h.r6,h.r7,h.r8,h.r9,h.r10,h.r11,h.r13,h21.1,Xe n.1 (by decide),Xe n.2.1 (by decide),Xe n.2.2 (by decide),h.c4,h.c5,h.c6,h.c7,h.c8,h.c9,h.c10,h.c11,h.c13,h21.2⟩
end
end Go.V
namespace Go.V
def mphN (g:Bool)(a0 a1 a2:aa)(a3:Int)(a4:aa)(aJ aK:Int)(aL:aa)(aM aN:Int):Int:=ifN g (Ix a0 a1 a2 a3 a4 aJ aK aL aM aN) aM
def mqhN (g:Bool)(a0 a1 a2:aa)(a3:Int)(a4:aa)(aJ aK:Int)(aL:aa)(aM aN:Int):Int:=ifN g (Tt a0 a1 a2 a3 a4 aJ aK aL aM aN) aN
def mdB (z:Int):Bool:=decide (z=4)
section
variable {a0 a1 a2 : aa} {a3 : Int} {a4 : aa} {aJ aK : Int} {aL : aa} {aM aN : Int} {g k me j : Bool} {c x y : Int} {u v : aa}
theorem Km :msB k c false=false:=by unfold msB;simp
theorem Kn (h:99000<c):msB k c me=false:=by unfold msB;rw[decide_eq_false (p:=c<=99000) (by omega)];simp
theorem Ko (h:k=false):msB k c me=false:=by unfold msB;rw[h];rfl
theorem Dt (h:k=true)(q:c<=99000)(m:me=true):msB k c me=true:=by unfold msB;rw[h,decide_eq_true q,m];rfl
theorem Tx (h:x≠4)(q:x≠5):od x=false:=by unfold od;rw[decide_eq_false h,decide_eq_false q];rfl
end
end Go.V
namespace Go.V
section
variable {es rs xs : aa} {c kp mv ph nx : Int} {k : Bool}
theorem PM {p:Int}(h:peM es p=0):mapB es p=false:=by unfold mapB;exact decide_eq_false (fun n=>n h)
theorem PN {p:Int}(h:peM es p≠0):mapB es p=true:=by unfold mapB;exact decide_eq_true h
theorem SN (h1:k=true)(h2:jbOk kp mv xs ph nx=true)(h3:mapB es kp=true)(h4:mapB es mv=true):co .neq (peF es kp) (peF es mv)=jmB k es kp mv xs ph nx:=by
 unfold jmB;rw[h1,h2,h3,h4];by_cases e:peF es kp=peF es mv
 ·rw[decide_eq_true e,e];simp[co]
 ·rw[decide_eq_false e];simp[co,e]
theorem Uk :[[L.i (af xs nx 0)]]=NX xs nx:=rfl
theorem Tv (h:ph=4):true=od ph:=by subst h;rfl
theorem Tw (h:ph≠4):co .eql ph 5=od ph:=by unfold od;rw[decide_eq_false h];rfl
end
section
variable {a0 a1 a2 : aa} {a3 : Int} {a4 : aa} {aJ aK : Int} {aL : aa} {aM aN : Int}
theorem PG :jmB (ccB a0 a1 a2 a3 a4) a2 aJ aK aL aM aN=zb a0 a1 a2 a3 a4 aJ aK aL aM aN:=rfl
theorem PU :ifN (zb a0 a1 a2 a3 a4 aJ aK aL aM aN) (jsP a2 a3 a4 aJ aK aL aM aN) aM=Ix a0 a1 a2 a3 a4 aJ aK aL aM aN:=rfl
theorem Tp (h:Ix a0 a1 a2 a3 a4 aJ aK aL aM aN=4):moB true a0 a1 a2 a3 a4 aJ aK aL aM aN=true:=by unfold moB;rw[h];rfl
theorem Tq (h:Ix a0 a1 a2 a3 a4 aJ aK aL aM aN=5):moB true a0 a1 a2 a3 a4 aJ aK aL aM aN=true:=by unfold moB;rw[h];rfl
theorem Ts (h:Ix a0 a1 a2 a3 a4 aJ aK aL aM aN≠4)(g:Ix a0 a1 a2 a3 a4 aJ aK aL aM aN≠5):moB true a0 a1 a2 a3 a4 aJ aK aL aM aN=false:=by unfold moB;rw[Tx h g];rfl
theorem Tj (h:zb a0 a1 a2 a3 a4 aJ aK aL aM aN=true):mcC true a0 a1 a2 a3 a4 aJ aK aL aM aN=jsC a0 a1 a2 a3 a4 aJ aK aL aM aN/\mcU true a0 a1 a2 a3 a4 aJ aK aL aM aN=jsU a1 a2 a3 a4 aJ aK aM/\mcE true a0 a1 a2 a3 a4 aJ aK aL aM aN=jsE a2 a3 a4 aJ aK aM aN/\mcN true a0 a1 a2 a3 a4 aJ aK aL aM aN=jsN a3 aM aN/\mphN true a0 a1 a2 a3 a4 aJ aK aL aM aN=jsP a2 a3 a4 aJ aK aL aM aN/\mqhN true a0 a1 a2 a3 a4 aJ aK aL aM aN=jsX aL aM aN/\moB true a0 a1 a2 a3 a4 aJ aK aL aM aN=od (jsP a2 a3 a4 aJ aK aL aM aN):=by
 unfold mcC mcU mcE mcN mphN mqhN moB Ix Tt;rw[h];exact⟨rfl,rfl,rfl,rfl,rfl,rfl,rfl⟩
theorem Ti (h:zb a0 a1 a2 a3 a4 aJ aK aL aM aN=false):mcC true a0 a1 a2 a3 a4 aJ aK aL aM aN=a0/\mcU true a0 a1 a2 a3 a4 aJ aK aL aM aN=a1/\mcE true a0 a1 a2 a3 a4 aJ aK aL aM aN=a2/\mcN true a0 a1 a2 a3 a4 aJ aK aL aM aN=a3/\mphN true a0 a1 a2 a3 a4 aJ aK aL aM aN=aM/\mqhN true a0 a1 a2 a3 a4 aJ aK aL aM aN=aN/\moB true a0 a1 a2 a3 a4 aJ aK aL aM aN=od aM:=by
 unfold mcC mcU mcE mcN mphN mqhN moB Ix Tt;rw[h];exact⟨rfl,rfl,rfl,rfl,rfl,rfl,rfl⟩
end
end Go.V