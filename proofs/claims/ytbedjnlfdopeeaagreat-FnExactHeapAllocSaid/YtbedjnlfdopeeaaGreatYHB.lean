/- Plain facts. -/
import Derived.Test.YtbedjnlfdopeeaaGreatYW2
import Derived.Test.YtbedjnlfdopeeaaGreatYW1
set_option linter.all false
open Go
open BitVec renaming ofInt->ZU,ofInt_natCast->WP,toNat_ofNat->WQ
open Bool renaming and_eq_true->Zc,or_eq_true->Z7,and_false->Z8,true_and->YF,not_eq_true->Y0,or_true->WN,eq_iff_iff->WO
open Int renaming mul_nonneg->XG,mul_le_mul_of_nonneg_right->Xc,toNat_of_nonneg->Zq,add_mul->WG,ediv_nonneg->X8,eq_ofNat_of_zero_le->Z4,mul_comm->Wc,le_refl->Ye,toNat_natCast->Zx,toNat->YQ,one_mul->Wa,add_zero->YR,not_le->Xw
open IntKind renaming i64->Zz,wrap->YP,i64->Za
open IntWalk renaming i64_in->Xp
open List renaming length_map->YY,mem_append->Zg,length_append->Zd,append_assoc->Zj,length_cons->Zp,length_nil->Zs,mem_cons->Zn,mem_singleton->Yd,nodup_append->Zw,nodup_nil->ZR,mem_range->Yc,mergeSort_perm->WH,getD_eq_getElem?_getD->Zr,take_append_drop->ZL,mem_map->ZQ,getElem_mem->Xs,getElem?_eq_getElem->Zu,mem_iff_getElem->Wd,take->Yo,drop->Yz,length_take->Zk,count_eq_zero->WJ,take_length->Yu,drop_eq_getElem_cons->XJ,take_of_length_le->Yn,nodup_iff_count->WL,count_pos_iff->WM,mem_of_getElem?->ZC,not_mem_nil->YG,replicate->ZV,length_set->ZO,getElem_of_mem->Wb,length_drop->Zt,mem_of_mem_take->Xu,mem_of_mem_drop->Xv,getElem?_append_right->ZJ
open List.Nodup renaming length_le_of_subset->WI
open List.Pairwise renaming nil->VD,imp₂->VE
open Nat renaming zero_le->Zh,lt_trichotomy->XH,le_refl->Ze,le_trans->ZM,not_lt_zero->XI
open Option.some renaming inj->YA
open Value renaming int->Zm
namespace Go.V
def E0 (sp:af)(i:Int):Nat->List Int
 |0=>[]
 |n+1=>E0 sp i n++(if hsB (ah sp i 2) n then[aaI (ah sp i 0) (ah sp i 1) (ah sp i 2) n]else[])
def DL (sp:af):Nat->List Int
 |0=>[]
 |n+1=>DL sp n++E0 sp n (slN (ah sp n 1)).toNat
def GG (lg:af):Nat->List Int
 |0=>[]
 |n+1=>GG lg n++[ah lg n 0*16]
def TE (sp lg:af):List Int:=DL sp sp.length++GG lg lg.length
def iaL (sp lg:af):af:=if layOk sp lg then srtL (jp (TE sp lg))else[]
theorem D7 {a b:Int}(h: -9223372036854775808<=a*b/\a*b<=9223372036854775807):bO .mul Za a b=a*b:=Xp _ h
theorem Gb {l:af}:(srtL l).length=l.length:=by unfold srtL;rw[cn,List.length_mergeSort];unfold qT;rw[YY]
def SL (l:List Int):Prop:=∀ x∈l,-1<=x/\x<=1000
theorem Is {a b:List Int}(h:SL a)(g:SL b):SL (a++b):=fun x hx=>by
 rcases Zg.1 hx with q|q;exact h x q;exact g x q
theorem Qt {x:Int}(h: -1<=x/\x<=1000):SL [x]:=fun y hy=>by simp at hy;rw[hy];exact h
theorem afV {p k b s:Int}: -1<=aaI p k b s/\aaI p k b s<=1000:=by
 unfold aaI;by_cases h:Of p k b s=true
 ·rw[VR h];unfold Of at h;simp only[Zc]at h;have t:=oz h.1;have c:=j8 t.2.2.1;have s1:=bA.1 h.2;have m0:0<=s*clsSz k:=XG (by omega) (by omega);have m1:s*clsSz k<=slN k*clsSz k:=Xc (by omega) (by omega);omega
 ·rw[VT h];omega
theorem DK {sp:af}{i k:Int}(h:0<=k):E0 sp i (k+1).toNat=E0 sp i k.toNat++(if hsB (ah sp i 2) k then[aaI (ah sp i 0) (ah sp i 1) (ah sp i 2) k]else[]):=by
 rw[show(k+1).toNat=k.toNat+1 from by omega,E0,Zq h]
theorem LJ {sp:af}{i:Int}(h:0<=i):DL sp (i+1).toNat=DL sp i.toNat++E0 sp i (slN (ah sp i 1)).toNat:=by
 rw[show(i+1).toNat=i.toNat+1 from by omega,DL,Zq h]
theorem Hk {lg:af}{i:Int}(h:0<=i):GG lg (i+1).toNat=GG lg i.toNat++[ah lg i 0*16]:=by
 rw[show(i+1).toNat=i.toNat+1 from by omega,GG,Zq h]
structure IaP (sp:af)(i:Int)(o:af):Prop where
 e:o=jp (DL sp i.toNat)
 b:SL (DL sp i.toNat)
 l:(DL sp i.toNat).length<=16*i.toNat
structure N5 (sp:af)(i k:Int)(o:af):Prop where
 e:o=jp (DL sp i.toNat++E0 sp i k.toNat)
 b:SL (DL sp i.toNat++E0 sp i k.toNat)
 l:(DL sp i.toNat).length<=16*i.toNat
 k:(E0 sp i k.toNat).length<=k.toNat
structure Qk (sp lg:af)(j:Int)(o:af):Prop where
 e:o=jp (DL sp sp.length++GG lg j.toNat)
 b:SL (DL sp sp.length++GG lg j.toNat)
 l:(DL sp sp.length++GG lg j.toNat).length<=16*sp.length+j.toNat
theorem ago {sp:af}:IaP sp 0 []:=⟨rfl,(fun x hx=>by cases hx),Zh _⟩
theorem agq {sp o:af}{i:Int}(h:IaP sp i o):N5 sp i 0 o:=
 ⟨by rw[h.e];simp[E0],by simpa[E0]using h.b,h.l,Zh _⟩
theorem TH {sp o:af}{i k:Int}(h:N5 sp i k o):o.length<=16*i.toNat+k.toNat:=by
 have l:=h.l;have m:=h.k;rw[h.e,cn,Zd];omega
theorem TJ {sp o:af}{i k:Int}(h:N5 sp i k o)(k0:0<=k)(hh:hsB (ah sp i 2) k=true):N5 sp i (k+1) (o++[[.i (aaI (ah sp i 0) (ah sp i 1) (ah sp i 2) k)]]):=by
 have m:=h.k;have e:=h.e;refine⟨?_,?_,h.l,?_⟩
 ·rw[DK k0,VR hh, <-Zj,iu, <-e];rfl
 ·rw[DK k0,VR hh, <-Zj];exact Is h.b (Qt afV)
 ·rw[DK k0,VR hh,Zd,Zp,Zs];omega
theorem acO {sp o:af}{i k:Int}(h:N5 sp i k o)(k0:0<=k)(hh:hsB (ah sp i 2) k=false):N5 sp i (k+1) o:=by
 have m:=h.k;have e:=h.e;have u:E0 sp i (k+1).toNat=E0 sp i k.toNat:=by rw[DK k0,hh];simp
 refine⟨?_,?_,h.l,?_⟩
 ·rw[u];exact e
 ·rw[u];exact h.b
 ·rw[u];omega
theorem ahh {sp lg:af}{i:Int}(hl:layOk sp lg=true)(h0:0<=i)(h1:i<sp.length):0<=slN (ah sp i 1)/\slN (ah sp i 1)<=16:=by
 have t:=oz ((L1 hl).1 i h0 h1);have c:=j8 t.2.2.1;omega
theorem TG {sp o:af}{i k:Int}(h:N5 sp i k o)(i0:0<=i)(k1:k<=slN (ah sp i 1))(k2:slN (ah sp i 1)<=k)(hs:0<=slN (ah sp i 1)/\slN (ah sp i 1)<=16):IaP sp (i+1) o:=by
 have ek:k=slN (ah sp i 1):=by omega
 have e:=h.e;have b:=h.b;have l:=h.l;have m:=h.k;rw[ek, <-LJ i0]at e b;rw[ek]at m;refine⟨e,b,?_⟩;rw[LJ i0,Zd];omega
theorem agr {sp lg o:af}{i:Int}(h:IaP sp i o)(h1:i<=sp.length)(h2:(sp.length:Int)<=i):Qk sp lg 0 o:=by
 have ei:i.toNat=sp.length:=by omega
 have e:=h.e;have b:=h.b;have l:=h.l;rw[ei]at e b l;exact⟨by rw[e];simp[GG],by simpa[GG]using b,by simpa[GG]using l⟩
theorem LM {sp lg o:af}{j:Int}(h:Qk sp lg j o):o.length<=16*sp.length+j.toNat:=by
 have l:=h.l;rw[h.e,cn];exact l
theorem agA {sp lg:af}{j:Int}(hl:layOk sp lg=true)(h0:0<=j)(h1:j<lg.length):0<=ah lg j 0/\ah lg j 0<=32:=by
 have t:=oj ((L1 hl).2.1 j h0 h1);have b:=mX t.1;omega
theorem acQ {sp lg o:af}{j:Int}(h:Qk sp lg j o)(j0:0<=j)(hb:0<=ah lg j 0/\ah lg j 0<=32):Qk sp lg (j+1) (o++[[.i (ah lg j 0*16)]]):=by
 have e:=h.e;have l:=h.l;refine⟨?_,?_,?_⟩
 ·rw[Hk j0, <-Zj,iu, <-e];rfl
 ·rw[Hk j0, <-Zj];exact Is h.b (Qt (by omega))
 ·rw[Hk j0, <-Zj,Zd,Zp,Zs];omega
theorem acP {sp lg o:af}{j:Int}(h:Qk sp lg j o)(h1:sp.length<=1073741824)(h2:j<=1073741824):Rw [tI] o/\o.length<=70368744177664:=by
 have l:=LM h;refine⟨?_,by omega⟩;have e:=h.e;have l2:=h.l;rw[e];exact vU (fun x hx=>by have:=h.b x hx;omega) (by omega)
theorem TK {sp lg o:af}{j:Int}(h:Qk sp lg j o)(j1:j<=lg.length)(j2:(lg.length:Int)<=j)(hl:layOk sp lg=true):srtL o=iaL sp lg:=by
 have ej:j.toNat=lg.length:=by omega
 have e:=h.e;rw[ej]at e;unfold iaL TE;rw[VR hl, <-e]
theorem agp {sp lg:af}(hl:layOk sp lg=false):([]:af)=iaL sp lg:=by unfold iaL;rw[hl];rfl
end Go.V
namespace Go.V
theorem yP:∀ {a b:List Int},a.Pairwise (· < ·)->b.Pairwise (· < ·)->(∀ x,x∈a↔x∈b)->a=b
 |[],[],_,_,_=>rfl
 |[],y::b,_,_,h=>by have:=(h y).2 (by simp);simp at this
 |x::a,[],_,_,h=>by have:=(h x).1 (by simp);simp at this
 | x::a,y::b,ha,hb,h=>by
   rw[List.pairwise_cons]at ha hb;have e:x=y:=by
    rcases Zn.1 ((h x).1 (by simp))with q|q;exact q
    ·rcases Zn.1 ((h y).2 (by simp))with r|r;exact r.symm
     ·have:=hb.1 x q;have:=ha.1 y r;omega
   subst e;rw[yP ha.2 hb.2 (fun z=>?_)]
   constructor
   ·intro m;rcases Zn.1 ((h z).1 (by simp[m]))with q|q
    ·have:=ha.1 z m;omega
    ·exact q
   ·intro m;rcases Zn.1 ((h z).2 (by simp[m]))with q|q
    ·have:=hb.1 z m;omega
    ·exact q
theorem rQ {sp:af}{x:Int}:∀ {n:Nat},x∈oB sp n↔∃ i:Nat,i<n/\ah sp i 0=x
 |0=>by simp[oB]
 | n+1=>by
   rw[oB,Zg,rQ,Yd]
   constructor
   ·rintro(⟨i,h,e⟩|rfl);exact⟨i,by omega,e⟩;exact⟨n,by omega,rfl⟩
   ·rintro⟨i,h,e⟩;by_cases c:i=n
    ·subst c;exact .inr e.symm
    ·exact .inl ⟨i,by omega,e⟩
theorem D5 {p x:Int}:∀ {n:Nat},x∈rT p n↔p<=x/\x<p+n
 |0=>⟨(fun h=>by cases h),(fun h=>absurd h (by omega))⟩
 | n+1=>by
   rw[rT,Zg,D5,Yd];omega
theorem uh {lg:af}{x:Int}:∀ {n:Nat},x∈oA lg n↔∃ j:Nat,j<n/\ah lg j 0<=x/\x<ah lg j 0+(ah lg j 1).toNat
 |0=>by simp[oA]
 | n+1=>by
   rw[oA,Zg,uh,D5]
   constructor
   ·rintro(⟨i,h,e⟩|h);exact⟨i,by omega,e⟩;exact⟨n,by omega,h⟩
   ·rintro⟨i,h,e⟩;by_cases c:i=n
    ·subst c;exact .inr e
    ·exact .inl ⟨i,by omega,e⟩
theorem Nk {sp:af}:∀ {n:Nat},(oB sp n).Nodup->∀ i i':Nat,i<i'->i'<n->ah sp i 0≠ah sp i' 0
 |0,_,i,i',_,h=>by omega
 | n+1,hn,i,i',h1,h2=>by
   rw[oB,Zw]at hn;by_cases c:i'=n
   ·subst c;exact hn.2.2 _ (rQ.2 ⟨i,h1,rfl⟩) _ (by simp)
   ·exact Nk hn.1 i i' h1 (by omega)
theorem L8 {lg:af}:∀ {n:Nat},(oA lg n).Nodup->∀ (j j':Nat) (x:Int),j<j'->j'<n->ah lg j 0<=x->x<ah lg j 0+(ah lg j 1).toNat->ah lg j' 0<=x->x<ah lg j' 0+(ah lg j' 1).toNat->False
 |0,_,j,j',x,_,h,_,_,_,_=>by omega
 | n+1,hn,j,j',x,h1,h2,a,b,c,d=>by
   rw[oA,Zw]at hn;by_cases e:j'=n
   ·subst e;exact hn.2.2 x (uh.2 ⟨j,h1,a,b⟩) x (D5.2 ⟨c,d⟩) rfl
   ·exact L8 hn.1 j j' x h1 (by omega) a b c d
structure LyF (sp lg:af):Prop where
 s:∀ i:Nat,i<sp.length->spOk (ah sp i 0) (ah sp i 1) (ah sp i 2)=true
 l:∀ j:Nat,j<lg.length->lgOk (ah lg j 0) (ah lg j 1) (ah lg j 2)=true
 ss:∀ i i':Nat,i<sp.length->i'<sp.length->ah sp i 0=ah sp i' 0->i=i'
 sl:∀ i j:Nat,i<sp.length->j<lg.length->ah lg j 0<=ah sp i 0->ah sp i 0<ah lg j 0+ah lg j 1->False
 ll:∀ (j j':Nat) (x:Int),j<lg.length->j'<lg.length->ah lg j 0<=x->x<ah lg j 0+ah lg j 1->ah lg j' 0<=x->x<ah lg j' 0+ah lg j' 1->j=j'
theorem lyF {sp lg:af}(h:layOk sp lg=true):LyF sp lg:=by
 obtain⟨h1,h2,h3⟩:=L1 h;unfold AO at h3;rw[Zw]at h3;have n0:∀ j:Nat,j<lg.length->((ah lg j 1).toNat:Int)=ah lg j 1:=fun j hj=>by
  have t:=oj (h2 j (by omega) (by omega));have b:=mX t.1;omega
 refine⟨fun i hi=>h1 i (by omega) (by omega),fun j hj=>h2 j (by omega) (by omega),fun i i' a b e=>?_,fun i j a b c d=>?_,fun j j' x a b c d e f=>?_⟩
 ·rcases XH i i' with q|q|q;exact absurd e (Nk h3.1 i i' q b);exact q;exact absurd e.symm (Nk h3.1 i' i q a)
 ·exact h3.2.2 _ (rQ.2 ⟨i,a,rfl⟩) _ (uh.2 ⟨j,b,c,by rw[n0 j b];exact d⟩) rfl
 ·rcases XH j j' with q|q|q;exact(L8 h3.2.1 j j' x q b c (by rw[n0 j a];exact d) e (by rw[n0 j' b];exact f)).elim;exact q;exact(L8 h3.2.1 j' j x q a e (by rw[n0 j' b];exact f) c (by rw[n0 j a];exact d)).elim
theorem qv {p k b s:Int}(h:spOk p k b=true)(h0:0<=s)(h1:s<slN k):aaI p k b s=p*16+s*clsSz k/\0<=s*clsSz k/\s*clsSz k+clsSz k<=16/\1<=clsSz k:=by
 have t:=oz h;have c:=j8 t.2.2.1;have a:Of p k b s=true:=by unfold Of;rw[h,bA.2 ⟨h0,by omega⟩];rfl
 have m0:0<=s*clsSz k:=XG h0 (by omega);have m1:(s+1)*clsSz k<=slN k*clsSz k:=Xc (by omega) (by omega);rw[WG]at m1;unfold aaI;rw[VR a];exact⟨rfl,m0,by omega,by omega⟩
theorem yy {sp:af}{i x:Int}:∀ {n:Nat},x∈E0 sp i n↔∃ k:Nat,k<n/\hsB (ah sp i 2) k=true/\x=aaI (ah sp i 0) (ah sp i 1) (ah sp i 2) k
 |0=>by simp[E0]
 | n+1=>by
   rw[E0,Zg,yy]
   constructor
   ·rintro(⟨k,h,e⟩|h);exact⟨k,by omega,e⟩
    ·by_cases c:hsB (ah sp i 2) n=true
     ·rw[VR c,Yd]at h;exact⟨n,by omega,c,h⟩
     ·rw[VT c]at h;simp at h
   ·rintro⟨k,h,c,e⟩;by_cases q:k=n
    ·subst q;rw[VR c];exact .inr (by simp[e])
    ·exact .inl ⟨k,by omega,c,e⟩
theorem yz {sp:af}{x:Int}:∀ {n:Nat},x∈DL sp n↔∃ i k:Nat,i<n/\k<(slN (ah sp i 1)).toNat/\hsB (ah sp i 2) k=true/\x=aaI (ah sp i 0) (ah sp i 1) (ah sp i 2) k
 |0=>by simp[DL]
 | n+1=>by
   rw[DL,Zg,yz,yy]
   constructor
   ·rintro(⟨i,k,h,e⟩|⟨k,h⟩);exact⟨i,k,by omega,e⟩;exact⟨n,k,by omega,h⟩
   ·rintro⟨i,k,h,e⟩;by_cases q:i=n
    ·subst q;exact .inr ⟨k,e⟩
    ·exact .inl ⟨i,k,by omega,e⟩
theorem yx {lg:af}{x:Int}:∀ {n:Nat},x∈GG lg n↔∃ j:Nat,j<n/\x=ah lg j 0*16
 |0=>by simp[GG]
 | n+1=>by
   rw[GG,Zg,yx,Yd]
   constructor
   ·rintro(⟨i,h,e⟩|h);exact⟨i,by omega,e⟩;exact⟨n,by omega,h⟩
   ·rintro⟨i,h,e⟩;by_cases q:i=n
    ·subst q;exact .inr e
    ·exact .inl ⟨i,by omega,e⟩
theorem Hl {sp:af}{i:Nat}(h:spOk (ah sp i 0) (ah sp i 1) (ah sp i 2)=true):∀ {n:Nat},n<=(slN (ah sp i 1)).toNat->(E0 sp i n).Nodup
 |0,_=>ZR
 | n+1,hn=>by
   rw[E0];by_cases c:hsB (ah sp i 2) n=true
   ·rw[VR c];refine np (Hl h (by omega)) (fun m=>?_);obtain⟨k,k1,_,k3⟩:=yy.1 m;have a:=qv (s:=(n:Int)) h (by omega) (by omega);have b:=qv (s:=(k:Int)) h (by omega) (by omega);have q:((k:Int)+1)*clsSz (ah sp i 1)<=(n:Int)*clsSz (ah sp i 1):=Xc (by omega) (by omega);rw[WG]at q;omega
   ·rw[VT c,List.append_nil];exact Hl h (by omega)
theorem LI {sp lg:af}(F:LyF sp lg):∀ {n:Nat},n<=sp.length->(DL sp n).Nodup
 |0,_=>ZR
 | n+1,hn=>by
   rw[DL,Zw];refine⟨LI F (by omega),Hl (F.s n (by omega)) (Ze _),fun x hx y hy e=>?_⟩;subst e;obtain⟨i,k,i1,k1,_,e1⟩:=yz.1 hx;obtain⟨k',k2,_,e2⟩:=yy.1 hy;have a:=qv (s:=(k:Int)) (F.s i (by omega)) (by omega) (by omega);have b:=qv (s:=(k':Int)) (F.s n (by omega)) (by omega) (by omega);have:=F.ss i n (by omega) (by omega) (by omega);omega
theorem LH {sp lg:af}(F:LyF sp lg):∀ {n:Nat},n<=lg.length->(GG lg n).Nodup
 |0,_=>ZR
 | n+1,hn=>by
   rw[GG];refine np (LH F (by omega)) (fun m=>?_);obtain⟨j,j1,e⟩:=yx.1 m;have t:=oj (F.l j (by omega));have b:=mX t.1;have t':=oj (F.l n (by omega));have b':=mX t'.1;have:=F.ll j n (ah lg j 0) (by omega) (by omega) (by omega) (by omega) (by omega) (by omega);omega
theorem TF {sp lg:af}(F:LyF sp lg):(TE sp lg).Nodup:=by
 unfold TE;rw[Zw];refine⟨LI F (Ze _),LH F (Ze _),fun x hx y hy e=>?_⟩;subst e;obtain⟨i,k,i1,k1,_,e1⟩:=yz.1 hx;obtain⟨j,j1,e2⟩:=yx.1 hy;have a:=qv (s:=(k:Int)) (F.s i (by omega)) (by omega) (by omega);have t:=oj (F.l j (by omega));have b:=mX t.1;exact F.sl i j i1 j1 (by omega) (by omega)
end Go.V
namespace Go.V
theorem lD {p:Int->Bool}{n:Nat}(h:0<=cP p n):cP p n<n/\p (cP p n)=true:=by
 refine⟨by rcases qQ (p:=p) (n:=n)with q|q<;>omega,?_⟩;unfold cP at h ⊢;split at h
 ·rename_i j e;have q:=List.find?_some e;exact q
 ·omega
theorem t6 {p:Int->Bool}{n i:Nat}(h:i<n)(hp:p i=true):0<=cP p n:=by
 unfold cP;split;omega
 ·rename_i e;rw[List.find?_eq_none]at e;exact absurd hp (e i (Yc.2 h))
theorem M8 {sp:af}{a i:Int}:Ej sp a i=true↔GJ (ah sp i 0) (ah sp i 1) (ah sp i 2) a=true:=by
 unfold Ej;rw[VQ]
 constructor
 ·intro h;cases c:GJ (ah sp i 0) (ah sp i 1) (ah sp i 2) a with
  |true=>rfl
  |false=>rw[(CR c).1]at h;omega
 ·intro h;obtain⟨h1,h2,h3⟩:=F7.1 h;have cb:=j8 (oz h1).2.2.1;rw[(AY h).1];exact X8 (by omega) (by omega)
def lvP (sp lg:af)(x:Int):Prop:=(∃ i k:Nat,i<sp.length/\k<(slN (ah sp i 1)).toNat/\hsB (ah sp i 2) k=true/\x=aaI (ah sp i 0) (ah sp i 1) (ah sp i 2) k)\/∃ j:Nat,j<lg.length/\x=ah lg j 0*16
theorem I5 {sp lg:af}{x:Int}:x∈TE sp lg↔lvP sp lg x:=by
 unfold TE lvP;rw[Zg,yz,yx]
theorem ab7 {sp lg:af}{a:Int}(h:0<=oV sp a):dnK sp lg a=(if hsB (ah sp (oV sp a) 2) (N1 sp a (oV sp a))then 1 else 2)/\dnO sp lg a=soA sp a (oV sp a):=by
 unfold dnK dnO;rw[VR h,VR h];exact⟨rfl,rfl⟩
theorem ab6 {sp lg:af}{a:Int}(h:¬ 0<=oV sp a)(g:0<=B0 lg a):dnK sp lg a=3/\dnO sp lg a=loA lg a (B0 lg a):=by
 unfold dnK dnO;rw[VT h,VT h,VR g,VR g];exact⟨rfl,rfl⟩
theorem af6 {sp lg:af}{a:Int}(h:¬ 0<=oV sp a)(g:¬ 0<=B0 lg a):dnK sp lg a=0/\dnO sp lg a=0:=by
 unfold dnK dnO;rw[VT h,VT h,VT g,VT g];exact⟨rfl,rfl⟩
theorem I0 {sp lg:af}{a:Int}(hl:layOk sp lg=true):yd sp lg a=true↔dnO sp lg a=0/\(dnK sp lg a=1\/dnK sp lg a=3):=by
 unfold yd dzO dzK;rw[VR hl,VR hl];simp only[Zc,Z7,VQ]
theorem Ri {sp lg:af}{x:Int}(F:LyF sp lg)(hl:layOk sp lg=true)(h:yd sp lg x=true):lvP sp lg x:=by
 obtain⟨h1,h2⟩:=(I0 hl).1 h;by_cases c:0<=oV sp x
 ·obtain⟨d1,d2⟩:=ab7 (lg:=lg) c;obtain⟨b,q⟩:=lD c;change oV sp x<sp.length at b;change Ej sp x (oV sp x)=true at q;rw[d1]at h2;rw[d2]at h1;generalize hF:oV sp x=f at*;obtain⟨f,rfl⟩:=Z4 c;have bf:f<sp.length:=by omega
  have q':=M8.1 q;obtain⟨a1,a2,a3⟩:=F7.1 q';obtain⟨e1,e2⟩:=AY q';have cb:=j8 (oz a1).2.2.1;have hh:hsB (ah sp f 2) (N1 sp x f)=true:=by
   cases c:hsB (ah sp f 2) (N1 sp x f)with
   |true=>rfl
   |false=>rw[c]at h2;simp at h2
  unfold soA at h1;rw[e2]at h1;unfold N1 at hh;rw[e1]at hh;have dv:clsSz (ah sp f 1)*((x-ah sp f 0*16)/clsSz (ah sp f 1))=x-ah sp f 0*16:=Int.mul_ediv_cancel_of_emod_eq_zero h1;have nn:0<=(x-ah sp f 0*16)/clsSz (ah sp f 1):=X8 (by omega) (by omega);generalize hs:(x-ah sp f 0*16)/clsSz (ah sp f 1)=s at*;have lt:s<slN (ah sp f 1):=by
   by_cases w:s<slN (ah sp f 1);exact w
   ·have m:slN (ah sp f 1)*clsSz (ah sp f 1)<=s*clsSz (ah sp f 1):=Xc (by omega) (by omega);rw[Wc s]at m;omega
  obtain⟨s,rfl⟩:=Z4 nn;have ae:=qv a1 nn lt;refine .inl ⟨f,s,bf,by omega,hh,?_⟩;have ae1:=ae.1;rw[Wc (s:Int)]at ae1;show x=aaI (ah sp f 0) (ah sp f 1) (ah sp f 2) s;rw[ae1];omega
 ·by_cases g:0<=B0 lg x
  ·obtain⟨d1,d2⟩:=ab6 c g;obtain⟨b,q⟩:=lD g;change B0 lg x<lg.length at b;change FJ lg x (B0 lg x)=true at q;rw[d2]at h1;generalize hF:B0 lg x=f at*;obtain⟨f,rfl⟩:=Z4 g;refine .inr ⟨f,by omega,?_⟩;unfold loA loI at h1;unfold FJ at q;rw[VR q]at h1;show x=ah lg f 0*16;omega
  ·obtain⟨d1,d2⟩:=af6 c g;rw[d1]at h2;omega
theorem QY {sp lg:af}{x:Int}(h:0<=oV sp x):∃ f:Nat,oV sp x=f/\f<sp.length/\GJ (ah sp f 0) (ah sp f 1) (ah sp f 2) x=true:=by
 obtain⟨b,q⟩:=lD h;obtain⟨f,e⟩:=Z4 h;refine⟨f,e,?_,?_⟩
 ·have:oV sp x<sp.length:=b;rw[e]at this;exact Int.ofNat_lt.1 this
 ·have:Ej sp x (oV sp x)=true:=q;rw[e]at this;exact M8.1 this
theorem adk {sp lg:af}{x:Int}(F:LyF sp lg)(hl:layOk sp lg=true)(h:lvP sp lg x):yd sp lg x=true:=by
 rw[I0 hl];rcases h with⟨i,k,i1,k1,hh,e⟩|⟨j,j1,e⟩
 ·have a1:=F.s i i1;have cb:=j8 (oz a1).2.2.1;have ae:=qv (s:=(k:Int)) a1 (by omega) (by omega);have sb:GJ (ah sp i 0) (ah sp i 1) (ah sp i 2) x=true:=F7.2 ⟨a1,by omega,by omega⟩;have c:0<=oV sp x:=t6 i1 (M8.2 sb);obtain⟨f,e1,f1,f2⟩:=QY (lg:=lg) c;obtain⟨_,g2,g3⟩:=F7.1 f2;have:f=i:=F.ss f i f1 i1 (by omega);subst this;obtain⟨d1,d2⟩:=ab7 (lg:=lg) c;rw[d1,d2,e1];obtain⟨y1,y2⟩:=AY sb;have xe:x-ah sp f 0*16=k*clsSz (ah sp f 1):=by omega
  unfold N1 soA;rw[y1,y2,xe,Int.mul_ediv_cancel _ (by omega),VR hh];exact⟨Int.mul_emod_left _ _,.inl rfl⟩
 ·have t:=oj (F.l j j1);have b:=mX t.1;have r:=bA.1 t.1;have c:¬ 0<=oV sp x:=fun c=>by
   obtain⟨f,e1,f1,f2⟩:=QY (lg:=lg) c;obtain⟨_,g2,g3⟩:=F7.1 f2;exact F.sl f j f1 j1 (by omega) (by omega)
  have lb:lhB (ah lg j 0) (ah lg j 1) (ah lg j 2) x=true:=aab.2 ⟨F.l j j1,by omega,by omega⟩;have g:0<=B0 lg x:=t6 j1 (show FJ lg x j=true from lb);obtain⟨d1,d2⟩:=ab6 c g;obtain⟨b1,q⟩:=lD g;change B0 lg x<lg.length at b1;change FJ lg x (B0 lg x)=true at q;rw[d1,d2];generalize hF:B0 lg x=f at*;obtain⟨f,rfl⟩:=Z4 g;have f1:f<lg.length:=by omega
  have q':lhB (ah lg f 0) (ah lg f 1) (ah lg f 2) x=true:=q;obtain⟨_,u1,u2⟩:=aab.1 q';have t2:=oj (F.l f f1);have b2:=mX t2.1;have:f=j:=F.ll f j (ah lg j 0) f1 j1 (by omega) (by omega) (by omega) (by omega);subst this;refine⟨?_,.inr rfl⟩;show loI (ah lg f 0) (ah lg f 1) (ah lg f 2) x=0;unfold loI;rw[VR lb];omega
def Rh (sp lg:af):Nat->List Int
 |0=>[]
 |n+1=>Rh sp lg n++(if yd sp lg n then[(n:Int)]else[])
theorem Az {sp lg:af}:∀ n:Nat,NZ sp lg n=jp (Rh sp lg n)
 |0=>rfl
 | n+1=>by
   rw[NZ,Rh,iu,Az n];by_cases c:yd sp lg n=true
   ·rw[VR c,VR c];rfl
   ·rw[VT c,VT c];rfl
theorem ui {sp lg:af}{x:Int}:∀ {n:Nat},x∈Rh sp lg n↔0<=x/\x<n/\yd sp lg x=true
 |0=>⟨(fun h=>by cases h),(fun h=>absurd h.2.1 (by omega))⟩
 | n+1=>by
   rw[Rh,Zg,ui]
   constructor
   ·rintro(h|h);exact⟨h.1,by omega,h.2.2⟩
    ·by_cases c:yd sp lg n=true
     ·rw[VR c,Yd]at h;subst h;exact⟨by omega,by omega,c⟩
     ·rw[VT c]at h;cases h
   ·rintro⟨h1,h2,h3⟩;by_cases q:x=n
    ·subst q;rw[VR h3];exact .inr (by simp)
    ·exact .inl ⟨h1,by omega,h3⟩
theorem HQ {sp lg:af}:∀ n:Nat,(Rh sp lg n).Pairwise (· < ·)
 |0=>VD
 | n+1=>by
   rw[Rh,List.pairwise_append];refine⟨HQ n,?_,fun a ha b hb=>?_⟩
   ·by_cases c:yd sp lg n=true
    ·rw[VR c];simp
    ·rw[VT c];simp
   ·have m:=ui.1 ha;by_cases c:yd sp lg n=true
    ·rw[VR c,Yd]at hb;omega
    ·rw[VT c]at hb;cases hb
theorem Ps {l:List Int}(h:l.Nodup):(l.mergeSort fun x y=>decide (x<=y)).Pairwise (· < ·):=by
 have p:=List.pairwise_mergeSort (le:=fun x y:Int=>decide (x<=y)) (fun a b c h1 h2=>by simp only[VQ]at*;omega) (fun a b=>by simp only[Z7,VQ];omega) l;have n:(l.mergeSort fun x y=>decide (x<=y)).Nodup:=(WH l _).nodup_iff.2 h;refine VE (R:=fun a b=>decide (a<=b)=true) (S:=(· ≠ ·)) (T:=(· < ·)) (fun a b h1 h2=>?_) p n;simp only[VQ]at h1;omega
theorem Pb {sp lg:af}:iaL sp lg=laL sp lg:=by
 unfold iaL laL;by_cases hl:layOk sp lg=true
 ·rw[VR hl,VR hl];have F:=lyF hl;unfold srtL;rw[Hs,Az];refine congrArg jp (yP (Ps (TF F)) (HQ 512) (fun x=>?_));rw[(WH _ _).mem_iff,I5,ui]
  constructor
  ·intro h;have v:=adk F hl h;refine⟨?_,?_,v⟩
   ·rcases h with⟨i,k,i1,k1,_,e⟩|⟨j,j1,e⟩
    ·have ae:=qv (s:=(k:Int)) (F.s i i1) (by omega) (by omega);have t:=oz (F.s i i1);omega
    ·have t:=oj (F.l j j1);omega
   ·rcases h with⟨i,k,i1,k1,_,e⟩|⟨j,j1,e⟩
    ·have ae:=qv (s:=(k:Int)) (F.s i i1) (by omega) (by omega);have t:=oz (F.s i i1);omega
    ·have t:=oj (F.l j j1);have b:=mX t.1;omega
  ·rintro⟨_,_,h⟩;exact Ri F hl h
 ·rw[VT hl,VT hl]
end Go.V
namespace Go.V
def B5 (qs:af)(a j:Int):Bool:=eqB (ah qs j 0) a
def qtI (qs:af)(a:Int):Int:=cP (B5 qs a) qs.length
def qtB (qs:af)(a:Int):Bool:=decide (0<=qtI qs a)
theorem aaF {qs:af}{a i:Int}(h:upto (bT (B5 qs a)) i)(h0:0<=i)(h1:i<qs.length)(e:ah qs i 0=a):qtB qs a=true:=by
 unfold qtB qtI;rw[eD h h0 h1 (wt e)];exact VO h0
theorem aej {qs:af}{a i:Int}(h:upto (bT (B5 qs a)) i)(h1:(qs.length:Int)<=i):qtB qs a=false:=by
 unfold qtB qtI;rw[eE h h1];rfl
end Go.V
namespace Go.V
structure SA (ls:af):Prop where
 w:Rw [.sl [tI]] ls
 l:ls.length<=1099511627776
 n:∀ i:Int,(ax ls i 0).length<=1099511627776
theorem SA.el {ls:af}(h:SA ls){i:Int}(h0:0<=i)(h1:i<ls.length):Rw [tI] (ax ls i 0)/\(ax ls i 0).length<=1099511627776:=
 ⟨Rw.sub (fs:=[.sl [tI]]) h.w (by omega) rfl,h.n i⟩
end Go.V
namespace Go.V
def J4 (b:af)(i k:Int):Bool:=inR (ah (ax b i 0) k 0) 0 ((b.length:Int)-1)&&decide (0<=ah (ax b i 0) k 1)
def KG (x:af)(i k:Int):Bool:=decide (0<=ah (ax x i 0) k 0)
def rOk (b x:af)(i:Int):Bool:=cI (J4 b i) (ax b i 0).length&&cI (KG x i) (ax x i 0).length
def Pg (b x:af):Nat->Int
 |0=>0
 |n+1=>Pg b x n+((ax b n 0).length+(ax x n 0).length)
def mailOk (b x:af):Bool:=inR b.length 1 4&&(decide (x.length=b.length)&&(cI (rOk b x) b.length&&decide (Pg b x b.length<=30)))
structure NU (b x:af):Prop where
 bw:Rw [.sl [tI,tI]] b
 xw:Rw [.sl [tI]] x
 bl:b.length<=1099511627776
 xl:x.length<=1099511627776
 bn:∀ i:Int,(ax b i 0).length<=1099511627776
 xn:∀ i:Int,(ax x i 0).length<=1099511627776
theorem Rn {b x:af}(h:NU b x):∀ n:Nat,0<=Pg b x n/\Pg b x n<=2199023255552*n
 |0=>⟨Ye _,Ye _⟩
 | n+1=>by
   have q:=Rn h n;have p1:=h.bn n;have p2:=h.xn n;rw[Pg];omega
structure Oa (b x:af)(i t:Int):Prop where
 ok:upto (rOk b x) i
 t:t=Pg b x i.toNat
theorem agG {b x:af}:Oa b x 0 0:=⟨bB,rfl⟩
theorem ads {b x:af}{i t:Int}(N:NU b x)(h:Oa b x i t)(i0:0<=i)(i1:i<=4):0<=t/\t<=8796093022208:=by
 have q:=Rn N i.toNat;have e:=h.t;omega
theorem adt {b x:af}{i t k j:Int}(h:Oa b x i t)(i0:0<=i)(hp:upto (J4 b i) k)(k1:((ax b i 0).length:Int)<=k)(ha:upto (KG x i) j)(j1:((ax x i 0).length:Int)<=j):Oa b x (i+1) (t+((ax b i 0).length+(ax x i 0).length)):=by
 refine⟨aV h.ok ?_,?_⟩
 ·unfold rOk;rw[bM hp k1,bM ha j1];rfl
 ·rw[show(i+1).toNat=i.toNat+1 from by omega,Pg, <-h.t,Zq i0]
theorem aan {b x:af}(h:inR b.length 1 4=false):mailOk b x=false:=by unfold mailOk;rw[h];rfl
theorem aao {b x:af}(h:(x.length:Int)≠b.length):mailOk b x=false:=by
 unfold mailOk;rw[VP (p:=x.length=b.length) (by omega)];simp
theorem Rm {b x:af}{i:Int}(i0:0<=i)(i1:i<b.length)(h:rOk b x i=false):mailOk b x=false:=by
 unfold mailOk;rw[bW i0 i1 h];simp
theorem Mn {b x:af}{i k:Int}(i0:0<=i)(i1:i<b.length)(k0:0<=k)(k1:k<(ax b i 0).length)(h:J4 b i k=false):mailOk b x=false:=
 Rm i0 i1 (by unfold rOk;rw[bW k0 k1 h];rfl)
theorem aap {b x:af}{i k:Int}(i0:0<=i)(i1:i<b.length)(k0:0<=k)(k1:k<(ax x i 0).length)(h:KG x i k=false):mailOk b x=false:=
 Rm i0 i1 (by unfold rOk;rw[bW k0 k1 h,Z8])
theorem aam {b x:af}{i t:Int}(h:Oa b x i t)(h1:inR b.length 1 4=true)(h2:(x.length:Int)=b.length)(i1:i<=b.length)(i2:(b.length:Int)<=i):mailOk b x=decide (t<=30):=by
 have e:i.toNat=b.length:=by omega
 have q:=h.t;rw[e]at q;unfold mailOk;rw[h1,VO (p:=x.length=b.length) (by omega),bM h.ok i2, <-q];rfl
theorem adP {b:af}{i k:Int}(h:inR (ah (ax b i 0) k 0) 0 ((b.length:Int)-1)=false):J4 b i k=false:=by unfold J4;rw[h];rfl
theorem adQ {b:af}{i k:Int}(h:ah (ax b i 0) k 1<0):J4 b i k=false:=by unfold J4;rw[VP (by omega),Z8]
theorem adR {b:af}{i k:Int}(h:inR (ah (ax b i 0) k 0) 0 ((b.length:Int)-1)=true)(g:0<=ah (ax b i 0) k 1):J4 b i k=true:=by unfold J4;rw[h,VO g];rfl
theorem afU {x:af}{i k:Int}(h:ah (ax x i 0) k 0<0):KG x i k=false:=by unfold KG;rw[VP (by omega)]
theorem abC {x:af}{i k:Int}(h:0<=ah (ax x i 0) k 0):KG x i k=true:=by unfold KG;rw[VO h]
end Go.V
namespace Go.V
def QR (b:af)(i:Int):Nat->af
 |0=>[]
 |n+1=>QR b i n++[[.i (ah (ax b i 0) n 1)]]
def Ln (b:af):Nat->af
 |0=>[]
 |n+1=>Ln b n++QR b n (ax b n 0).length
def NX (x:af):Nat->af
 |0=>[]
 |n+1=>NX x n++ax x n 0
def ifL (b x:af):af:=if mailOk b x then Ln b b.length++NX x x.length else[]
theorem aaq {b x:af}(h:mailOk b x=true):b.length<=4/\x.length=b.length:=by
 unfold mailOk at h;simp only[Zc,VQ,bA]at h;omega
structure Qf (b:af)(i:Int)(o:af):Prop where
 e:o=Ln b i.toNat
 l:o.length<=1099511627776*i.toNat
structure Qg (b:af)(i k:Int)(o:af):Prop where
 e:o=Ln b i.toNat++QR b i k.toNat
 l:o.length<=1099511627776*i.toNat+k.toNat
structure Qh (b x:af)(j:Int)(o:af):Prop where
 e:o=Ln b b.length++NX x j.toNat
 l:o.length<=1099511627776*b.length+1099511627776*j.toNat
theorem af8 {b:af}:Qf b 0 []:=⟨rfl,Zh _⟩
theorem af9 {b o:af}{i:Int}(h:Qf b i o):Qg b i 0 o:=⟨by rw[h.e];simp[QR],by have:=h.l;omega⟩
theorem acd {b o:af}{i k:Int}(h:Qg b i k o)(k0:0<=k):Qg b i (k+1) (o++[[.i (ah (ax b i 0) k 1)]]):=by
 have l:=h.l;have e:=h.e;refine⟨?_,?_⟩
 ·rw[show(k+1).toNat=k.toNat+1 from by omega,QR,Zq k0, <-Zj, <-e]
 ·rw[Zd,Zp,Zs];omega
theorem Ti {b o:af}{i k:Int}(h:Qg b i k o)(i0:0<=i)(hn:(ax b i 0).length<=1099511627776)(k1:k<=((ax b i 0).length:Int))(k2:((ax b i 0).length:Int)<=k):Qf b (i+1) o:=by
 have l:=h.l;have e:=h.e;have ek:k.toNat=(ax b i 0).length:=by omega
 refine⟨?_,by omega⟩;rw[show(i+1).toNat=i.toNat+1 from by omega,Ln,Zq i0, <-ek];exact e
theorem aga {b x o:af}{i:Int}(h:Qf b i o)(i1:i<=b.length)(i2:(b.length:Int)<=i):Qh b x 0 o:=by
 have l:=h.l;have e:=h.e;have ei:i.toNat=b.length:=by omega
 rw[ei]at e l;exact⟨by rw[e];simp[NX],by omega⟩
theorem acl {b x o:af}{j:Int}(h:Qh b x j o)(j0:0<=j)(hn:(ax x j 0).length<=1099511627776):Qh b x (j+1) (o++ax x j 0):=by
 have l:=h.l;have e:=h.e;refine⟨?_,?_⟩
 ·rw[show(j+1).toNat=j.toNat+1 from by omega,NX,Zq j0, <-Zj, <-e]
 ·rw[Zd];omega
theorem To {b x o:af}{j:Int}(h:Qh b x j o)(hm:mailOk b x=true)(j1:j<=x.length)(j2:(x.length:Int)<=j):o=ifL b x:=by
 have e:=h.e;rw[show j.toNat=x.length from by omega]at e;unfold ifL;rw[VR hm];exact e
theorem ags {b x:af}(hm:mailOk b x=false):([]:af)=ifL b x:=by unfold ifL;rw[hm];rfl
end Go.V
namespace Go.V
structure NsC (cs:af):Prop where
 w:Rw [.sl [.sl [tI]]] cs
 l:cs.length<=1099511627776
 n:∀ i:Int,0<=i->i<cs.length->SA (ax cs i 0)
end Go.V
namespace Go.V
theorem Cj:∀ {fs:List Ty} {e:ay} {j:Nat},cg fs e->fs[j]?=some tI->∃ n,e[j]?=some (.i n)/\ -9223372036854775808<=n/\n<=9223372036854775807
 |[],_,j,_,h=>by simp at h
 |_::_,[],j,h,_=>h.elim
 | t::ts,l::ls,0,h,e=>by
   simp at e;subst e;have h1:=h.1;cases l with
   | v x=>cases x with
     |int k n=>simp only[dJ]at h1;exact⟨n,by simp[h1.1],vI h1.2⟩
     |_=>simp[dJ]at h1
   |_=>simp[dJ]at h1
 | t::ts,l::ls,j+1,h,e=>by
   simp at e;obtain⟨n,h1,h2⟩:=Cj h.2 e;exact⟨n,by simpa using h1,h2⟩
theorem qR {fs:List Ty}{es:af}{i:Int}{j:Nat}(h:Rw fs es)(hj:fs[j]?=some tI)(h1:i.toNat<es.length): -9223372036854775808<=ah es i j/\ah es i j<=9223372036854775807:=by
 obtain⟨n,e,b⟩:=Cj (h.at h1) hj;unfold ah;rw[Zr (l:=es.getD i.toNat []),e];exact b
theorem aen {x:Int}(h: -9223372036854775808<=x/\x<=9223372036854775807):Rw [tI] [[.i x]]:=Rw.one (fs:=[tI]) ⟨⟨rfl,h⟩,trivial⟩
def obR (os:af)(f:Nat):Nat->af
 |0=>[]
 |n+1=>obR os f n++[[.i (ah os n f)]]
def clR (ls:af):Nat->af
 |0=>[]
 |n+1=>clR ls n++ax ls n 0
def ccR (cs:af):Nat->af
 |0=>[]
 |n+1=>ccR cs n++clR (ax cs n 0) (ax cs n 0).length
theorem Ao {es:af}{n j:Nat}(h:n<es.length):am (ax es n j)<=dC (es.getD n []):=by
 unfold ax;rw[Zx];generalize es.getD n []=r;cases e:r[j]? with
 |none=>rw[Zr,e];exact Zh _
 | some l=>
   rw[Zr,e];have q:=Iz e;cases l with
   |s sz es=>exact q
   |_=>exact Zh _
theorem o7 {es:af}{n:Nat}(h:n<es.length):bN (es.take (n+1))=bN (es.take n)+dC (es.getD n []):=by
 rw[fL (d:=[]) h,fO];simp[bN]
theorem Fg {es:af}{n:Nat}:bN (es.take n)<=bN es:=by
 conv=>rhs;rw[<-ZL n es,fO]
 omega
theorem t7 {b:af}{i:Int}:∀ n,(QR b i n).length=n
 |0=>rfl
 |n+1=>by rw[QR,Zd,t7 n];rfl
theorem Ms {b x:af}:∀ n:Nat,(((Ln b n).length+(NX x n).length:Nat):Int)=Pg b x n
 |0=>rfl
 | n+1=>by
   have q:=Ms (b:=b) (x:=x) n;rw[Pg,Ln,NX,Zd,Zd,t7, <-q];omega
theorem Hm {b x:af}:(ifL b x).length<=30:=by
 unfold ifL;by_cases c:mailOk b x=true
 ·rw[VR c,Zd];have t:=aaq c;unfold mailOk at c;simp only[Zc,VQ]at c;have q:=Ms (b:=b) (x:=x) b.length;rw[t.2];omega
 ·rw[VT c];exact Zh _
theorem Lq {b x:af}{i:Int}(h:NU b x)(i0:0<=i)(i1:i<b.length):∀ n,n<=(ax b i 0).length->Rw [tI] (QR b i n)
 |0,_=>Rw.nil
 | n+1,hn=>Rw.append (Lq h i0 i1 n (by omega)) (aen (qR (fs:=[tI,tI]) (Rw.sub (fs:=[.sl [tI,tI]]) h.bw (by omega) rfl) rfl (by omega))) (by
    have:=h.bn i;rw[t7];unfold maxLen;simp only[Zp,Zs];omega)
theorem Lo {b x:af}(h:NU b x)(hb:b.length<=4):∀ n,n<=b.length->Rw [tI] (Ln b n)/\(Ln b n).length<=n*1099511627776
 |0,_=>⟨Rw.nil,Zh _⟩
 | n+1,hn=>by
   obtain⟨q1,q2⟩:=Lo h hb n (by omega);have l:=h.bn n;refine⟨Rw.append q1 (Lq h (by omega) (by omega) _ (Ze _)) (by rw[t7];unfold maxLen;omega),?_⟩;rw[Ln,Zd,t7];omega
theorem Ly {b x:af}(h:NU b x)(hb:x.length<=4):∀ n,n<=x.length->Rw [tI] (NX x n)/\(NX x n).length<=n*1099511627776
 |0,_=>⟨Rw.nil,Zh _⟩
 | n+1,hn=>by
   obtain⟨q1,q2⟩:=Ly h hb n (by omega);have l:=h.xn n;refine⟨Rw.append q1 (Rw.sub (fs:=[.sl [tI]]) h.xw (by omega) rfl) (by unfold maxLen;omega),?_⟩;rw[NX,Zd];omega
theorem LN {b x:af}(h:NU b x):Rw [tI] (ifL b x):=by
 unfold ifL;by_cases c:mailOk b x=true
 ·rw[VR c];have t:=aaq c;obtain⟨q1,l1⟩:=Lo h t.1 b.length (Ze _);obtain⟨q2,l2⟩:=Ly h (by omega) x.length (Ze _);exact Rw.append q1 q2 (by unfold maxLen;omega)
 ·rw[VT c];exact Rw.nil
structure Ob (sp lg os cs b x qs:af):Prop where
 sw:Rw [tI,tI,tI] sp
 lw:Rw [tI,tI,tI] lg
 ow:Rw [tI,tI,tI,tI] os
 cw:Rw [.sl [.sl [tI]]] cs
 qw:Rw [tI,tI,tI] qs
 m:NU b x
 c:NsC cs
 sl:sp.length<=1073741824
 ll:lg.length<=1073741824
 ol:os.length<=1073741824
 ql:qs.length<=1073741824
 cl:am cs<=1073741824
structure O1P (os:af)(i:Int)(o:af):Prop where
 e:o=obR os 1 i.toNat
structure O2P (os cs:af)(i:Int)(o:af):Prop where
 e:o=obR os 1 os.length++ccR cs i.toNat
structure O3P (os cs:af)(i k:Int)(o:af):Prop where
 e:o=obR os 1 os.length++ccR cs i.toNat++clR (ax cs i 0) k.toNat
structure O4P (os cs qs:af)(j:Int)(o:af):Prop where
 e:o=obR os 1 os.length++ccR cs cs.length++obR qs 0 j.toNat
section
variable {sp lg os cs b x qs o: af} {i k j: Int}
end
def OS (e:ay):Int:=O8 (e.getD 0 .g)
theorem Cz {l:af}{a:Int}:hasB l a=true↔a∈l.map OS:=by
 rw[CB,ZQ]
 constructor
 ·rintro⟨k,hk,e⟩;refine⟨l[k],Xs _,?_⟩;rw[<-e];unfold ah OS;rw[Zx,Zr (l:=l),Zu hk];rfl
 ·rintro⟨e,he,q⟩;obtain⟨k,hk,rfl⟩:=Wd.1 he;refine⟨k,hk,?_⟩;rw[<-q];unfold ah OS;rw[Zx,Zr (l:=l),Zu hk];rfl
theorem OQ {l m:af}{a:Int}:hasB (l++m) a=(hasB l a||hasB m a):=by
 refine hE ?_;rw[Z7,Cz,Cz,Cz,List.map_append,Zg]
theorem OR {x a:Int}:hasB [[.i x]] a=true↔x=a:=by
 rw[Cz];show a∈[x]↔x=a;rw[Yd];exact⟨Eq.symm,Eq.symm⟩
theorem Cs {p:Int->Bool}{n:Nat}:0<=cP p n↔∃ k:Nat,k<n/\p k=true:=by
 constructor
 ·intro h;obtain⟨h1,h2⟩:=lD h;obtain⟨k,e⟩:=Z4 h;rw[e]at h1 h2;exact⟨k,by omega,h2⟩
 ·rintro⟨k,h1,h2⟩;exact t6 h1 h2
def flN (p:Int->Bool)(l:af):Nat->af
 |0=>[]
 |n+1=>flN p l n++(if p (ah l n 0)then[[.i (ah l n 0)]]else[])
structure ahw (p:Int->Bool)(l:af)(i:Int)(o:af):Prop where
 e:o=flN p l i.toNat
 l:o.length<=i.toNat
section
variable {p: Int -> Bool} {l o: af} {i: Int}
end
theorem LZ {sp lg:af}:(laL sp lg).length<=512:=by
 have k:∀ n,(NZ sp lg n).length<=n:=by
  intro n
  induction n with
  |zero=>exact Ze _
  |succ n ih=>rw[NZ,Zd];split<;>simp<;>omega
 unfold laL;split;exact k 512;exact Zh _
theorem ac6 {sp lg:af}:Rw [tI] (laL sp lg):=by
 unfold laL;by_cases c:layOk sp lg=true
 ·rw[VR c,Az];refine vU (fun x hx=>?_) ?_
  ·have:=ui.1 hx;omega
  ·have q:=LZ (sp:=sp) (lg:=lg);unfold laL at q;rw[VR c,Az,cn]at q;omega
 ·rw[VT c];exact Rw.nil
theorem CL {l:af}{i:Int}(h:Rw [tI] l)(h0:0<=i)(h1:i<l.length):∃ rec o,bX (L.s 1 l) [(i.toNat,0)]=some (rec,o)/\o+[L.v (Zm Zz 0)].length<=rec.length/\Yo [L.v (Zm Zz 0)].length (Yz o rec)=mH ai (L.s 1 l) [(i.toNat,0)] 0 [L.v (Zm Zz 0)]:=
 fZ (z0:=[.i 0]) (z:=[.i 0]) h.wf (by omega) rfl (by decide)
theorem oh {es:af}{i:Int}{j:Nat}:am (ax es i j)<=am es:=by
 by_cases c:i.toNat<es.length
 ·have q:=Ao (j:=j) c;rw[show ax es (i.toNat:Nat) j=ax es i j from by unfold ax;rw[Zx]]at q;have d:=o7 c;have e:=Fg (es:=es) (n:=i.toNat+1);unfold am at q ⊢;omega
 ·have e:ax es i j=[]:=by
   unfold ax;rw[Zr (l:=es),List.getElem?_eq_none (by omega)];simp[Ko]
  rw[e];exact Zh _
theorem aav {ls:af}(h:Rw [.sl [tI]] ls)(hc:am ls<=1073741824):SA ls:=by
 refine⟨h,by unfold am at hc;omega,fun i=>?_⟩;have:=oh (es:=ls) (i:=i) (j:=0);unfold am at this hc;omega
theorem aau {cs:af}(h:Rw [.sl [.sl [tI]]] cs)(hc:am cs<=1073741824):NsC cs:=by
 refine⟨h,by unfold am at hc;omega,fun i i0 i1=>aav (Rw.sub (fs:=[.sl [.sl [tI]]]) h (by omega) rfl) ?_⟩;exact ZM oh hc
theorem aaw {b x:af}(hb:Rw [.sl [tI,tI]] b)(hx:Rw [.sl [tI]] x)(cb:am b<=1073741824)(cx:am x<=1073741824):NU b x:=by
 refine⟨hb,hx,by unfold am at cb;omega,by unfold am at cx;omega,fun i=>?_,fun i=>?_⟩
 ·have:=oh (es:=b) (i:=i) (j:=0);unfold am at this cb;omega
 ·have:=oh (es:=x) (i:=i) (j:=0);unfold am at this cx;omega
end Go.V
namespace Go.V
theorem B7 {i:Int}(h:0<=i)(h1:i<=9223372036854775807):bO .sub Za i 1=i-1:=di (by omega)
theorem A1 {es:af}{i:Int}:rB es (YQ 0) (EZ i 0)=es.take i.toNat:=by simp[rB,EZ]
theorem cmp_eq {a b:Int}:dB .eql a b=decide (a=b):=by unfold dB;by_cases c:a=b<;>simp[c]
theorem Dw {a b:Int}:dB .neq a b=decide (a≠b):=by unfold dB;by_cases c:a=b<;>simp[c]
def rngIn (n a l:Int):Bool:=inR l 1 n&&inR a 0 (n-l)
def vQ (n:Int)(rs:af)(i:Int):Bool:=rngIn n (ah rs i 0) (ah rs i 1)&& !(decide (0<i)&&decide (ah rs i 0<=bO .add Za (ah rs (i-1) 0) (ah rs (i-1) 1)))
def rgOk (n:Int)(rs:af):Bool:=cI (vQ n rs) rs.length&&inR n 1 32
section
variable {n i: Int} {rs: af}
theorem aaK (i0:0<=i)(i1:i<rs.length)(h:rngIn n (ah rs i 0) (ah rs i 1)=false):rgOk n rs=false:=by
 unfold rgOk;rw[bW i0 i1 (by unfold vQ;rw[h];rfl)];rfl
theorem aaL (i0:0<=i)(i1:i<rs.length)(h:0<i)(g:ah rs i 0<=bO .add Za (ah rs (i-1) 0) (ah rs (i-1) 1)):rgOk n rs=false:=by
 unfold rgOk;rw[bW i0 i1 (by unfold vQ;rw[VO h,VO g];simp)];rfl
theorem Pz (h:rngIn n (ah rs i 0) (ah rs i 1)=true)(g:i<=0):vQ n rs i=true:=by
 unfold vQ;rw[h,VP (by omega)];rfl
theorem PC (h:rngIn n (ah rs i 0) (ah rs i 1)=true)(g:bO .add Za (ah rs (i-1) 0) (ah rs (i-1) 1)<ah rs i 0):vQ n rs i=true:=by
 unfold vQ;rw[h,VP (p:=ah rs i 0<=_) (by omega)];simp
theorem aaJ (h:upto (vQ n rs) i)(g:(rs.length:Int)<=i):inR n 1 32=rgOk n rs:=by unfold rgOk;rw[bM h g];rfl
end
def uc (rs:af)(p j:Int):Bool:=decide (ah rs j 0<=p)&&decide (p<bO .add Za (ah rs j 0) (ah rs j 1))
def rhI (rs:af)(p:Int):Int:=cP (uc rs p) rs.length
def rhB (rs:af)(p:Int):Bool:=decide (0<=rhI rs p)
def rh1 (a l p:Int):Bool:=decide (a<=p)&&decide (p<bO .add Za a l)
theorem aaM {rs:af}{p i:Int}(h:upto (bT (uc rs p)) i)(h0:0<=i)(h1:i<rs.length)(a:ah rs i 0<=p)(b:p<bO .add Za (ah rs i 0) (ah rs i 1)):rhB rs p=true:=by
 unfold rhB rhI;rw[eD h h0 h1 (by unfold uc;rw[VO a,VO b];rfl)];exact VO h0
theorem aem {rs:af}{p i:Int}(h:upto (bT (uc rs p)) i)(h1:(rs.length:Int)<=i):rhB rs p=false:=by
 unfold rhB rhI;rw[eE h h1];rfl
theorem aek {rs:af}{p i:Int}(a:p<ah rs i 0):bT (uc rs p) i=true:=by unfold bT uc;rw[VP (by omega)];rfl
theorem ael {rs:af}{p i:Int}(b:bO .add Za (ah rs i 0) (ah rs i 1)<=p):bT (uc rs p) i=true:=by unfold bT uc;rw[VP (p:=p<_) (by omega)];simp
def mshB (p1 k1 b1 p2 k2 b2:Int):Bool:=spOk p1 k1 b1&&(spOk p2 k2 b2&&(decide (k1=k2)&&(decide (p1≠p2)&&decide (bO .and Za b1 b2=0))))
def qcN (qs:af):Nat->Int
 |0=>0
 |n+1=>qcN qs n+clsSz (ah qs n 1)
def qcI (qs:af):Int:=qcN qs qs.length
theorem Ix {k:Int}:0<=clsSz k/\clsSz k<=8:=by
 unfold clsSz;repeat' split
 all_goals omega
theorem RF {qs:af}:∀ n:Nat,0<=qcN qs n/\qcN qs n<=8*n
 |0=>⟨Ye _,Ye _⟩
 |n+1=>by have q:=RF (qs:=qs) n;have c:=Ix (k:=ah qs n 1);rw[qcN];omega
structure Oc (qs:af)(i t:Int):Prop where
 e:t=qcN qs i.toNat
theorem agP {qs:af}:Oc qs 0 0:=⟨rfl⟩
theorem agQ {qs:af}{i t:Int}(h:Oc qs i t)(i0:0<=i):0<=t/\t<=8*i:=by have q:=RF (qs:=qs) i.toNat;rw[<-h.e]at q;omega
theorem aec {qs:af}{i t:Int}(h:Oc qs i t)(i0:0<=i)(i1:i<=1099511627776):Oc qs (i+1) (bO .add Za t (clsSz (ah qs i 1))):=by
 have b:=agQ h i0;have c:=Ix (k:=ah qs i 1);refine⟨?_⟩;rw[show bO .add Za t (clsSz (ah qs i 1))=t+clsSz (ah qs i 1)from bF (by omega),show(i+1).toNat=i.toNat+1 from by omega,qcN, <-h.e,Zq i0]
theorem aaE {qs:af}{i t:Int}(h:Oc qs i t)(i1:i<=qs.length)(i2:(qs.length:Int)<=i):t=qcI qs:=by unfold qcI;rw[h.e,show i.toNat=qs.length from by omega]
def stlOk (b:af)(a c s:Int):Bool:=inR c 0 3&&(decide (0<=a)&&(decide (0<=s)&&(!qtB b a&&(decide (b.length=0)||decide (ah b (b.length-1:Int) 2<=s)))))
def FW (qs:af)(i:Int):Bool:=stlOk (qs.take i.toNat) (ah qs i 0) (ah qs i 1) (ah qs i 2)
def quarOk (rm:Int)(qs:af):Bool:=cI (FW qs) qs.length&&(inR rm 0 500&&decide (qcI qs<=rm))
def staB (a c s:Int):Bool:=inR c 0 3&&(decide (0<=a)&&decide (0<=s))
theorem yu {es:af}{n:Nat}{i:Int}{j:Nat}(h:i.toNat<n):ah (es.take n) i j=ah es i j:=by
 unfold ah;rw[Zr (l:=es.take n),List.getElem?_take,VR h,Zr (l:=es)]
section
variable {rm i: Int} {qs: af}
theorem Jn (i0:0<=i)(i1:i<qs.length)(h:FW qs i=false):quarOk rm qs=false:=by unfold quarOk;rw[bW i0 i1 h];rfl
theorem MX (h:upto (FW qs) i)(g:(qs.length:Int)<=i):quarOk rm qs=(inR rm 0 500&&decide (qcI qs<=rm)):=by unfold quarOk;rw[bM h g];rfl
theorem ad7 (h:staB (ah qs i 0) (ah qs i 1) (ah qs i 2)=false):FW qs i=false:=by
 unfold FW stlOk;unfold staB at h
 revert h
 cases inR (ah qs i 1) 0 3<;>cases decide (0<=ah qs i 0)<;>cases decide (0<=ah qs i 2)<;>simp
theorem Jm (i0:0<i)(i1:i<qs.length):(decide ((qs.take i.toNat).length=0)||decide (ah (qs.take i.toNat) ((qs.take i.toNat).length-1:Int) 2<=ah qs i 2))=decide (ah qs (i-1) 2<=ah qs i 2):=by
 have e:(qs.take i.toNat).length=i.toNat:=by rw[Zk];omega
 rw[e,yu (by omega),VP (p:=i.toNat=0) (by omega),show((i.toNat:Nat):Int)-1=i-1 from by omega];rfl
theorem ad8 (i0:0<i)(i1:i<qs.length)(h:ah qs i 2<ah qs (i-1) 2):FW qs i=false:=by
 unfold FW stlOk;rw[Jm i0 i1,VP (p:=ah qs (i-1) 2<=ah qs i 2) (by omega)];simp
theorem ad9 (h:qtB (qs.take i.toNat) (ah qs i 0)=true):FW qs i=false:=by unfold FW stlOk;rw[h];simp
theorem aea (h:staB (ah qs i 0) (ah qs i 1) (ah qs i 2)=true)(g:qtB (qs.take i.toNat) (ah qs i 0)=false)(i0:0<=i)(z:i<=0):FW qs i=true:=by
 unfold FW stlOk;unfold staB at h;simp only[Zc]at h;have e:i=0:=by omega
 subst e;rw[h.1,h.2.1,h.2.2,g];rfl
theorem aeb (h:staB (ah qs i 0) (ah qs i 1) (ah qs i 2)=true)(g:qtB (qs.take i.toNat) (ah qs i 0)=false)(i0:0<i)(i1:i<qs.length)(z:ah qs (i-1) 2<=ah qs i 2):FW qs i=true:=by
 unfold FW stlOk;unfold staB at h;simp only[Zc]at h;rw[Jm i0 i1,h.1,h.2.1,h.2.2,g,VO z];rfl
end
def ym (ls:af)(i:Int):Nat->List Int
 |0=>[]
 |n+1=>ym ls i n++[ah (ax ls i 0) n 0]
def yo (ls:af):Nat->List Int
 |0=>[]
 |n+1=>yo ls n++ym ls n (ax ls n 0).length
def Oy (ls:af)(i k:Int):Bool:=inR (ah (ax ls i 0) k 0) 0 511&&decide (bO .rem Za (ah (ax ls i 0) k 0) (clsSz i)=0)
def Ox (ls:af)(i:Int):Bool:=decide ((ax ls i 0).length<=8)&&cI (Oy ls i) (ax ls i 0).length
def caOk (ls:af):Bool:=decide (ls.length=4)&&(cI (Ox ls) 4&&decide ((yo ls 4).Nodup))
theorem yn {ls:af}{i:Int}:∀ n,(ym ls i n).length=n
 |0=>rfl
 |n+1=>by rw[ym,Zd,yn n];rfl
theorem Iu {ls:af}{i:Int}:∀ (m n:Nat),n<=m->∃ r,ym ls i m=ym ls i n++r
 |0,n,h=>⟨[],by rw[show n=0 from by omega];rfl⟩
 | m+1,n,h=>by
   by_cases c:n=m+1
   ·subst c;exact⟨[],by simp⟩
   ·obtain⟨r,e⟩:=Iu (ls:=ls) (i:=i) m n (by omega);exact⟨r++[ah (ax ls i 0) m 0],by rw[ym,e,Zj]⟩
theorem Iv {ls:af}:∀ (m n:Nat),n<=m->∃ r,yo ls m=yo ls n++r
 |0,n,h=>⟨[],by rw[show n=0 from by omega];rfl⟩
 | m+1,n,h=>by
   by_cases c:n=m+1
   ·subst c;exact⟨[],by simp⟩
   ·obtain⟨r,e⟩:=Iv (ls:=ls) m n (by omega);exact⟨r++ym ls m (ax ls m 0).length,by rw[yo,e,Zj]⟩
theorem Ac {ls:af}{i k:Int}(h:0<=k):ym ls i (k+1).toNat=ym ls i k.toNat++[ah (ax ls i 0) k 0]:=by
 rw[show(k+1).toNat=k.toNat+1 from by omega,ym,Zq h]
theorem Ad {ls:af}{i:Int}(h:0<=i):yo ls (i+1).toNat=yo ls i.toNat++ym ls i (ax ls i 0).length:=by
 rw[show(i+1).toNat=i.toNat+1 from by omega,yo,Zq h]
structure Si (ls:af)(i:Int):Prop where
 ok:upto (Ox ls) i
 nd:(yo ls i.toNat).Nodup
 l:i<=4
 b:∀ x∈yo ls i.toNat,0<=x/\x<=511
 n:(yo ls i.toNat).length<=8*i.toNat
structure CbP (ls:af)(i k:Int):Prop where
 ok:upto (Ox ls) i
 nd:(yo ls i.toNat++ym ls i k.toNat).Nodup
 l:i<=3
 s:(ax ls i 0).length<=8
 bk:upto (Oy ls i) k
 b:∀ x∈yo ls i.toNat++ym ls i k.toNat,0<=x/\x<=511
 n:(yo ls i.toNat).length<=8*i.toNat
section
variable {ls: af} {i k: Int}
theorem abN:Si ls 0:=⟨bB,ZR,by omega,(fun x hx=>by cases hx),Zh _⟩
theorem abP (h:Si ls i)(i0:0<=i)(c:inR i 0 3=true)(s:(ax ls i 0).length<=8):CbP ls i 0:=
 ⟨h.ok,by simpa[ym]using h.nd,(bA.1 c).2,s,bB,by simpa[ym]using h.b,h.n⟩
theorem QA (h:CbP ls i k)(k0:0<=k)(h1:inR (ah (ax ls i 0) k 0) 0 511=true)(h2:bO .rem Za (ah (ax ls i 0) k 0) (clsSz i)=0)(h3:ah (ax ls i 0) k 0∉yo ls i.toNat++ym ls i k.toNat):CbP ls i (k+1):=by
 refine⟨h.ok,?_,h.l,h.s,aV h.bk (by unfold Oy;rw[h1,VO h2];rfl),?_,h.n⟩
 ·rw[Ac k0, <-Zj];exact np h.nd h3
 ·rw[Ac k0, <-Zj];intro x hx;rcases Zg.1 hx with q|q;exact h.b x q
  ·simp at q;subst q;exact bA.1 h1
theorem Qx (h:CbP ls i k)(i0:0<=i)(k1:k<=((ax ls i 0).length:Int))(k2:((ax ls i 0).length:Int)<=k):Si ls (i+1):=by
 have e:k.toNat=(ax ls i 0).length:=by omega
 have nd:=h.nd;have b:=h.b;have n:=h.n;have s:=h.s;have l:=h.l;rw[e, <-Ad i0]at nd b;refine⟨aV h.ok (by unfold Ox;rw[VO h.s,bM h.bk k2];rfl),nd,by omega,b,?_⟩;rw[Ad i0,Zd,yn];omega
theorem Dt (h:(ls.length:Int)≠4):caOk ls=false:=by unfold caOk;rw[VP (by omega)];rfl
theorem Qw (i0:0<=i)(l:i<=3)(h:Ox ls i=false):caOk ls=false:=by unfold caOk;rw[bW (n:=4) i0 (by omega) h];simp
theorem K1 (i0:0<=i)(h:8<(ax ls i 0).length)(l:i<=3):caOk ls=false:=Qw i0 l (by unfold Ox;rw[VP (by omega)];rfl)
theorem Du (i0:0<=i)(l:i<=3)(k0:0<=k)(k1:k<(ax ls i 0).length)(h:Oy ls i k=false):caOk ls=false:=Qw i0 l (by unfold Ox;rw[bW k0 k1 h,Z8])
theorem Qy (h:inR (ah (ax ls i 0) k 0) 0 511=false):Oy ls i k=false:=by unfold Oy;rw[h];rfl
theorem Qz (h:bO .rem Za (ah (ax ls i 0) k 0) (clsSz i)≠0):Oy ls i k=false:=by unfold Oy;rw[VP h,Z8]
theorem K0 (i0:0<=i)(l:i<=3)(k0:0<=k)(k1:k<(ax ls i 0).length)(h:ah (ax ls i 0) k 0∈yo ls i.toNat++ym ls i k.toNat):caOk ls=false:=by
 obtain⟨r,e⟩:=Iv (ls:=ls) 4 (i+1).toNat (by omega);obtain⟨r2,e2⟩:=Iu (ls:=ls) (i:=i) (ax ls i 0).length (k+1).toNat (by omega);rw[Ad i0,e2,Ac k0]at e;have:¬ (yo ls 4).Nodup:=dup (a:=yo ls i.toNat++ym ls i k.toNat) (b:=r2++r) (x:=ah (ax ls i 0) k 0) (by rw[e];simp only[Zj];rfl) h;unfold caOk;rw[VP this];simp
theorem K2 (h:Si ls i)(h1:(ls.length:Int)=4)(i2:4<=i):caOk ls=true:=by
 have l:=h.l;have e:i=4:=by omega
 subst e;unfold caOk;rw[VO (by omega),bM h.ok (by omega),VO (p:=(yo ls 4).Nodup) h.nd];rfl
theorem SR (h:Si ls i)(i1:i<=ls.length)(i2:(ls.length:Int)<=i):decide ((ls.length:Int)=4)=caOk ls:=by
 by_cases c:(ls.length:Int)=4
 ·rw[K2 h c (by omega)];exact VO c
 ·rw[Dt c];exact VP c
end
structure ScP (ls:af)(i:Int)(o:af):Prop where
 p:Si ls i
 e:o=jp (yo ls i.toNat)
structure Qr (ls:af)(i k:Int)(o:af):Prop where
 p:CbP ls i k
 e:o=jp (yo ls i.toNat++ym ls i k.toNat)
structure GN (ls:af)(i:Int)(es:af):Prop where
 p:Si ls i
 s:sq es (yo ls i.toNat)
structure GO (ls:af)(i k:Int)(es:af):Prop where
 p:CbP ls i k
 s:sq es (yo ls i.toNat++ym ls i k.toNat)
section
variable {ls o es: af} {i k: Int}
theorem ahe:ScP ls 0 []:=⟨abN,rfl⟩
theorem ahg (h:ScP ls i o)(i0:0<=i)(i1:i<4)(s:(ax ls i 0).length<=8):Qr ls i 0 o:=⟨abP h.p i0 (bA.2 (by omega)) s,by rw[h.e];simp[ym]⟩
theorem aeB (h:Qr ls i k o)(k0:0<=k)(h1:inR (ah (ax ls i 0) k 0) 0 511=true)(h2:bO .rem Za (ah (ax ls i 0) k 0) (clsSz i)=0)(h3:hasB o (ah (ax ls i 0) k 0)=false):Qr ls i (k+1) (o++[[.i (ah (ax ls i 0) k 0)]]):=by
 have e:=h.e;rw[e]at h3;refine⟨QA h.p k0 h1 h2 (yv h3),?_⟩;rw[Ac k0, <-Zj,iu, <-e];rfl
theorem aeA (h:Qr ls i k o)(i0:0<=i)(k1:k<=((ax ls i 0).length:Int))(k2:((ax ls i 0).length:Int)<=k):ScP ls (i+1) o:=
 ⟨Qx h.p i0 k1 k2,by rw[Ad i0,h.e,show k.toNat=(ax ls i 0).length from by omega]⟩
theorem aaP (h:Qr ls i k o)(i0:0<=i)(k0:0<=k)(k1:k<(ax ls i 0).length)(h3:hasB o (ah (ax ls i 0) k 0)=true):caOk ls=false:=by
 rw[h.e,rL]at h3;exact K0 i0 h.p.l k0 k1 h3
theorem aaQ (h:Qr ls i k o)(k0:0<=k):o.length<=40+k.toNat/\Rw [tI] o:=by
 have n:=h.p.n;have l:=h.p.l;have s:=h.p.s;have q:o.length<=40+k.toNat:=by rw[h.e,cn,Zd,yn];omega
 refine⟨q,?_⟩;rw[h.e];have nd:=h.p.nd;refine vU (fun x hx=>by have:=h.p.b x hx;omega) ?_;rw[<-cn, <-h.e];have bd:k.toNat<=512\/512<k.toNat:=by omega
 rcases bd with bd|bd;omega
 ·exfalso;have c:=WI (l₁:=yo ls i.toNat++ym ls i k.toNat) (l₂:=(List.range 512).map fun j:Nat=>(j:Int)) nd (fun x hx=>by
   have b:=h.p.b x hx;rw[ZQ];exact⟨x.toNat,Yc.2 (by omega),by omega⟩)
  rw[Zd,yn,YY,List.length_range]at c;omega
theorem acR:GN ls 0 []:=⟨abN,HV⟩
theorem acS (h:GN ls i es)(i0:0<=i)(c:inR i 0 3=true)(s:(ax ls i 0).length<=8):GO ls i 0 es:=⟨abP h.p i0 c s,by simpa[ym]using h.s⟩
theorem TM (h:GO ls i k es)(k0:0<=k)(h1:inR (ah (ax ls i 0) k 0) 0 511=true)(h2:bO .rem Za (ah (ax ls i 0) k 0) (clsSz i)=0)(h3:mgbI es (ah (ax ls i 0) k 0)=false):GO ls i (k+1) (oW es (ah (ax ls i 0) k 0) (.v (.bool true))):=by
 refine⟨QA h.p k0 h1 h2 (fun m=>by rw[(h.s.at_ _).2 m]at h3;cases h3),?_⟩;rw[Ac k0, <-Zj];exact yE h.s
theorem TL (h:GO ls i k es)(i0:0<=i)(k1:k<=((ax ls i 0).length:Int))(k2:((ax ls i 0).length:Int)<=k):GN ls (i+1) es:=
 ⟨Qx h.p i0 k1 k2,by have s:=h.s;rw[show k.toNat=(ax ls i 0).length from by omega]at s;rw[Ad i0];exact s⟩
theorem OX (h:GO ls i k es)(i0:0<=i)(k0:0<=k)(k1:k<(ax ls i 0).length)(h3:mgbI es (ah (ax ls i 0) k 0)=true):caOk ls=false:=K0 i0 h.p.l k0 k1 ((h.s.at_ _).1 h3)
theorem OV (h:GN ls i es)(i0:0<=i)(s:8<(ax ls i 0).length)(i1:i<ls.length):caOk ls=false:=by
 by_cases c:(ls.length:Int)=4;exact K1 i0 s (by omega);exact Dt c
theorem OW (h:GN ls i es)(i0:0<=i)(c:inR i 0 3=false)(i1:i<ls.length):caOk ls=false:=by
 have:=Ar.1 c;exact Dt (by omega)
end
def Kr (cs:af)(i:Int):Bool:=inR (ah cs i 0) 0 15&& !(decide (0<i)&&decide (ah cs i 0<=ah cs (i-1) 0))
def plOk (k m:Int)(cs:af):Bool:=cI (Kr cs) cs.length&&(inR k 0 31&&(inR m 0 31&&decide (k≠m)))
def jbOk (k m:Int)(cs:af)(ph nx:Int):Bool:=plOk k m cs&&(inR ph 0 5&&inR nx 0 cs.length)
section
variable {k m i: Int} {cs: af}
theorem MS (i0:0<=i)(i1:i<cs.length)(h:inR (ah cs i 0) 0 15=false):plOk k m cs=false:=by
 unfold plOk;rw[bW i0 i1 (by unfold Kr;rw[h];rfl)];rfl
theorem MU (i0:0<=i)(i1:i<cs.length)(h:0<i)(g:ah cs i 0<=ah cs (i-1) 0):plOk k m cs=false:=by
 unfold plOk;rw[bW i0 i1 (by unfold Kr;rw[VO h,VO g];simp)];rfl
theorem Ji (h:inR (ah cs i 0) 0 15=true)(g:i<=0):Kr cs i=true:=by unfold Kr;rw[h,VP (by omega)];rfl
theorem Jj (h:inR (ah cs i 0) 0 15=true)(g:ah cs (i-1) 0<ah cs i 0):Kr cs i=true:=by
 unfold Kr;rw[h,VP (p:=ah cs i 0<=_) (by omega)];simp
theorem Ee (h:upto (Kr cs) i)(g:(cs.length:Int)<=i):plOk k m cs=(inR k 0 31&&(inR m 0 31&&decide (k≠m))):=by unfold plOk;rw[bM h g];rfl
end
end Go.V
namespace Go.V
theorem QK {sp lg:af}{a:Int}(h:layOk sp lg=true):dzK sp lg a=dnK sp lg a:=by unfold dzK;rw[VR h]
theorem QL {sp lg:af}{a:Int}(h:layOk sp lg=true):dzI sp lg a=dnI sp lg a:=by unfold dzI;rw[VR h]
theorem QM {sp lg:af}{a:Int}(h:layOk sp lg=true):dzO sp lg a=dnO sp lg a:=by unfold dzO;rw[VR h]
theorem IB {sp lg:af}{a:Int}(h:dnK sp lg a=1):0<=dnI sp lg a/\dnI sp lg a<sp.length:=by
 unfold dnK at h;by_cases c:0<=oV sp a
 ·unfold dnI;rw[VR c];rcases qQ (p:=Ej sp a) (n:=sp.length)with q|q
  ·have:oV sp a= -1:=q;omega
  ·exact q
 ·rw[VT c]at h;by_cases d:0<=B0 lg a
  ·rw[VR d]at h;omega
  ·rw[VT d]at h;omega
theorem QJ {sp lg:af}{a:Int}(h:dnK sp lg a=3):0<=dnI sp lg a/\dnI sp lg a<lg.length:=by
 unfold dnK at h;by_cases c:0<=oV sp a
 ·rw[VR c]at h;split at h<;>omega
 ·rw[VT c]at h;by_cases d:0<=B0 lg a
  ·unfold dnI;rw[VT c,VR d];rcases qQ (p:=FJ lg a) (n:=lg.length)with q|q
   ·have:B0 lg a= -1:=q;omega
   ·exact q
  ·rw[VT d]at h;omega
def Hu (os:af)(x j:Int):Bool:=eqB (ah os j 0) x
def oiI (os:af)(x:Int):Int:=cP (Hu os x) os.length
def oiB (os:af)(x:Int):Bool:=decide (0<=oiI os x)
def okO (sp lg:af)(a s:Int):Bool:=decide (dnO sp lg a=0)&&((decide (dnK sp lg a=1)&&decide (ah sp (dnI sp lg a) 1=clsOf s))||(decide (dnK sp lg a=3)&&decide (ah lg (dnI sp lg a) 2=s)))
def CI (sp lg os cs:af)(nx i:Int):Bool:=
 !(decide (0<i)&&decide (ah os i 1<=ah os (i-1) 1))&&(inR (ah os i 0) 1 (bO .sub Za nx 1)&&(inR (ah os i 3) 0 (cs.length-1:Int)&&(!oiB (os.take i.toNat) (ah os i 0)&&okO sp lg (ah os i 1) (ah os i 2))))
def objOk (sp lg os cs:af)(nx:Int):Bool:=cI (CI sp lg os cs nx) os.length
section
variable {sp lg os cs: af} {nx i k: Int}
theorem qh (i0:0<=i)(i1:i<os.length)(h:CI sp lg os cs nx i=false):objOk sp lg os cs nx=false:=bW i0 i1 h
theorem MC (h:upto (CI sp lg os cs nx) i)(g:(os.length:Int)<=i):objOk sp lg os cs nx=true:=bM h g
theorem Rp (h:0<i)(g:ah os i 1<=ah os (i-1) 1):CI sp lg os cs nx i=false:=by unfold CI;rw[VO h,VO g];rfl
theorem Rq (h:inR (ah os i 0) 1 (bO .sub Za nx 1)=false):CI sp lg os cs nx i=false:=by unfold CI;rw[h];simp
theorem Rr (h:inR (ah os i 3) 0 (cs.length-1:Int)=false):CI sp lg os cs nx i=false:=by unfold CI;rw[h];simp
theorem Rs (h:oiB (os.take i.toNat) (ah os i 0)=true):CI sp lg os cs nx i=false:=by unfold CI;rw[h];simp
theorem Ja (h:okO sp lg (ah os i 1) (ah os i 2)=false):CI sp lg os cs nx i=false:=by unfold CI;rw[h];simp
theorem Pn (h1:i<=0\/ah os (i-1) 1<ah os i 1)(h2:inR (ah os i 0) 1 (bO .sub Za nx 1)=true)(h3:inR (ah os i 3) 0 (cs.length-1:Int)=true)(h4:oiB (os.take i.toNat) (ah os i 0)=false)(h5:okO sp lg (ah os i 1) (ah os i 2)=true):CI sp lg os cs nx i=true:=by
 unfold CI;rw[h2,h3,h4,h5];rcases h1 with h|h
 ·rw[VP (p:=0<i) (by omega)];rfl
 ·rw[VP (p:=ah os i 1<=ah os (i-1) 1) (by omega)];simp
theorem Rt {a s:Int}(h:dnO sp lg a≠0):okO sp lg a s=false:=by unfold okO;rw[VP h];rfl
theorem adK {a s:Int}(h1:dnK sp lg a≠1\/ah sp (dnI sp lg a) 1≠clsOf s)(h2:dnK sp lg a≠3\/ah lg (dnI sp lg a) 2≠s):okO sp lg a s=false:=by
 unfold okO;rcases h1 with h|h<;>rcases h2 with g|g<;>simp[h,g]
theorem Ru {a s:Int}(h0:dnO sp lg a=0)(h1:dnK sp lg a=1)(h2:ah sp (dnI sp lg a) 1=clsOf s):okO sp lg a s=true:=by unfold okO;rw[VO h0,VO h1,VO h2];rfl
theorem Rv {a s:Int}(h0:dnO sp lg a=0)(h1:dnK sp lg a=3)(h2:ah lg (dnI sp lg a) 2=s):okO sp lg a s=true:=by unfold okO;rw[VO h0,VO h1,VO h2];simp
theorem aax (k0:0<=k)(k1:k<i)(i1:i<os.length)(h:ah os k 0=ah os i 0):oiB (os.take i.toNat) (ah os i 0)=true:=by
 unfold oiB oiI;rw[VQ,Cs];refine⟨k.toNat,by rw[Zk];omega,?_⟩;unfold Hu;rw[Zq k0,yu (by omega)];exact wt h
theorem adJ {x:Int}(h:upto (fun j=> !eqB (ah os j 0) x) k)(k1:i<=k)(i0:0<=i):oiB (os.take i.toNat) x=false:=by
 unfold oiB oiI;refine VP (fun c=>?_);obtain⟨m,m1,m2⟩:=Cs.1 c;rw[Zk]at m1;have q:=h m (by omega) (by omega);unfold Hu at m2;rw[yu (by omega)]at m2;simp only at q;rw[m2]at q;cases q
end
end Go.V
namespace Go.V
def WfI (es:af):Prop:=∀ e∈es,∃ k b:Int,e=[.i k,.i b]
theorem wF {k b:Int}{es:af}{n:Int}:fc ([.i k,.i b]::es) n=if k=n then some (0,.int Za b)else(fc es n).map fun p=>(p.1+1,p.2):=rfl
theorem qZ {k b:Int}{es:af}{n:Int}:jZ ([.i k,.i b]::es) n=if k=n then b else jZ es n:=by
 unfold jZ;rw[wF];by_cases c:k=n
 ·rw[VR c,VR c]
 ·rw[VT c,VT c];cases fc es n with
  |none=>rfl
  |some p=>obtain⟨j,v⟩:=p;cases v<;>rfl
theorem Mt {k b x:Int}{es:af}{n:Int}:oW ([.i k,.i b]::es) n (.i x)=if k=n then[.i n,.i x]::es else[.i k,.i b]::oW es n (.i x):=by
 unfold oW;rw[wF];by_cases c:k=n
 ·rw[VR c,VR c];rfl
 ·rw[VT c,VT c];cases fc es n with
  |none=>rfl
  |some p=>rfl
theorem adA {x n:Int}:∀ {es:af},WfI es->WfI (oW es n (.i x))/\∀ m,jZ (oW es n (.i x)) m=if m=n then x else jZ es m
 | [],_=>by
   refine⟨fun e he=>?_,fun m=>?_⟩
   ·have:e=[.i n,.i x]:=by simpa[oW,fc]using he
    exact⟨n,x,this⟩
   ·show jZ [[.i n,.i x]] m=_;rw[qZ];by_cases c:m=n
    ·rw[VR c.symm,VR c]
    ·rw[VT (fun e=>c e.symm),VT c]
 | e::es,h=>by
   obtain⟨k,b,rfl⟩:=h e (by simp);have h':WfI es:=fun e he=>h e (by simp[he])
   obtain⟨a1,a2⟩:=adA (x:=x) (n:=n) h';rw[Mt];by_cases c:k=n
   ·rw[VR c];refine⟨fun e he=>?_,fun m=>?_⟩
    ·rcases Zn.1 he with rfl|he;exact⟨n,x,rfl⟩;exact h' e he
    ·rw[qZ,qZ];by_cases d:m=n
     ·rw[VR d.symm,VR d]
     ·rw[VT (fun e=>d e.symm),VT d,VT (fun e=>d (by rw[<-e,c]))]
   ·rw[VT c];refine⟨fun e he=>?_,fun m=>?_⟩
    ·rcases Zn.1 he with rfl|he;exact⟨k,b,rfl⟩;exact a1 e he
    ·rw[qZ,qZ,a2 m];by_cases d:k=m
     ·rw[VR d,VR d,VT (fun e=>c (d.trans e))]
     ·rw[VT d,VT d]
def huI (es:af)(a:Int):af:=oW es a (.i (bO .add Za (jZ es a) 1))
structure C3 (es:af)(l:List Int):Prop where
 wf:WfI es
 c:∀ m,jZ es m=(l.count m:Int)
theorem af0:C3 [] []:=⟨(fun e he=>by cases he),fun m=>rfl⟩
theorem Iy {es:af}{l:List Int}{a:Int}(h:C3 es l)(hl:l.length<=1099511627776):C3 (huI es a) (l++[a]):=by
 have q:=adA (x:=bO .add Za (jZ es a) 1) (n:=a) h.wf;refine⟨q.1,fun m=>?_⟩;show jZ (oW es a _) m=_;have b:l.count a<=l.length:=List.count_le_length;have e:=h.c a;rw[q.2 m,List.count_append,show bO .add Za (jZ es a) 1=jZ es a+1 from bF (by omega)];by_cases c:m=a
 ·subst c;rw[VR rfl,e];simp
 ·rw[VT c,h.c m];have:[a].count m=0:=WJ.2 (by simpa using c);rw[this];rfl
def mK (l:af)(f:Nat):Nat->List Int
 |0=>[]
 |n+1=>mK l f n++[ah l n f]
def BX (ls:af):Nat->List Int
 |0=>[]
 |n+1=>BX ls n++mK (ax ls n 0) 0 (ax ls n 0).length
def uL (cs:af):Nat->List Int
 |0=>[]
 |n+1=>uL cs n++BX (ax cs n 0) (ax cs n 0).length
theorem dX {l:af}{f:Nat}:∀ n,(mK l f n).length=n
 |0=>rfl
 |n+1=>by rw[mK,Zd,dX n];rfl
theorem qV {l:af}{f:Nat}{i:Int}(h:0<=i):mK l f (i+1).toNat=mK l f i.toNat++[ah l i f]:=by
 rw[show(i+1).toNat=i.toNat+1 from by omega,mK,Zq h]
theorem K8 {l:af}{i:Int}(h:0<=i):BX l (i+1).toNat=BX l i.toNat++mK (ax l i 0) 0 (ax l i 0).length:=by
 rw[show(i+1).toNat=i.toNat+1 from by omega,BX,Zq h]
theorem K6 {l:af}{i:Int}(h:0<=i):uL l (i+1).toNat=uL l i.toNat++BX (ax l i 0) (ax l i 0).length:=by
 rw[show(i+1).toNat=i.toNat+1 from by omega,uL,Zq h]
theorem rP {l:af}{f:Nat}{x:Int}:∀ {n},x∈mK l f n↔∃ k:Nat,k<n/\x=ah l k f
 |0=>⟨(fun h=>by cases h),fun⟨k,h,_⟩=>absurd h (XI _)⟩
 | n+1=>by
   rw[mK,Zg,rP,Yd]
   constructor
   ·rintro(⟨k,h,e⟩|e);exact⟨k,by omega,e⟩;exact⟨n,by omega,e⟩
   ·rintro⟨k,h,e⟩;by_cases c:k=n
    ·subst c;exact .inr e
    ·exact .inl ⟨k,by omega,e⟩
theorem D4 {ls:af}{x:Int}:∀ {n},x∈BX ls n↔∃ k:Nat,k<n/\x∈mK (ax ls k 0) 0 (ax ls k 0).length
 |0=>⟨(fun h=>by cases h),fun⟨k,h,_⟩=>absurd h (XI _)⟩
 | n+1=>by
   rw[BX,Zg,D4]
   constructor
   ·rintro(⟨k,h,e⟩|e);exact⟨k,by omega,e⟩;exact⟨n,by omega,e⟩
   ·rintro⟨k,h,e⟩;by_cases c:k=n
    ·subst c;exact .inr e
    ·exact .inl ⟨k,by omega,e⟩
theorem D3 {cs:af}{x:Int}:∀ {n},x∈uL cs n↔∃ k:Nat,k<n/\x∈BX (ax cs k 0) (ax cs k 0).length
 |0=>⟨(fun h=>by cases h),fun⟨k,h,_⟩=>absurd h (XI _)⟩
 | n+1=>by
   rw[uL,Zg,D3]
   constructor
   ·rintro(⟨k,h,e⟩|e);exact⟨k,by omega,e⟩;exact⟨n,by omega,e⟩
   ·rintro⟨k,h,e⟩;by_cases c:k=n
    ·subst c;exact .inr e
    ·exact .inl ⟨k,by omega,e⟩
theorem Dv {ls:af}:∀ n,n<=ls.length->(BX ls n).length<=bN (ls.take n)
 |0,_=>Zh _
 | n+1,h=>by
   have q:=Dv n (by omega:n<=ls.length);have c:=Ao (es:=ls) (n:=n) (j:=0) (by omega);unfold am at c;rw[BX,Zd,dX,o7 (by omega)];omega
theorem nk {cs:af}:∀ n,n<=cs.length->(uL cs n).length<=bN (cs.take n)
 |0,_=>Zh _
 | n+1,h=>by
   have q:=nk n (by omega:n<=cs.length);have c:=Ao (es:=cs) (n:=n) (j:=0) (by omega);have d:=Dv (ls:=ax cs n 0) (ax cs n 0).length (Ze _);rw[Yu]at d;unfold am at c;rw[uL,Zd,o7 (by omega)];omega
theorem OA {cs:af}{i k:Int}(i0:0<=i)(i1:i<cs.length)(k1:k<=(ax cs i 0).length):(uL cs i.toNat++BX (ax cs i 0) k.toNat).length+bN ((ax cs i 0).drop k.toNat)<=bN cs:=by
 have q:=nk (cs:=cs) i.toNat (by omega);have c:=Fg (es:=cs) (n:=i.toNat+1);have d:=o7 (es:=cs) (n:=i.toNat) (by omega);have e:=Ao (es:=cs) (n:=i.toNat) (j:=0) (by omega);rw[Zq i0]at e;have f:=Dv (ls:=ax cs i 0) k.toNat (by omega);have g:bN (ax cs i 0)=bN ((ax cs i 0).take k.toNat)+bN ((ax cs i 0).drop k.toNat):=by rw[<-fO,ZL]
 rw[Zd];unfold am at e;omega
theorem Iw {cs:af}{i k j:Int}(i0:0<=i)(i1:i<cs.length)(k0:0<=k)(k1:k<(ax cs i 0).length)(j0:0<=j)(j1:j<=(ax (ax cs i 0) k 0).length):(uL cs i.toNat++BX (ax cs i 0) k.toNat++mK (ax (ax cs i 0) k 0) 0 j.toNat).length<=bN cs:=by
 have q:=OA i0 i1 (by omega:k<=(ax cs i 0).length);have e:=Ao (es:=ax cs i 0) (n:=k.toNat) (j:=0) (by omega);rw[Zq k0]at e;have d:dC ((ax cs i 0).getD k.toNat [])<=bN ((ax cs i 0).drop k.toNat):=by
  rw[XJ (by omega)];rw[Zr,Zu (by omega)];simp[bN]
 rw[Zd,dX];unfold am at e;omega
def hlB (sp lg:af)(a k:Int):Bool:=decide (dnK sp lg a=1)&&(decide (dnO sp lg a=0)&&(decide (k<0)||decide (ah sp (dnI sp lg a) 1=k)))
def jA (sp lg l:af)(k j:Int):Bool:=hlB sp lg (ah l j 0) k
def kA (sp lg ls:af)(k:Int):Bool:=cI (jA sp lg (ax ls k 0) k) (ax ls k 0).length
def iA (sp lg cs:af)(i:Int):Bool:=cI (kA sp lg (ax cs i 0)) (ax cs i 0).length
def qA (sp lg qs:af)(i:Int):Bool:=hlB sp lg (ah qs i 0) (ah qs i 1)
def sA (qs:af)(c i:Int):Bool:=decide (ah qs i 2<=c)
def Jo (sp lg qs:af)(c i:Int):Bool:=qA sp lg qs i&&sA qs c i
def OU (os cs qs fl:af):List Int:=uL cs cs.length++mK qs 0 qs.length++mK fl 0 fl.length++mK os 1 os.length
def Hi (os cs qs fl:af):List Int:=mK os 1 os.length++uL cs cs.length++mK qs 0 qs.length++mK fl 0 fl.length
def Qv (l:List Int)(lv:af)(i:Int):Bool:=decide (l.count (ah lv i 0)=1)
def hoI (sp lg os cs b x qs:af)(c:Int):Bool:=cI (iA sp lg cs) cs.length&&(cI (Jo sp lg qs c) qs.length&&(cI (jA sp lg (ifL b x) (-1)) (ifL b x).length&&cI (Qv (OU os cs qs (ifL b x)) (laL sp lg)) (laL sp lg).length))
def hoS (sp lg os cs b x qs:af):Bool:=cI (iA sp lg cs) cs.length&&(cI (qA sp lg qs) qs.length&&(cI (jA sp lg (ifL b x) (-1)) (ifL b x).length&&(decide ((Hi os cs qs (ifL b x)).Nodup)&&decide ((Hi os cs qs (ifL b x)).length=(laL sp lg).length))))
section
variable {sp lg os cs b x qs fl es: af} {i k j c: Int}
theorem acM (k0:0<=k)(k1:k<(ax cs i 0).length)(j0:0<=j)(j1:j<(ax (ax cs i 0) k 0).length)(h:hlB sp lg (ah (ax (ax cs i 0) k 0) j 0) k=false):iA sp lg cs i=false:=
 bW k0 k1 (bW (p:=jA sp lg (ax (ax cs i 0) k 0) k) j0 j1 h)
theorem Tt (i0:0<=i)(i1:i<cs.length)(h:iA sp lg cs i=false):hoI sp lg os cs b x qs c=false:=by unfold hoI;rw[bW i0 i1 h];rfl
theorem LD (i0:0<=i)(i1:i<qs.length)(h:Jo sp lg qs c i=false):hoI sp lg os cs b x qs c=false:=by unfold hoI;rw[bW i0 i1 h];simp
theorem Tu (i0:0<=i)(i1:i<(ifL b x).length)(h:hlB sp lg (ah (ifL b x) i 0) (-1)=false):hoI sp lg os cs b x qs c=false:=by unfold hoI;rw[bW (p:=jA sp lg (ifL b x) (-1)) i0 i1 h];simp
theorem Tv (i0:0<=i)(i1:i<(laL sp lg).length)(h:Qv (OU os cs qs (ifL b x)) (laL sp lg) i=false):hoI sp lg os cs b x qs c=false:=by unfold hoI;rw[bW i0 i1 h];simp
theorem Tw (i0:0<=i)(i1:i<cs.length)(h:iA sp lg cs i=false):hoS sp lg os cs b x qs=false:=by unfold hoS;rw[bW i0 i1 h];rfl
theorem Tx (i0:0<=i)(i1:i<qs.length)(h:qA sp lg qs i=false):hoS sp lg os cs b x qs=false:=by unfold hoS;rw[bW i0 i1 h];simp
theorem Tz (i0:0<=i)(i1:i<(ifL b x).length)(h:hlB sp lg (ah (ifL b x) i 0) (-1)=false):hoS sp lg os cs b x qs=false:=by unfold hoS;rw[bW (p:=jA sp lg (ifL b x) (-1)) i0 i1 h];simp
theorem aeh (h:hlB sp lg (ah qs i 0) (ah qs i 1)=false):Jo sp lg qs c i=false:=by unfold Jo qA;rw[h];rfl
theorem aei (h:c<ah qs i 2):Jo sp lg qs c i=false:=by unfold Jo sA;rw[VP (by omega),Z8]
theorem agY (h:hlB sp lg (ah qs i 0) (ah qs i 1)=true)(g:ah qs i 2<=c):Jo sp lg qs c i=true:=by unfold Jo qA sA;rw[h,VO g];rfl
structure HiP (sp lg cs:af)(i:Int)(es:af):Prop where
 ok:upto (iA sp lg cs) i
 c:C3 es (uL cs i.toNat)
structure HkP (sp lg cs:af)(i k:Int)(es:af):Prop where
 ok:upto (iA sp lg cs) i
 ok2:upto (kA sp lg (ax cs i 0)) k
 c:C3 es (uL cs i.toNat++BX (ax cs i 0) k.toNat)
structure HjP (sp lg cs:af)(i k j:Int)(es:af):Prop where
 ok:upto (iA sp lg cs) i
 ok2:upto (kA sp lg (ax cs i 0)) k
 ok3:upto (jA sp lg (ax (ax cs i 0) k 0) k) j
 c:C3 es (uL cs i.toNat++BX (ax cs i 0) k.toNat++mK (ax (ax cs i 0) k 0) 0 j.toNat)
structure HqP (sp lg cs qs:af)(t j:Int)(es:af):Prop where
 ok:cI (iA sp lg cs) cs.length=true
 ok2:upto (Jo sp lg qs t) j
 c:C3 es (uL cs cs.length++mK qs 0 j.toNat)
structure HfP (sp lg cs qs fl:af)(t j:Int)(es:af):Prop where
 ok:cI (iA sp lg cs) cs.length=true
 ok2:cI (Jo sp lg qs t) qs.length=true
 ok3:upto (jA sp lg fl (-1)) j
 c:C3 es (uL cs cs.length++mK qs 0 qs.length++mK fl 0 j.toNat)
structure Sj (sp lg os cs qs fl:af)(t j:Int)(es:af):Prop where
 ok:cI (iA sp lg cs) cs.length=true
 ok2:cI (Jo sp lg qs t) qs.length=true
 ok3:cI (jA sp lg fl (-1)) fl.length=true
 c:C3 es (uL cs cs.length++mK qs 0 qs.length++mK fl 0 fl.length++mK os 1 j.toNat)
theorem agc:HiP sp lg cs 0 []:=⟨bB,af0⟩
theorem agf (h:HiP sp lg cs i es):HkP sp lg cs i 0 es:=⟨h.ok,bB,by simpa[BX]using h.c⟩
theorem agd (h:HkP sp lg cs i k es):HjP sp lg cs i k 0 es:=⟨h.ok,h.ok2,bB,by simpa[mK]using h.c⟩
theorem acr (h:HjP sp lg cs i k j es)(i0:0<=i)(i1:i<cs.length)(k0:0<=k)(k1:k<(ax cs i 0).length)(j0:0<=j)(j1:j<(ax (ax cs i 0) k 0).length)(hc:am cs<=1073741824)(hh:hlB sp lg (ah (ax (ax cs i 0) k 0) j 0) k=true):
 HjP sp lg cs i k (j+1) (huI es (ah (ax (ax cs i 0) k 0) j 0)):=by
 have l:=Iw (cs:=cs) i0 i1 k0 k1 j0 (by omega);unfold am at hc;exact⟨h.ok,h.ok2,aV h.ok3 hh,by rw[qV j0, <-Zj];exact Iy h.c (by omega)⟩
theorem acs (h:HjP sp lg cs i k j es)(k0:0<=k)(j1:j<=((ax (ax cs i 0) k 0).length:Int))(j2:((ax (ax cs i 0) k 0).length:Int)<=j):HkP sp lg cs i (k+1) es:=by
 refine⟨h.ok,aV h.ok2 (bM h.ok3 j2),?_⟩;have c:=h.c;rw[show j.toNat=(ax (ax cs i 0) k 0).length from by omega,Zj, <-K8 k0]at c;exact c
theorem acq (h:HkP sp lg cs i k es)(i0:0<=i)(k1:k<=((ax cs i 0).length:Int))(k2:((ax cs i 0).length:Int)<=k):HiP sp lg cs (i+1) es:=by
 refine⟨aV h.ok (bM h.ok2 k2),?_⟩;have c:=h.c;rw[show k.toNat=(ax cs i 0).length from by omega, <-K6 i0]at c;exact c
theorem agn (h:HiP sp lg cs i es)(i1:i<=cs.length)(i2:(cs.length:Int)<=i):HqP sp lg cs qs c 0 es:=
 ⟨bM h.ok i2,bB,by have c:=h.c;rw[show i.toNat=cs.length from by omega]at c;simpa[mK]using c⟩
theorem acK (h:HqP sp lg cs qs c j es)(j0:0<=j)(j1:j<qs.length)(hc:am cs<=1073741824)(hq:qs.length<=1073741824)(hh:Jo sp lg qs c j=true):HqP sp lg cs qs c (j+1) (huI es (ah qs j 0)):=by
 have l:=nk (cs:=cs) cs.length (Ze _);rw[Yu]at l;unfold am at hc;refine⟨h.ok,aV h.ok2 hh,?_⟩;rw[qV j0, <-Zj];refine Iy h.c ?_;rw[Zd,dX];omega
theorem agb (h:HqP sp lg cs qs c i es)(i1:i<=qs.length)(i2:(qs.length:Int)<=i):HfP sp lg cs qs fl c 0 es:=
 ⟨h.ok,bM h.ok2 i2,bB,by have c:=h.c;rw[show i.toNat=qs.length from by omega]at c;simpa[mK]using c⟩
theorem acp (h:HfP sp lg cs qs fl c j es)(j0:0<=j)(j1:j<fl.length)(hc:am cs<=1073741824)(hq:qs.length<=1073741824)(hf:fl.length<=30)(hh:hlB sp lg (ah fl j 0) (-1)=true):HfP sp lg cs qs fl c (j+1) (huI es (ah fl j 0)):=by
 have l:=nk (cs:=cs) cs.length (Ze _);rw[Yu]at l;unfold am at hc;refine⟨h.ok,h.ok2,aV h.ok3 hh,?_⟩;rw[qV j0, <-Zj];refine Iy h.c ?_;rw[Zd,Zd,dX,dX];omega
theorem agj (h:HfP sp lg cs qs fl c i es)(i1:i<=fl.length)(i2:(fl.length:Int)<=i):Sj sp lg os cs qs fl c 0 es:=
 ⟨h.ok,h.ok2,bM h.ok3 i2,by have c:=h.c;rw[show i.toNat=fl.length from by omega]at c;simpa[mK]using c⟩
theorem acw (h:Sj sp lg os cs qs fl c j es)(j0:0<=j)(j1:j<os.length)(hc:am cs<=1073741824)(hq:qs.length<=1073741824)(ho:os.length<=1073741824)(hf:fl.length<=30):Sj sp lg os cs qs fl c (j+1) (huI es (ah os j 1)):=by
 have l:=nk (cs:=cs) cs.length (Ze _);rw[Yu]at l;unfold am at hc;refine⟨h.ok,h.ok2,h.ok3,?_⟩;rw[qV j0, <-Zj];refine Iy h.c ?_;rw[Zd,Zd,Zd,dX,dX,dX];omega
structure Qi (sp lg os cs qs fl:af)(t i:Int)(es:af):Prop where
 p:Sj sp lg os cs qs fl t os.length es
 ok:upto (Qv (OU os cs qs fl) (laL sp lg)) i
theorem agh (h:Sj sp lg os cs qs fl c i es)(i1:i<=os.length)(i2:(os.length:Int)<=i):Qi sp lg os cs qs fl c 0 es:=⟨by rw[show(os.length:Int)=i from by omega];exact h,bB⟩
theorem acu (h:Qi sp lg os cs qs fl c i es)(m:Int):jZ es m=((OU os cs qs fl).count m:Int):=by
 have q:=h.p.c.c m;rw[Zx]at q;exact q
theorem acv (h:Qi sp lg os cs qs fl c i es)(e:jZ es (ah (laL sp lg) i 0)=1):Qi sp lg os cs qs fl c (i+1) es:=
 ⟨h.p,aV h.ok (by unfold Qv;rw[acu h]at e;exact VO (by omega))⟩
theorem agi (h:Qi sp lg os cs qs (ifL b x) c i es)(i0:0<=i)(i1:i<(laL sp lg).length)(e:jZ es (ah (laL sp lg) i 0)≠1):hoI sp lg os cs b x qs c=false:=
 Tv i0 i1 (by unfold Qv;rw[acu h]at e;exact VP (by omega))
theorem Ts (h:Qi sp lg os cs qs (ifL b x) c i es)(i2:((laL sp lg).length:Int)<=i):hoI sp lg os cs b x qs c=true:=by
 unfold hoI;rw[h.p.ok,h.p.ok2,h.p.ok3,bM h.ok i2];rfl
end
end Go.V
namespace Go.V
structure SF (os:af)(i:Int)(o:af):Prop where
 e:o=jp (mK os 1 i.toNat)
structure S2P (sp lg os cs:af)(i:Int)(o:af):Prop where
 ok:upto (iA sp lg cs) i
 e:o=jp (mK os 1 os.length++uL cs i.toNat)
structure S3P (sp lg os cs:af)(i k:Int)(o:af):Prop where
 ok:upto (iA sp lg cs) i
 ok2:upto (kA sp lg (ax cs i 0)) k
 e:o=jp (mK os 1 os.length++(uL cs i.toNat++BX (ax cs i 0) k.toNat))
structure SG (sp lg os cs:af)(i k j:Int)(o:af):Prop where
 ok:upto (iA sp lg cs) i
 ok2:upto (kA sp lg (ax cs i 0)) k
 ok3:upto (jA sp lg (ax (ax cs i 0) k 0) k) j
 e:o=jp (mK os 1 os.length++(uL cs i.toNat++BX (ax cs i 0) k.toNat++mK (ax (ax cs i 0) k 0) 0 j.toNat))
structure SH (sp lg os cs qs:af)(j:Int)(o:af):Prop where
 ok:cI (iA sp lg cs) cs.length=true
 ok2:upto (qA sp lg qs) j
 e:o=jp (mK os 1 os.length++uL cs cs.length++mK qs 0 j.toNat)
structure SI (sp lg os cs qs fl:af)(j:Int)(o:af):Prop where
 ok:cI (iA sp lg cs) cs.length=true
 ok2:cI (qA sp lg qs) qs.length=true
 ok3:upto (jA sp lg fl (-1)) j
 e:o=jp (mK os 1 os.length++uL cs cs.length++mK qs 0 qs.length++mK fl 0 j.toNat)
structure Od (sp lg os cs qs fl:af)(j:Int)(o:af):Prop where
 ok:cI (iA sp lg cs) cs.length=true
 ok2:cI (qA sp lg qs) qs.length=true
 ok3:cI (jA sp lg fl (-1)) fl.length=true
 e:o=jp (Hi os cs qs fl)
 nd:((Hi os cs qs fl).take j.toNat).Nodup
section
variable {sp lg os cs b x qs fl o: af} {i k j: Int}
theorem ag1:SF os 0 []:=⟨rfl⟩
theorem ag2 (h:SF os i o):o.length=i.toNat:=by rw[h.e,cn,dX]
theorem aep (h:SF os i o)(i0:0<=i):SF os (i+1) (o++[[.i (ah os i 1)]]):=⟨by rw[qV i0,iu, <-h.e];rfl⟩
theorem ag3 (h:SF os i o)(i1:i<=os.length)(i2:(os.length:Int)<=i):S2P sp lg os cs 0 o:=⟨bB,by rw[h.e,show i.toNat=os.length from by omega];simp[uL]⟩
theorem ag4 (h:S2P sp lg os cs i o):S3P sp lg os cs i 0 o:=⟨h.ok,bB,by rw[h.e];simp[BX]⟩
theorem ag5 (h:S3P sp lg os cs i k o):SG sp lg os cs i k 0 o:=⟨h.ok,h.ok2,bB,by rw[h.e];simp[mK]⟩
theorem ag6 (h:SG sp lg os cs i k j o)(i0:0<=i)(i1:i<cs.length)(k0:0<=k)(k1:k<(ax cs i 0).length)(j0:0<=j)(j1:j<=(ax (ax cs i 0) k 0).length)(hc:am cs<=1073741824)(ho:os.length<=1073741824):o.length<=2147483648:=by
 have l:=Iw (cs:=cs) i0 i1 k0 k1 j0 j1;unfold am at hc;rw[h.e,cn,Zd,dX];omega
theorem aes (h:SG sp lg os cs i k j o)(j0:0<=j)(hh:hlB sp lg (ah (ax (ax cs i 0) k 0) j 0) k=true):SG sp lg os cs i k (j+1) (o++[[.i (ah (ax (ax cs i 0) k 0) j 0)]]):=
 ⟨h.ok,h.ok2,aV h.ok3 hh,by rw[qV j0, <-Zj (uL cs i.toNat++BX (ax cs i 0) k.toNat), <-Zj (mK os 1 os.length),iu, <-h.e];rfl⟩
theorem aer (h:SG sp lg os cs i k j o)(k0:0<=k)(j1:j<=((ax (ax cs i 0) k 0).length:Int))(j2:((ax (ax cs i 0) k 0).length:Int)<=j):S3P sp lg os cs i (k+1) o:=by
 refine⟨h.ok,aV h.ok2 (bM h.ok3 j2),?_⟩;rw[h.e,show j.toNat=(ax (ax cs i 0) k 0).length from by omega,Zj (uL cs i.toNat), <-K8 k0]
theorem aeq (h:S3P sp lg os cs i k o)(i0:0<=i)(k1:k<=((ax cs i 0).length:Int))(k2:((ax cs i 0).length:Int)<=k):S2P sp lg os cs (i+1) o:=by
 refine⟨aV h.ok (bM h.ok2 k2),?_⟩;rw[h.e,show k.toNat=(ax cs i 0).length from by omega, <-K6 i0]
theorem ag7 (h:S2P sp lg os cs i o)(i1:i<=cs.length)(i2:(cs.length:Int)<=i):SH sp lg os cs qs 0 o:=⟨bM h.ok i2,bB,by rw[h.e,show i.toNat=cs.length from by omega];simp[mK]⟩
theorem ag8 (h:SH sp lg os cs qs j o)(j1:j<=qs.length)(hc:am cs<=1073741824)(ho:os.length<=1073741824)(hq:qs.length<=1073741824):o.length<=4294967296:=by
 have l:=nk (cs:=cs) cs.length (Ze _);rw[Yu]at l;unfold am at hc;rw[h.e,cn,Zd,Zd,dX,dX];omega
theorem aet (h:SH sp lg os cs qs j o)(j0:0<=j)(hh:hlB sp lg (ah qs j 0) (ah qs j 1)=true):SH sp lg os cs qs (j+1) (o++[[.i (ah qs j 0)]]):=
 ⟨h.ok,aV h.ok2 hh,by rw[qV j0, <-Zj,iu, <-h.e];rfl⟩
theorem ag9 (h:SH sp lg os cs qs i o)(i1:i<=qs.length)(i2:(qs.length:Int)<=i):SI sp lg os cs qs fl 0 o:=⟨h.ok,bM h.ok2 i2,bB,by rw[h.e,show i.toNat=qs.length from by omega];simp[mK]⟩
theorem aha (h:SI sp lg os cs qs fl j o)(j1:j<=fl.length)(hc:am cs<=1073741824)(ho:os.length<=1073741824)(hq:qs.length<=1073741824)(hf:fl.length<=30):o.length<=4294967400:=by
 have l:=nk (cs:=cs) cs.length (Ze _);rw[Yu]at l;unfold am at hc;rw[h.e,cn,Zd,Zd,Zd,dX,dX,dX];omega
theorem aeu (h:SI sp lg os cs qs fl j o)(j0:0<=j)(hh:hlB sp lg (ah fl j 0) (-1)=true):SI sp lg os cs qs fl (j+1) (o++[[.i (ah fl j 0)]]):=
 ⟨h.ok,h.ok2,aV h.ok3 hh,by rw[qV j0, <-Zj,iu, <-h.e];rfl⟩
theorem ahb (h:SI sp lg os cs qs fl i o)(i1:i<=fl.length)(i2:(fl.length:Int)<=i):Od sp lg os cs qs fl 0 o:=
 ⟨h.ok,h.ok2,bM h.ok3 i2,by rw[h.e,show i.toNat=fl.length from by omega];rfl,ZR⟩
theorem aev (h:Od sp lg os cs qs fl j o)(hc:am cs<=1073741824)(ho:os.length<=1073741824)(hq:qs.length<=1073741824)(hf:fl.length<=30):o.length<=4294967400:=by
 have l:=nk (cs:=cs) cs.length (Ze _);rw[Yu]at l;unfold am at hc;rw[h.e,cn];unfold Hi;rw[Zd,Zd,Zd,dX,dX,dX];omega
theorem F3 {l:List Int}{n:Nat}:(jp l).take n=jp (l.take n):=by unfold jp;rw[List.map_take]
theorem Ei {l:List Int}{i:Int}(h0:0<=i)(h:i<(jp l).length):∃ x,l[i.toNat]?=some x/\ah (jp l) i 0=x:=by
 rw[cn]at h;have q:=vT (l:=l) (k:=i.toNat) (by omega);rw[Zq h0]at q;exact⟨_,Zu (by omega),q⟩
theorem aex (h:Od sp lg os cs qs fl j o)(j0:0<=j)(j1:j<o.length)(hh:hasB (o.take j.toNat) (ah o j 0)=false):Od sp lg os cs qs fl (j+1) o:=by
 refine⟨h.ok,h.ok2,h.ok3,h.e,?_⟩;have e:=h.e;rw[e]at j1 hh;obtain⟨v,q1,q2⟩:=Ei j0 j1;rw[F3,q2]at hh;have nm:=yv hh;rw[show(j+1).toNat=j.toNat+1 from by omega,List.take_succ,q1];exact np h.nd nm
theorem ahc (h:Od sp lg os cs qs (ifL b x) j o)(j0:0<=j)(j1:j<o.length)(hh:hasB (o.take j.toNat) (ah o j 0)=true):hoS sp lg os cs b x qs=false:=by
 have e:=h.e;rw[e]at j1 hh;obtain⟨v,q1,q2⟩:=Ei j0 j1;rw[F3,q2,rL]at hh;have:¬ (Hi os cs qs (ifL b x)).Nodup:=fun nd=>by
  have lt:j.toNat<(Hi os cs qs (ifL b x)).length:=by rw[cn]at j1;omega
  have sp:=ZL j.toNat (Hi os cs qs (ifL b x));rw[XJ lt]at sp;have gv:(Hi os cs qs (ifL b x))[j.toNat]=v:=by rw[Zu lt]at q1;exact YA q1
  rw[gv]at sp;exact dup sp.symm hh nd
 unfold hoS;rw[VP this];simp
theorem aaO (h:Od sp lg os cs qs (ifL b x) j o)(j2:(o.length:Int)<=j):decide ((o.length:Int)=(laL sp lg).length)=hoS sp lg os cs b x qs:=by
 have e:=h.e;have nd:=h.nd;have l:(Hi os cs qs (ifL b x)).length=o.length:=by rw[e,cn]
 rw[Yn (by omega)]at nd;unfold hoS;rw[h.ok,h.ok2,h.ok3,VO nd,l];simp only[YF];exact hE (by rw[VQ,VQ];omega)
def inI (l:List Int):Prop:=∀ v∈l,-9223372036854775808<=v/\v<=9223372036854775807
theorem DN {l m:List Int}(h:inI l)(g:inI m):inI (l++m):=fun v hv=>by
 rcases Zg.1 hv with q|q;exact h v q;exact g v q
theorem DO {fs:List Ty}{l:af}{f:Nat}(h:Rw fs l)(hf:fs[f]?=some tI):inI (mK l f l.length):=fun v hv=>by
 obtain⟨n,n1,rfl⟩:=rP.1 hv;exact qR h hf (by omega)
theorem TS {ls:af}(h:Rw [.sl [tI]] ls):inI (BX ls ls.length):=fun v hv=>by
 obtain⟨n,n1,q⟩:=D4.1 hv;exact DO (fs:=[tI]) (Rw.sub (fs:=[.sl [tI]]) h (by omega) rfl) rfl v q
theorem TR {cs:af}(h:Rw [.sl [.sl [tI]]] cs):inI (uL cs cs.length):=fun v hv=>by
 obtain⟨n,n1,q⟩:=D3.1 hv;exact TS (Rw.sub (fs:=[.sl [.sl [tI]]]) h (by omega) rfl) v q
theorem aew (N:Ob sp lg os cs b x qs)(h:Od sp lg os cs qs (ifL b x) j o)(n:Nat):Rw [tI] (o.take n):=by
 have l:=aev h N.cl N.ol N.ql Hm;refine Rw.take ?_ n;rw[h.e]at l ⊢;rw[cn]at l;refine vU ?_ (by omega);unfold Hi;exact DN (DN (DN (DO N.ow rfl) (TR N.cw)) (DO N.qw rfl)) (DO (LN N.m) rfl)
theorem LC {a k:Int}(hl:layOk sp lg=true)(h:hlB sp lg a k=true):yd sp lg a=true:=by
 unfold hlB at h;simp only[Zc,VQ]at h;exact(I0 hl).2 ⟨h.2.1,.inl h.1⟩
theorem adL {a s:Int}(hl:layOk sp lg=true)(h:okO sp lg a s=true):yd sp lg a=true:=by
 unfold okO at h;simp only[Zc,Z7,VQ]at h;exact(I0 hl).2 ⟨h.1,h.2.elim (fun q=>.inl q.1) (fun q=>.inr q.1)⟩
def lvI (sp lg:af):List Int:=Rh sp lg 512
theorem ac5 (hl:layOk sp lg=true):laL sp lg=jp (lvI sp lg):=by unfold laL lvI;rw[VR hl,Az]
theorem Pf (hl:layOk sp lg=true){a:Int}:a∈lvI sp lg↔yd sp lg a=true:=by
 unfold lvI;rw[ui]
 constructor;exact fun h=>h.2.2
 ·intro h;have F:=lyF hl;have v:=Ri F hl h;have r:a∈TE sp lg:=I5.2 v;refine⟨?_,?_,h⟩
  ·rcases v with⟨i,k,i1,k1,_,e⟩|⟨j,j1,e⟩
   ·have ae:=qv (s:=(k:Int)) (F.s i i1) (by omega) (by omega);have t:=oz (F.s i i1);omega
   ·have t:=oj (F.l j j1);omega
  ·rcases v with⟨i,k,i1,k1,_,e⟩|⟨j,j1,e⟩
   ·have ae:=qv (s:=(k:Int)) (F.s i i1) (by omega) (by omega);have t:=oz (F.s i i1);omega
   ·have t:=oj (F.l j j1);have b:=mX t.1;omega
theorem aas:(lvI sp lg).Nodup:=(HQ 512).imp (fun h=>by omega)
theorem Jg:(OU os cs qs fl).Perm (Hi os cs qs fl):=by
 unfold OU Hi;have q:=List.perm_append_comm (l₁:=uL cs cs.length++mK qs 0 qs.length++mK fl 0 fl.length) (l₂:=mK os 1 os.length);refine q.trans ?_;rw[Zj,Zj,Zj]
theorem MB {l m:List Int}(hm:m.Nodup)(hs:∀ v∈l,v∈m):(∀ v∈m,l.count v=1)↔l.Nodup/\l.length=m.length:=by
 constructor
 ·intro h;have nd:l.Nodup:=WL.2 (fun v=>by
   by_cases c:v∈l
   ·rw[h v (hs v c)];exact Ze _
   ·rw[WJ.2 c];omega)
  refine⟨nd,?_⟩;have p:l.Perm m:=by
   rw[List.perm_ext_iff_of_nodup nd hm];intro v;refine⟨hs v,fun hv=>?_⟩;have:=h v hv;exact WM.1 (by omega)
  exact p.length_eq
 ·rintro⟨nd,len⟩ v hv;have hv':v∈l:=by
   by_cases c:v∈l;exact c
   ·exfalso;have q:=WI (l₁:=v::l) (l₂:=m) (List.nodup_cons.2 ⟨c,nd⟩) (fun y hy=>by
     rcases Zn.1 hy with rfl|hy;exact hv
     ·exact hs y hy)
    rw[Zp]at q;omega
  have p1:=WL.1 nd v;have p2:=WM.2 hv';omega
theorem gY {p:Int->Bool}{n:Nat}(h:cI p n=true):∀ k:Nat,k<n->p k=true:=fun k hk=>dL.1 h k (by omega) (by omega)
theorem Pv {c:Int}:cI (Jo sp lg qs c) qs.length=(cI (qA sp lg qs) qs.length&&cI (sA qs c) qs.length):=by
 refine hE ?_;rw[Zc,dL,dL,dL];unfold upto Jo
 constructor
 ·intro h;refine⟨fun j h0 h1=>?_,fun j h0 h1=>?_⟩
  ·have:=h j h0 h1;rw[Zc]at this;exact this.1
  ·have:=h j h0 h1;rw[Zc]at this;exact this.2
 ·rintro⟨h,g⟩ j h0 h1;rw[h j h0 h1,g j h0 h1];rfl
theorem LE {nx c:Int}(hl:layOk sp lg=true)(ho:objOk sp lg os cs nx=true):hoI sp lg os cs b x qs c=(hoS sp lg os cs b x qs&&cI (sA qs c) qs.length):=by
 unfold hoI hoS;rw[Pv];by_cases h1:cI (iA sp lg cs) cs.length=true
 case neg=>rw[Y0]at h1;rw[h1];rfl
 by_cases h2:cI (qA sp lg qs) qs.length=true
 case neg=>rw[Y0]at h2;rw[h2];simp
 by_cases h3:cI (jA sp lg (ifL b x) (-1)) (ifL b x).length=true
 case neg=>rw[Y0]at h3;rw[h3];simp
 have sub:∀ v∈OU os cs qs (ifL b x),v∈lvI sp lg:=by
  intro v hv;rw[Pf hl];unfold OU at hv;rw[Zg,Zg,Zg]at hv;rcases hv with((hv|hv)|hv)|hv
  ·obtain⟨i,i1,hv⟩:=D3.1 hv;obtain⟨k,k1,hv⟩:=D4.1 hv;obtain⟨j,j1,rfl⟩:=rP.1 hv;have q1:=gY h1 i i1;have q2:=gY q1 k k1;have q3:=gY q2 j j1;exact LC hl q3
  ·obtain⟨j,j1,rfl⟩:=rP.1 hv;exact LC hl (gY h2 j j1)
  ·obtain⟨j,j1,rfl⟩:=rP.1 hv;exact LC hl (gY h3 j j1)
  ·obtain⟨j,j1,rfl⟩:=rP.1 hv;have q:=gY ho j j1;unfold CI at q;simp only[Zc]at q;exact adL hl q.2.2.2.2
 have key:=MB aas sub;have e1:cI (Qv (OU os cs qs (ifL b x)) (laL sp lg)) (laL sp lg).length=(decide (Hi os cs qs (ifL b x)).Nodup&&decide ((Hi os cs qs (ifL b x)).length=(laL sp lg).length)):=by
  refine hE ?_;rw[Zc,VQ,VQ, <-Jg.nodup_iff, <-Jg.length_eq,ac5 hl,cn, <-key]
  constructor
  ·intro h v hv;obtain⟨n,n1,rfl⟩:=Wd.1 hv;have q:=gY h n n1;unfold Qv at q;rw[vT n1,VQ]at q;exact q
  ·intro h;rw[dL];intro j h0 h1;have n1:j.toNat<(lvI sp lg).length:=by omega
   have q:=vT n1;rw[Zq h0]at q;unfold Qv;rw[q,VQ];exact h _ (Xs n1)
 rw[h1,h2,h3,e1];simp only[YF];exact Bool.and_comm _ _
end
end Go.V
namespace Go.V
theorem IQ {n:Int}:∀ {es:af},WfB es->∀ m,m∈pm (oW es n (.v (.bool true)))↔m∈pm es\/m=n
 | [],_,m=>by
   show m∈pm [[.i n,.v (.bool true)]]↔_;simp[pm,kOf]
 | e::es,h,m=>by
   obtain⟨k,b,rfl⟩:=h e (by simp);have h':WfB es:=fun e he=>h e (by simp[he])
   have ih:=IQ (n:=n) h' m;rw[I6];by_cases c:k=n
   ·rw[VR c];subst c;show m∈k::pm es↔m∈k::pm es\/m=k;simp only[Zn]
    constructor;exact fun h=>.inl h
    ·rintro(h|h);exact h;exact .inl h
   ·rw[VT c];show m∈k::pm (oW es n (.v (.bool true)))↔m∈k::pm es\/m=n;simp only[Zn,ih,or_assoc]
structure yJ (es:af)(l:List Int):Prop where
 s:sq es l
 k:∀ m,m∈pm es↔m∈l
theorem adN:yJ [] []:=⟨HV,fun m=>Iff.rfl⟩
theorem MH {es:af}{l:List Int}{n:Int}(h:yJ es l):yJ (oW es n (.v (.bool true))) (l++[n]):=
 ⟨yE h.s,fun m=>by rw[IQ h.s.wf,h.k,Zg,Yd]⟩
def yD (sp:af)(i:Int):Bool:= !(decide (0<i)&&decide (ah sp i 0<=ah sp (i-1) 0))
def Tf (es:af)(p:Int):Bool:=decide ((fpg es p).length=1)
def DY (es lg:af)(i:Int):Bool:=yD lg i&&cI (fun k=>Tf es (ah lg i 0+k)) (ah lg i 1).toNat
def ownB (sp lg:af)(p:Int):Bool:=decide (p∈AO sp lg)
def mapB (es:af)(p:Int):Bool:=decide (peM es p≠0)
def Cn (es fr sp lg:af)(p:Int):Bool:=(mapB es p==ownB sp lg p)&& !(rhB fr p==ownB sp lg p)
def MA (es sp lg:af):Bool:=decide (∀ p∈AO sp lg,p<es.length)
def AG (sp:af)(i j:Int):Bool:=mshB (ah sp i 0) (ah sp i 1) (ah sp i 2) (ah sp j 0) (ah sp j 1) (ah sp j 2)
def Kp (es sp:af)(i j:Int):Bool:= !decide (peF es (ah sp i 0)=peF es (ah sp j 0))||AG sp i j
def N0 (es sp:af)(i:Int):Bool:=cI (Kp es sp i) i.toNat
def Mg (es sp:af)(i k:Int):Bool:=decide (spI sp (ah (fpg es (ah sp i 0)) k 0)=i)||(decide (0<=spI sp (ah (fpg es (ah sp i 0)) k 0))&&AG sp i (spI sp (ah (fpg es (ah sp i 0)) k 0)))
def msA (es sp:af)(i:Int):Bool:=cI (Mg es sp i) (fpg es (ah sp i 0)).length
def pgI (es fr sp lg:af):Bool:=cI (yD sp) sp.length&&(cI (DY es lg) lg.length&&(cI (Cn es fr sp lg) es.length&&(MA es sp lg&&cI (N0 es sp) sp.length)))
def pgS (es fr sp lg:af):Bool:=cI (yD sp) sp.length&&(cI (DY es lg) lg.length&&(MA es sp lg&&cI (Cn es fr sp lg) es.length))
def smS (es sp:af):Bool:=cI (msA es sp) sp.length
section
variable {es fr sp lg m: af} {i j k p: Int} {vs: List Int}
theorem Ju (h:0<i)(g:ah sp i 0<=ah sp (i-1) 0):yD sp i=false:=by unfold yD;rw[VO h,VO g];rfl
theorem Jv (h:i<=0):yD sp i=true:=by unfold yD;rw[VP (by omega)];rfl
theorem Jw (h:ah sp (i-1) 0<ah sp i 0):yD sp i=true:=by unfold yD;rw[VP (p:=ah sp i 0<=_) (by omega)];simp
theorem adV (i0:0<=i)(i1:i<sp.length)(h:yD sp i=false):pgI es fr sp lg=false:=by unfold pgI;rw[bW i0 i1 h];rfl
theorem Rz (i0:0<=i)(i1:i<lg.length)(h:DY es lg i=false):pgI es fr sp lg=false:=by unfold pgI;rw[bW i0 i1 h];simp
theorem RA (i0:0<=i)(i1:i<es.length)(h:Cn es fr sp lg i=false):pgI es fr sp lg=false:=by unfold pgI;rw[bW i0 i1 h];simp
theorem adW (h:MA es sp lg=false):pgI es fr sp lg=false:=by unfold pgI;rw[h];simp
theorem adX (i0:0<=i)(i1:i<sp.length)(h:N0 es sp i=false):pgI es fr sp lg=false:=by unfold pgI;rw[bW i0 i1 h];simp
theorem agM {a b c d:Int}(h1:upto (yD sp) a)(g1:(sp.length:Int)<=a)(h2:upto (DY es lg) b)(g2:(lg.length:Int)<=b)(h3:upto (Cn es fr sp lg) c)(g3:(es.length:Int)<=c)(h4:MA es sp lg=true)(h5:upto (N0 es sp) d)(g5:(sp.length:Int)<=d):pgI es fr sp lg=true:=by
 unfold pgI;rw[bM h1 g1,bM h2 g2,bM h3 g3,h4,bM h5 g5];rfl
theorem ad5 (i0:0<=i)(i1:i<sp.length)(h:yD sp i=false):pgS es fr sp lg=false:=by unfold pgS;rw[bW i0 i1 h];rfl
theorem RB (i0:0<=i)(i1:i<lg.length)(h:DY es lg i=false):pgS es fr sp lg=false:=by unfold pgS;rw[bW i0 i1 h];simp
theorem RD (i0:0<=i)(i1:i<es.length)(h:Cn es fr sp lg i=false):pgS es fr sp lg=false:=by unfold pgS;rw[bW i0 i1 h];simp
theorem ad6 (h:MA es sp lg=false):pgS es fr sp lg=false:=by unfold pgS;rw[h];simp
theorem agO {a b c:Int}(h1:upto (yD sp) a)(g1:(sp.length:Int)<=a)(h2:upto (DY es lg) b)(g2:(lg.length:Int)<=b)(h3:upto (Cn es fr sp lg) c)(g3:(es.length:Int)<=c)(h4:MA es sp lg=true):pgS es fr sp lg=true:=by
 unfold pgS;rw[bM h1 g1,bM h2 g2,bM h3 g3,h4];rfl
theorem Rb (h:yD lg i=false):DY es lg i=false:=by unfold DY;rw[h];rfl
theorem Rc (k0:0<=k)(k1:k<ah lg i 1)(h:(fpg es (ah lg i 0+k)).length≠1):DY es lg i=false:=by
 unfold DY;rw[bW (i:=k) (n:=(ah lg i 1).toNat) k0 (by omega) (show Tf es (ah lg i 0+k)=false from VP h),Z8]
theorem ac7 (h:yD lg i=true)(g:upto (fun k=>Tf es (ah lg i 0+k)) k)(k1:ah lg i 1<=k)(n0:0<=ah lg i 1):DY es lg i=true:=by
 unfold DY;rw[h,bM g (by omega)];rfl
theorem QQ (g:upto (fun k=>Tf es (ah lg i 0+k)) k)(h:(fpg es (ah lg i 0+k)).length=1):upto (fun k=>Tf es (ah lg i 0+k)) (k+1):=aV g (VO h)
structure PlP (es sp lg:af)(j:Int)(m:af):Prop where
 ok:upto (DY es lg) j
 o:yJ m (oB sp sp.length++oA lg j.toNat)
structure PkP (es sp lg:af)(j k:Int)(m:af):Prop where
 ok:upto (DY es lg) j
 h:yD lg j=true
 g:upto (fun k=>Tf es (ah lg j 0+k)) k
 o:yJ m (oB sp sp.length++oA lg j.toNat++rT (ah lg j 0) k.toNat)
theorem agN (h:yJ m (oB sp i.toNat))(i1:i<=sp.length)(i2:(sp.length:Int)<=i):PlP es sp lg 0 m:=⟨bB,by rw[show i.toNat=sp.length from by omega]at h;simpa[oA]using h⟩
theorem adY (h:PlP es sp lg j m)(g:yD lg j=true):PkP es sp lg j (ah lg j 0-ah lg j 0) m:=by
 rw[Int.sub_self];exact⟨h.ok,g,bB,by simpa[rT]using h.o⟩
theorem ad2 (h:PkP es sp lg j (p-ah lg j 0) m)(p0:ah lg j 0<=p)(g:(fpg es p).length=1):PkP es sp lg j (p+1-ah lg j 0) (oW m p (.v (.bool true))):=by
 have e:ah lg j 0+(p-ah lg j 0)=p:=by omega
 rw[show p+1-ah lg j 0=(p-ah lg j 0)+1 from by omega];refine⟨h.ok,h.h,QQ h.g (by rw[e];exact g),?_⟩;rw[AP (by omega),e, <-Zj];exact MH h.o
theorem adZ (p0:ah lg j 0<=p)(p1:p<ah lg j 0+ah lg j 1)(h:(fpg es p).length≠1):DY es lg j=false:=
 Rc (k:=p-ah lg j 0) (by omega) (by omega) (by rw[show ah lg j 0+(p-ah lg j 0)=p from by omega];exact h)
theorem ad3 (h:PkP es sp lg j (p-ah lg j 0) m)(j0:0<=j)(n0:0<=ah lg j 1)(p1:p<=ah lg j 0+ah lg j 1)(p2:ah lg j 0+ah lg j 1<=p):PlP es sp lg (j+1) m:=by
 refine⟨aV h.ok (ac7 h.h h.g (by omega) n0),?_⟩;have o:=h.o;rw[show(p-ah lg j 0).toNat=(ah lg j 1).toNat from by omega,Zj, <-sV j0]at o;exact o
theorem aaA (h:PlP es sp lg j m)(j1:j<=lg.length)(j2:(lg.length:Int)<=j):yJ m (AO sp lg):=by
 have o:=h.o;rw[show j.toNat=lg.length from by omega]at o;exact o
theorem adO (h:yJ m (AO sp lg))(p:Int):mgbI m p=ownB sp lg p:=by
 refine hE ?_;unfold ownB;rw[h.s.at_,VQ]
theorem QN (h:mapB es p≠ownB sp lg p):Cn es fr sp lg p=false:=by unfold Cn;rw[beq_eq_false_iff_ne.2 h];rfl
theorem QO (h:rhB fr p=ownB sp lg p):Cn es fr sp lg p=false:=by unfold Cn;rw[h];simp
theorem ab9 (h:mapB es p=ownB sp lg p)(g:rhB fr p≠ownB sp lg p):Cn es fr sp lg p=true:=by unfold Cn;rw[h,beq_eq_false_iff_ne.2 g];simp
theorem Tc (h:mapB es p=rhB fr p)(g:mapB es p=ownB sp lg p):Cn es fr sp lg p=false:=QO (by rw[<-h,g])
theorem aca (h:mapB es p≠rhB fr p)(g:mapB es p=ownB sp lg p):Cn es fr sp lg p=true:=ab9 g (fun e=>h (by rw[g,e]))
theorem adr (p0:0<=p)(p1:p<es.length):dB .neq (ah es p 0) 0=mapB es p:=by rw[Dw];unfold mapB peM;rw[VR (by omega)]
theorem adH (h:p∈AO sp lg)(g:(es.length:Int)<=p):MA es sp lg=false:=VP (fun c=>by have:=c p h;omega)
theorem agK (o:yJ m (AO sp lg))(h:∀ k∈vs,k<es.length)(g:∀ k∈pm m,k∈vs):MA es sp lg=true:=VO (fun p hp=>h p (g p ((o.k p).2 hp)))
theorem aeS {q:Int}(h:∀ k∈vs,k<(es.length:Int))(g:q<es.length):∀ k∈q::vs,k<(es.length:Int):=fun k hk=>by
 rcases Zn.1 hk with rfl|hk;exact g;exact h k hk
theorem agD (j0:0<=j)(j1:j<i)(h:peF es (ah sp i 0)=peF es (ah sp j 0))(g:AG sp i j=false):N0 es sp i=false:=by
 unfold N0;exact bW j0 (by omega) (by unfold Kp;rw[g,VO h];rfl)
theorem adn (h:peF es (ah sp i 0)≠peF es (ah sp j 0)):Kp es sp i j=true:=by unfold Kp;rw[VP h];rfl
theorem ado (h:AG sp i j=true):Kp es sp i j=true:=by unfold Kp;rw[h,WN]
theorem agE (h:upto (Kp es sp i) j)(g:i<=j)(i0:0<=i):N0 es sp i=true:=by unfold N0;exact bM h (by omega)
structure NV (es sp lg:af)(j:Int)(o:af):Prop where
 ok:upto (DY es lg) j
 e:o=jp (oB sp sp.length++oA lg j.toNat)
 l:(oA lg j.toNat).length<=64*j.toNat
structure SD (es sp lg:af)(j k:Int)(o:af):Prop where
 ok:upto (DY es lg) j
 h:yD lg j=true
 g:upto (fun k=>Tf es (ah lg j 0+k)) k
 e:o=jp (oB sp sp.length++oA lg j.toNat++rT (ah lg j 0) k.toNat)
 l:(oA lg j.toNat).length<=64*j.toNat
structure SE (sp:af)(i:Int)(o:af):Prop where
 ok:upto (yD sp) i
 e:o=jp (oB sp i.toNat)
variable {o: af}
theorem agW:SE sp 0 []:=⟨bB,rfl⟩
theorem agX (h:SE sp i o):o.length=i.toNat:=by rw[h.e,cn,rX]
theorem RG (h:SE sp i o)(i0:0<=i)(g:yD sp i=true):SE sp (i+1) (o++[[.i (ah sp i 0)]]):=⟨aV h.ok g,by rw[rA i0,iu, <-h.e];rfl⟩
theorem agS (h:SE sp i o)(i1:i<=sp.length)(i2:(sp.length:Int)<=i):NV es sp lg 0 o:=⟨bB,by rw[h.e,show i.toNat=sp.length from by omega];simp[oA],Zh _⟩
theorem aed (h:NV es sp lg j o)(g:yD lg j=true):SD es sp lg j 0 o:=⟨h.ok,g,bB,by rw[h.e];simp[rT],h.l⟩
theorem aee (h:SD es sp lg j k o)(k0:0<=k)(g:(fpg es (ah lg j 0+k)).length=1):SD es sp lg j (k+1) (o++[[.i (ah lg j 0+k)]]):=
 ⟨h.ok,h.h,QQ h.g g,by rw[AP k0, <-Zj,iu, <-h.e];rfl,h.l⟩
theorem aeg (h:SD es sp lg j k o)(j0:0<=j)(n0:0<=ah lg j 1)(n1:ah lg j 1<=64)(k1:k<=ah lg j 1)(k2:ah lg j 1<=k):NV es sp lg (j+1) o:=by
 have l:=h.l;refine⟨aV h.ok (ac7 h.h h.g k2 n0),?_,?_⟩
 ·rw[h.e,show k.toNat=(ah lg j 1).toNat from by omega,Zj, <-sV j0]
 ·rw[sV j0,Zd,uw];omega
theorem agR (h:SD es sp lg j k o)(k1:k<=64):o.length<=sp.length+64*j.toNat+64:=by
 have l:=h.l;rw[h.e,cn,Zd,Zd,rX,uw];omega
theorem Pu (h:NV es sp lg j o)(j1:j<=lg.length)(j2:(lg.length:Int)<=j):o=jp (AO sp lg):=by
 have e:=h.e;rw[show j.toNat=lg.length from by omega]at e;exact e
theorem Ry (hl:layOk sp lg=true){x:Int}(h:x∈AO sp lg):0<=x/\x<=31:=by
 have F:=lyF hl;unfold AO at h;rw[Zg,rQ,uh]at h;rcases h with⟨i,i1,e⟩|⟨j,j1,e1,e2⟩
 ·have t:=oz (F.s i i1);omega
 ·have t:=oj (F.l j j1);have b:=mX t.1;omega
theorem aef (hl:layOk sp lg=true)(h:NV es sp lg j o)(j1:j<=lg.length)(j2:(lg.length:Int)<=j)(hs:sp.length<=1073741824)(hg:lg.length<=1073741824):Rw [tI] o:=by
 have l:=h.l;rw[Pu h j1 j2];refine vU (fun x hx=>by have:=Ry hl hx;omega) ?_;unfold AO;rw[Zd,rX];rw[show j.toNat=lg.length from by omega]at l;omega
theorem agT (h:NV es sp lg j o)(j1:j<=lg.length)(j2:(lg.length:Int)<=j)(i0:0<=i)(i1:i<o.length)(g:(es.length:Int)<=ah o i 0):MA es sp lg=false:=by
 have e:=Pu h j1 j2;rw[e]at i1 g;obtain⟨v,q1,q2⟩:=Ei i0 i1;rw[q2]at g;exact adH (ZC q1) g
theorem agV (h:NV es sp lg j o)(j1:j<=lg.length)(j2:(lg.length:Int)<=j)(g:upto (fun t=>decide (ah o t 0<es.length)) i)(i2:(o.length:Int)<=i):MA es sp lg=true:=by
 have e:=Pu h j1 j2;refine VO (fun p hp=>?_);obtain⟨n,n1,rfl⟩:=Wd.1 hp;have n2:n<o.length:=by rw[e,cn];exact n1
 have q:=g n (by omega) (by omega);rw[VQ,e,vT n1]at q;exact q
theorem agU (h:NV es sp lg j o)(j1:j<=lg.length)(j2:(lg.length:Int)<=j)(p:Int):hasB o p=ownB sp lg p:=by
 refine hE ?_;rw[Pu h j1 j2,rL];unfold ownB;rw[VQ]
theorem ady (k0:0<=k)(k1:k<(fpg es (ah sp i 0)).length)(h:spI sp (ah (fpg es (ah sp i 0)) k 0)≠i)(g:spI sp (ah (fpg es (ah sp i 0)) k 0)<0):msA es sp i=false:=by
 unfold msA;exact bW k0 k1 (by unfold Mg;rw[VP h,VP (by omega)];rfl)
theorem adz (k0:0<=k)(k1:k<(fpg es (ah sp i 0)).length)(h:spI sp (ah (fpg es (ah sp i 0)) k 0)≠i)(g:AG sp i (spI sp (ah (fpg es (ah sp i 0)) k 0))=false):msA es sp i=false:=by
 unfold msA;exact bW k0 k1 (by unfold Mg;rw[VP h,g];simp)
theorem adp (h:spI sp (ah (fpg es (ah sp i 0)) k 0)=i):Mg es sp i k=true:=by unfold Mg;rw[VO h];rfl
theorem adq (h:0<=spI sp (ah (fpg es (ah sp i 0)) k 0))(g:AG sp i (spI sp (ah (fpg es (ah sp i 0)) k 0))=true):Mg es sp i k=true:=by unfold Mg;rw[VO h,g];simp
theorem aeF {p:Int}(h:0<=spI sp p):spI sp p<sp.length:=by
 obtain⟨b,_⟩:=lD h;exact b
theorem G4 {a b:Int}:bO .and Za a b=bO .and Za b a:=by
 show YP Za ((ZU _ a&&&ZU _ b).toNat)=YP Za ((ZU _ b&&&ZU _ a).toNat);rw[BitVec.and_comm]
theorem Mr:AG sp i j=AG sp j i:=by
 refine hE ?_;unfold AG mshB;simp only[Zc,VQ];rw[G4 (a:=ah sp i 2)]
 constructor
 ·rintro⟨a,b,c,d,e⟩;exact⟨b,a,c.symm,fun h=>d h.symm,e⟩
 ·rintro⟨a,b,c,d,e⟩;exact⟨b,a,c.symm,fun h=>d h.symm,e⟩
theorem Eb {es:af}{f:Int}:∀ {n:Nat} {x:Int},hasB (ye es f n) x=true↔∃ k:Nat,k<n/\x=k/\ah es k 0≠0/\ah es k 1=f
 |0,x=>⟨fun h=>absurd (Cz.1 h) (YG),fun⟨k,h,_⟩=>absurd h (XI _)⟩
 | n+1,x=>by
   by_cases c:ah es n 0≠0/\ah es n 1=f
   ·rw[Jh c.1 c.2,OQ,Z7,Eb,OR]
    constructor
    ·rintro(⟨k,h,e⟩|e);exact⟨k,by omega,e⟩;exact⟨n,by omega,e.symm,c⟩
    ·rintro⟨k,h,e,q⟩;by_cases d:k=n
     ·subst d;exact .inr e.symm
     ·exact .inl ⟨k,by omega,e,q⟩
   ·have c':ah es n 0=0\/ah es n 1≠f:=by
     by_cases z:ah es n 0=0;exact .inl z;exact .inr (fun e=>c ⟨z,e⟩)
    rw[MQ c',Eb]
    constructor
    ·rintro⟨k,h,e⟩;exact⟨k,by omega,e⟩
    ·rintro⟨k,h,e,q⟩;by_cases d:k=n
     ·subst d;exact absurd q c
     ·exact⟨k,by omega,e,q⟩
theorem yp {p x:Int}:hasB (fpg es p) x=true↔peM es p≠0/\0<=x/\x<es.length/\peM es x≠0/\peF es x=peF es p:=by
 by_cases c:peM es p=0
 ·rw[Lr c];exact⟨fun h=>absurd (Cz.1 h) (YG),fun h=>absurd c h.1⟩
 ·rw[IG c];unfold pagesOn;rw[Eb]
  constructor
  ·rintro⟨k,h,rfl,q1,q2⟩;refine⟨c,by omega,by omega,?_,?_⟩
   ·unfold peM;rw[VR (by omega)];exact q1
   ·rw[show peF es k=ah es k 1 from by unfold peF;rw[VR (by omega)]];exact q2
  ·rintro⟨_,h0,h1,q1,q2⟩;refine⟨x.toNat,by omega,by omega,?_,?_⟩
   ·rw[Zq h0];unfold peM at q1;rw[VR (by omega)]at q1;exact q1
   ·rw[Zq h0];unfold peF at q2;rw[VR (c:=0<=x/\x<_) (by omega)]at q2;rw[q2];rfl
theorem DJ {l:af}{x:Int}:hasB l x=true↔∃ k:Nat,k<l.length/\ah l k 0=x:=CB
theorem MR (hl:layOk sp lg=true):pgI es fr sp lg=(pgS es fr sp lg&&smS es sp):=by
 have F:=lyF hl;unfold pgI pgS;by_cases h1:cI (yD sp) sp.length=true
 case neg=>rw[Y0]at h1;rw[h1];rfl
 by_cases h2:cI (DY es lg) lg.length=true
 case neg=>rw[Y0]at h2;rw[h2];simp
 by_cases h3:cI (Cn es fr sp lg) es.length=true
 case neg=>rw[Y0]at h3;rw[h3];simp
 by_cases h4:MA es sp lg=true
 case neg=>rw[Y0]at h4;rw[h4];simp
 rw[h1,h2,h3,h4];simp only[YF];have h4':=VU h4;have mp:∀ q:Int,0<=q->q<es.length->(peM es q≠0↔q∈AO sp lg):=by
  intro q q0 q1;have e:=dL.1 h3 q q0 q1;unfold Cn at e;simp only[Zc,beq_iff_eq]at e;have e:=e.1;unfold mapB ownB at e
  constructor
  ·intro h;rw[VO h]at e;exact VU e.symm
  ·intro h;rw[VO h]at e;exact VU e
 have spg:∀ n:Nat,n<sp.length->ah sp n 0∈AO sp lg:=fun n hn=>Zg.2 (.inl (rQ.2 ⟨n,hn,rfl⟩))
 have spm:∀ n:Nat,n<sp.length->0<=ah sp n 0/\ah sp n 0<es.length/\peM es (ah sp n 0)≠0:=by
  intro n hn;have b:=Ry hl (spg n hn);have c:=h4' _ (spg n hn);exact⟨b.1,c,(mp _ b.1 c).2 (spg n hn)⟩
 have sat:∀ n:Nat,n<sp.length->spI sp (ah sp n 0)=n:=by
  intro n hn;have q:=t6 (p:=isSp sp (ah sp n 0)) hn (wt rfl);obtain⟨q1,q2⟩:=lD q;obtain⟨m,e⟩:=Z4 q;have e':spI sp (ah sp n 0)=m:=e;rw[e]at q1 q2;have:=F.ss m n (by omega) hn (VU q2);rw[e',this]
 refine hE ?_;unfold smS;rw[dL,dL]
 constructor
 ·intro h i i0 i1;unfold msA;rw[dL];intro k k0 k1;obtain⟨ii,rfl⟩:=Z4 i0;obtain⟨kk,rfl⟩:=Z4 k0;have hx:hasB (fpg es (ah sp ii 0)) (ah (fpg es (ah sp ii 0)) kk 0)=true:=DJ.2 ⟨kk,by omega,rfl⟩;generalize hX:ah (fpg es (ah sp ii 0)) kk 0=x at hx;obtain⟨c1,c2,c3,c4,c5⟩:=yp.1 hx;have hp:=(mp x c2 c3).1 c4;unfold AO at hp;rw[Zg,rQ,uh]at hp;unfold Mg;rw[hX];rcases hp with⟨n,n1,rfl⟩|⟨j,j1,e1,e2⟩
  ·rw[sat n n1];rcases XH n ii with c|c|c
   ·have q:=dL.1 (h ii (by omega) i1) n (by omega) (by omega);unfold Kp at q;rw[c5,VO rfl]at q;rw[show AG sp ii n=true from by simpa using q,VO (p:=(0:Int)<=n) (by omega)];simp
   ·rw[c,VO rfl];rfl
   ·have q:=dL.1 (h n (by omega) (by omega)) ii (by omega) (by omega);unfold Kp at q;rw[c5,VO rfl]at q;have q':AG sp n ii=true:=by simpa using q
    rw[Mr,q',VO (p:=(0:Int)<=n) (by omega)];simp
  ·exfalso;have t:=oj (F.l j j1);have b:=mX t.1;have q:=gY h2 j j1;unfold DY at q;simp only[Zc]at q;have q2:=dL.1 q.2 (x-ah lg j 0) (by omega) (by omega);rw[show ah lg j 0+(x-ah lg j 0)=x from by omega]at q2;have q3:=VU q2;have s1:=spm ii (by omega);have a1:hasB (fpg es x) x=true:=yp.2 ⟨c4,c2,c3,c4,rfl⟩;have a2:hasB (fpg es x) (ah sp ii 0)=true:=yp.2 ⟨c4,s1.1,s1.2.1,s1.2.2,c5.symm⟩;obtain⟨u,u1,u2⟩:=DJ.1 a1;obtain⟨v,v1,v2⟩:=DJ.1 a2;have:u=v:=by omega
   subst this;rw[u2]at v2;exact F.sl ii j (by omega) j1 (by omega) (by omega)
 ·intro h i i0 i1;unfold N0;rw[dL];intro j j0 j1;obtain⟨ii,rfl⟩:=Z4 i0;obtain⟨jj,rfl⟩:=Z4 j0;unfold Kp;by_cases c:peF es (ah sp ii 0)=peF es (ah sp jj 0)
  case neg=>rw[VP c];rfl
  have s1:=spm ii (by omega);have s2:=spm jj (by omega);have a:hasB (fpg es (ah sp ii 0)) (ah sp jj 0)=true:=yp.2 ⟨s1.2.2,s2.1,s2.2.1,s2.2.2,c.symm⟩;obtain⟨k,k1,k2⟩:=DJ.1 a;have q:=h ii (by omega) i1;unfold msA at q;have q:=gY q k k1;unfold Mg at q;rw[k2,sat jj (by omega),VP (p:=(jj:Int)=ii) (by omega)]at q;simp only[Bool.false_or,Zc]at q;rw[q.2,WN]
end
end Go.V
namespace Go.V
def jobZ (k m:Int)(cs:af)(ph nx:Int):Bool:=decide (ph=0)&&(decide (nx=0)&&(decide (k=0)&&(decide (m=0)&&decide (cs.length=0))))
def Ax (sp:af)(me:Bool)(k m:Int)(cs:af)(ph nx:Int):Bool:=
 bif me then(jbOk k m cs ph nx&&(decide (0<=spI sp k)&&decide (0<=spI sp m)))else jobZ k m cs ph nx
def QB (cs:af)(i:Int):Bool:=caOk (ax cs i 0)
def hpI (a0 a1 a2:af)(a3:Int)(a4 a5 a6 a7 a8 a9 aA aB:af)(aC:Int)(aD:af)(aE aF aG aH:Int)(aI:Bool)(aJ aK:Int)(aL:af)(aM aN:Int):Bool:=
 kerOk a0 a1 a2 a3 a4&&(rgOk a2.length a5&&(layOk a6 a7&&(pgI a2 a5 a6 a7&&(mailOk aA aB&&(decide (a9.length=aA.length)&&(quarOk aC aD&&(cI (QB a9) a9.length&&
  (objOk a6 a7 a8 a9 aH&&(hoI a6 a7 a8 a9 aA aB aD aF&&(inR aE 0 1073741823&&(inR aF 0 1000000&&(inR aG 0 1000&&(inR aH 1 1000000&&Ax a6 aI aJ aK aL aM aN)))))))))))))
structure HpN (a0 a1 a2 a4 a5 a6 a7 a8 a9 aA aB aD aL:af):Prop where
 n:Ob a6 a7 a8 a9 aA aB aD
 c:Rw [.sl [tI]] a0
 u:Rw [tB] a1
 e:Rw [tI,tI] a2
 el:a2.length<=1073741824
 r:Rw [tI] a4
 f:Rw [tI,tI] a5
 fl:a5.length<=1073741824
 j:Rw [tI] aL
 jl:aL.length<=1073741824
section
variable {a0 a1 a2: af} {a3: Int} {a4 a5 a6 a7 a8 a9 aA aB: af} {aC: Int} {aD: af} {aE aF aG aH: Int} {aI: Bool} {aJ aK: Int} {aL: af} {aM aN: Int} {i: Int}
theorem acy (h:kerOk a0 a1 a2 a3 a4=false):hpI a0 a1 a2 a3 a4 a5 a6 a7 a8 a9 aA aB aC aD aE aF aG aH aI aJ aK aL aM aN=false:=by unfold hpI;rw[h];simp
theorem acE (h:rgOk a2.length a5=false):hpI a0 a1 a2 a3 a4 a5 a6 a7 a8 a9 aA aB aC aD aE aF aG aH aI aJ aK aL aM aN=false:=by unfold hpI;rw[h];simp
theorem acz (h:layOk a6 a7=false):hpI a0 a1 a2 a3 a4 a5 a6 a7 a8 a9 aA aB aC aD aE aF aG aH aI aJ aK aL aM aN=false:=by unfold hpI;rw[h];simp
theorem TD (h:pgI a2 a5 a6 a7=false):hpI a0 a1 a2 a3 a4 a5 a6 a7 a8 a9 aA aB aC aD aE aF aG aH aI aJ aK aL aM aN=false:=by unfold hpI;rw[h];simp
theorem acA (h:mailOk aA aB=false):hpI a0 a1 a2 a3 a4 a5 a6 a7 a8 a9 aA aB aC aD aE aF aG aH aI aJ aK aL aM aN=false:=by unfold hpI;rw[h];simp
theorem agm (h:decide (a9.length=aA.length)=false):hpI a0 a1 a2 a3 a4 a5 a6 a7 a8 a9 aA aB aC aD aE aF aG aH aI aJ aK aL aM aN=false:=by unfold hpI;rw[h];simp
theorem acD (h:quarOk aC aD=false):hpI a0 a1 a2 a3 a4 a5 a6 a7 a8 a9 aA aB aC aD aE aF aG aH aI aJ aK aL aM aN=false:=by unfold hpI;rw[h];simp
theorem agl (h:cI (QB a9) a9.length=false):hpI a0 a1 a2 a3 a4 a5 a6 a7 a8 a9 aA aB aC aD aE aF aG aH aI aJ aK aL aM aN=false:=by unfold hpI;rw[h];simp
theorem TC (h:objOk a6 a7 a8 a9 aH=false):hpI a0 a1 a2 a3 a4 a5 a6 a7 a8 a9 aA aB aC aD aE aF aG aH aI aJ aK aL aM aN=false:=by unfold hpI;rw[h];simp
theorem TA (h:hoI a6 a7 a8 a9 aA aB aD aF=false):hpI a0 a1 a2 a3 a4 a5 a6 a7 a8 a9 aA aB aC aD aE aF aG aH aI aJ aK aL aM aN=false:=by unfold hpI;rw[h];simp
theorem acF (h:inR aE 0 1073741823=false):hpI a0 a1 a2 a3 a4 a5 a6 a7 a8 a9 aA aB aC aD aE aF aG aH aI aJ aK aL aM aN=false:=by unfold hpI;rw[h];simp
theorem acH (h:inR aF 0 1000000=false):hpI a0 a1 a2 a3 a4 a5 a6 a7 a8 a9 aA aB aC aD aE aF aG aH aI aJ aK aL aM aN=false:=by unfold hpI;rw[h];simp
theorem acI (h:inR aG 0 1000=false):hpI a0 a1 a2 a3 a4 a5 a6 a7 a8 a9 aA aB aC aD aE aF aG aH aI aJ aK aL aM aN=false:=by unfold hpI;rw[h];simp
theorem acJ (h:inR aH 1 1000000=false):hpI a0 a1 a2 a3 a4 a5 a6 a7 a8 a9 aA aB aC aD aE aF aG aH aI aJ aK aL aM aN=false:=by unfold hpI;rw[h];simp
theorem Q3 (h:(a9.length:Int)≠aA.length):hpI a0 a1 a2 a3 a4 a5 a6 a7 a8 a9 aA aB aC aD aE aF aG aH aI aJ aK aL aM aN=false:=agm (VP (by omega))
theorem Q2 (i0:0<=i)(i1:i<a9.length)(h:caOk (ax a9 i 0)=false):hpI a0 a1 a2 a3 a4 a5 a6 a7 a8 a9 aA aB aC aD aE aF aG aH aI aJ aK aL aM aN=false:=agl (bW i0 i1 h)
theorem LG (hk:kerOk a0 a1 a2 a3 a4=true)(hr:rgOk a2.length a5=true)(hl:layOk a6 a7=true)(hp:pgI a2 a5 a6 a7=true)(hm:mailOk aA aB=true)(hn:decide (a9.length=aA.length)=true)(hq:quarOk aC aD=true)(hc:cI (QB a9) a9.length=true)(ho:objOk a6 a7 a8 a9 aH=true)(hh:hoI a6 a7 a8 a9 aA aB aD aF=true)(hs:inR aE 0 1073741823=true)(ht:inR aF 0 1000000=true)(hw:inR aG 0 1000=true)(hx:inR aH 1 1000000=true):hpI a0 a1 a2 a3 a4 a5 a6 a7 a8 a9 aA aB aC aD aE aF aG aH aI aJ aK aL aM aN=Ax a6 aI aJ aK aL aM aN:=by unfold hpI;rw[hk,hr,hl,hp,hm,hn,hq,hc,ho,hh,hs,ht,hw,hx];rfl
structure HpT (a0 a1 a2:af)(a3:Int)(a4 a5 a6 a7 a8 a9 aA aB:af)(aC:Int)(aD:af)(aE aF aG aH:Int)(aI:Bool)(aJ aK:Int)(aL:af)(aM aN:Int):Prop where
 k:kerOk a0 a1 a2 a3 a4=true
 r:rgOk a2.length a5=true
 l:layOk a6 a7=true
 p:pgI a2 a5 a6 a7=true
 m:mailOk aA aB=true
 n:decide (a9.length=aA.length)=true
 q:quarOk aC aD=true
 c:cI (QB a9) a9.length=true
 o:objOk a6 a7 a8 a9 aH=true
 h:hoI a6 a7 a8 a9 aA aB aD aF=true
 s:inR aE 0 1073741823=true
 t:inR aF 0 1000000=true
 w:inR aG 0 1000=true
 x:inR aH 1 1000000=true
 j:Ax a6 aI aJ aK aL aM aN=true
theorem wC (h:hpI a0 a1 a2 a3 a4 a5 a6 a7 a8 a9 aA aB aC aD aE aF aG aH aI aJ aK aL aM aN=true):HpT a0 a1 a2 a3 a4 a5 a6 a7 a8 a9 aA aB aC aD aE aF aG aH aI aJ aK aL aM aN:=by
 unfold hpI at h;simp only[Zc]at h;obtain⟨hk,hr,hl,hp,hm,hn,hq,hc,ho,hh,hs,ht,hw,hx,hj⟩:=h;exact⟨hk,hr,hl,hp,hm,hn,hq,hc,ho,hh,hs,ht,hw,hx,hj⟩
theorem Q6 (h:jbOk aJ aK aL aM aN=false):false=Ax a6 true aJ aK aL aM aN:=by unfold Ax;rw[h];rfl
theorem Q7 (h:spI a6 aJ<0):false=Ax a6 true aJ aK aL aM aN:=by unfold Ax;rw[VP (p:=0<=spI a6 aJ) (by omega)];simp
theorem Q8 (h:jbOk aJ aK aL aM aN=true)(g:0<=spI a6 aJ):dB .geq (spI a6 aK) 0=Ax a6 true aJ aK aL aM aN:=by unfold Ax;rw[h,VO g];rfl
theorem aeH (h:cI (sA aD aF) aD.length=false)(hl:layOk a6 a7=true)(ho:objOk a6 a7 a8 a9 aH=true):hoI a6 a7 a8 a9 aA aB aD aF=false:=by rw[LE hl ho,h,Z8]
theorem acG (i0:0<=i)(i1:i<aD.length)(h:aF<ah aD i 2)(hl:layOk a6 a7=true):hpI a0 a1 a2 a3 a4 a5 a6 a7 a8 a9 aA aB aC aD aE aF aG aH aI aJ aK aL aM aN=false:=by
 by_cases ho:objOk a6 a7 a8 a9 aH=true;exact TA (aeH (bW i0 i1 (by unfold sA;exact VP (by omega))) hl ho);exact TC (by simpa using ho)
theorem acC (hl:layOk a6 a7=true)(h:pgS a2 a5 a6 a7=false):hpI a0 a1 a2 a3 a4 a5 a6 a7 a8 a9 aA aB aC aD aE aF aG aH aI aJ aK aL aM aN=false:=TD (by rw[MR hl,h];rfl)
theorem acB (hl:layOk a6 a7=true)(h:smS a2 a6=false):hpI a0 a1 a2 a3 a4 a5 a6 a7 a8 a9 aA aB aC aD aE aF aG aH aI aJ aK aL aM aN=false:=TD (by rw[MR hl,h,Z8])
theorem acx (hl:layOk a6 a7=true)(ho:objOk a6 a7 a8 a9 aH=true)(h:hoS a6 a7 a8 a9 aA aB aD=false):hpI a0 a1 a2 a3 a4 a5 a6 a7 a8 a9 aA aB aC aD aE aF aG aH aI aJ aK aL aM aN=false:=TA (by rw[LE hl ho,h];rfl)
theorem agL (hl:layOk a6 a7=true)(h:pgS a2 a5 a6 a7=true)(g:smS a2 a6=true):pgI a2 a5 a6 a7=true:=by rw[MR hl,h,g];rfl
theorem agk (hl:layOk a6 a7=true)(ho:objOk a6 a7 a8 a9 aH=true)(h:hoS a6 a7 a8 a9 aA aB aD=true)(i2:(aD.length:Int)<=i)(g:upto (sA aD aF) i):hoI a6 a7 a8 a9 aA aB aD aF=true:=by rw[LE hl ho,h,bM g i2];rfl
theorem ahd (h:ah aD i 2<=aF):sA aD aF i=true:=VO h
end
end Go.V
namespace Go.V
structure ObB (os:af):Prop where
 w:Rw [tI,tI,tI,tI] os
 l:os.length<=1099511627776
 b:∀ i:Int,0<=i->i<os.length->0<=ah os i 1/\ah os i 1<=2000/\1<=ah os i 2/\ah os i 2<=1000
end Go.V
namespace Go.V
end Go.V
namespace Go.V
end Go.V
namespace Go.V
end Go.V
namespace Go.V
end Go.V
namespace Go.V
structure PgT (es fr sp lg:af):Prop where
 l:∀ j:Nat,j<lg.length->∀ q:Int,ah lg j 0<=q->q<ah lg j 0+ah lg j 1->(fpg es q).length=1
 m:∀ q:Int,0<=q->q<es.length->(peM es q≠0↔q∈AO sp lg)
 o:∀ q∈AO sp lg,q<es.length
 c:∀ i j:Nat,i<sp.length->j<sp.length->peF es (ah sp i 0)=peF es (ah sp j 0)->ah sp i 1=ah sp j 1
end Go.V
namespace Go.V
def poN (sp lg fl:af):Nat->Int
 |0=>0
 |n+1=>poN sp lg fl n+clsSz (ah sp (dnI sp lg (ah fl n 0)) 1)
def ocF (s:Int):Int:=if 0<=clsOf s then clsSz (clsOf s)else s
def ocN (os:af):Nat->Int
 |0=>0
 |n+1=>ocN os n+ocF (ah os n 2)
end Go.V
namespace Go.V
end Go.V
namespace Go.V
def ceI (cs es:af)(a:Int):Int:=ah (ax cs (peF es (a/16)) 0) (a%16) 0
def clN (cs es:af)(a:Int):Nat->af
 |0=>[]
 |n+1=>clN cs es a n++[[.i (ceI cs es (a+n))]]
structure ClP (cs es:af)(a i:Int)(o:af):Prop where
 e:o=clN cs es a i.toNat
structure ObC (cs es os:af):Prop where
 b:ObB os
 f:∀ j:Int,0<=j->j<os.length->∀ i:Int,0<=i->i<ah os j 2->0<=peF es ((ah os j 1+i)/16)/\peF es ((ah os j 1+i)/16)<cs.length/\(ax cs (peF es ((ah os j 1+i)/16)) 0).length=16
end Go.V
namespace Go.V
end Go.V
namespace Go.V
def PG (k b:Int):Nat->af
 |0=>[]
 |n+1=>if hsB b ((n:Int)/clsSz k)=true then PG k b n++[[.i n]]else PG k b n
def ahf (p k b:Int):af:=if spOk p k b=true then PG k b 16 else[]
structure ahz (k b i:Int)(o:af):Prop where
 e:o=PG k b i.toNat
def scS (sp:af):Nat->Int
 |0=>0
 |n+1=>scS sp n+(ahf (ah sp n 0) (ah sp n 1) (ah sp n 2)).length
def lgS (lg:af):Nat->Int
 |0=>0
 |n+1=>lgS lg n+ah lg n 2
def SU (ls:af):Nat->Int
 |0=>0
 |n+1=>SU ls n+(ax ls n 0).length*clsSz n
end Go.V
namespace Go.V
structure MkP (f:Int->Bool)(o:af):Prop where
 w:Rw [tB] o
 l:o.length=16
 v:∀ c:Int,0<=c->c<16->sn o c 0=f c
end Go.V
namespace Go.V
theorem afZ {ls:af}(h:caOk ls=true):ls.length=4/\∀ n:Nat,n<4->(ax ls n 0).length<=8:=by
 unfold caOk at h;simp only[Zc,VQ]at h;refine⟨h.1,fun n hn=>?_⟩;have t:=dL.1 h.2.1 n (by omega) (by omega);unfold Ox at t;simp only[Zc,VQ]at t;exact t.1
def ceC (ls:af):Int:=if caOk ls=true then SU ls ls.length else 0
structure ahv (ls:af)(i t:Int):Prop where
 e:t=SU ls i.toNat
def acN (cs:af):Nat->Int
 |0=>0
 |n+1=>acN cs n+ceC (ax cs n 0)
structure AcP (cs:af)(i t:Int):Prop where
 e:t=acN cs i.toNat
structure OcP (os:af)(i t:Int):Prop where
 e:t=ocN os i.toNat
structure PoP (sp lg fl:af)(i t:Int):Prop where
 e:t=poN sp lg fl i.toNat
structure ahA (sp:af)(i t:Int):Prop where
 e:t=scS sp i.toNat
structure ahx (sp lg:af)(i t:Int):Prop where
 e:t=scS sp sp.length+lgS lg i.toNat
def zlI (es:af):Int:=es.length
end Go.V
namespace Go.V
section
variable {r0 r1 r2 r3 r4 r5 r6 r7 r8 r9 r10 r11 r12: af}
theorem Ae {n:Nat}(h:aR [r0,r1,r2,r3,r4,r5,r6,r7,r8,r9,r10,r11,r12]<=n):am r0<=n/\am r1<=n/\am r2<=n/\am r3<=n/\am r4<=n/\am r5<=n/\am r6<=n/\am r7<=n/\am r8<=n/\am r9<=n/\am r10<=n/\am r11<=n/\am r12<=n:=⟨gz h (by simp),gz h (by simp),gz h (by simp),gz h (by simp),gz h (by simp),gz h (by simp),gz h (by simp),gz h (by simp),gz h (by simp),gz h (by simp),gz h (by simp),gz h (by simp),gz h (by simp)⟩
theorem Rl (h0:Rw [.sl [tI]] r0)(h1:Rw [tB] r1)(h2:Rw [tI,tI] r2)(h3:Rw [tI] r3)(h4:Rw [tI,tI] r4)(h5:Rw [tI,tI,tI] r5)(h6:Rw [tI,tI,tI] r6)(h7:Rw [tI,tI,tI,tI] r7)(h8:Rw [.sl [.sl [tI]]] r8)(h9:Rw [.sl [tI,tI]] r9)(h10:Rw [.sl [tI]] r10)(h11:Rw [tI,tI,tI] r11)(h12:Rw [tI] r12)(hc:aR [r0,r1,r2,r3,r4,r5,r6,r7,r8,r9,r10,r11,r12]<=1099511627776):bg [r0,r1,r2,r3,r4,r5,r6,r7,r8,r9,r10,r11,r12] 1<=1152921504606846976:=Mh (by intro r hr;simp only[Zn,YG,or_false]at hr;rcases hr with rfl|rfl|rfl|rfl|rfl|rfl|rfl|rfl|rfl|rfl|rfl|rfl|rfl;exact h0.marks (by decide);exact h1.marks (by decide);exact h2.marks (by decide);exact h3.marks (by decide);exact h4.marks (by decide);exact h5.marks (by decide);exact h6.marks (by decide);exact h7.marks (by decide);exact h8.marks (by decide);exact h9.marks (by decide);exact h10.marks (by decide);exact h11.marks (by decide);exact h12.marks (by decide)) hc
def mkQ (p:List af):List af->Prop
 |[]=>True
 |r::rs=>dW r (bg p 1)=dW r (bg (FO p 1) 1)/\mkQ (p++[r]) rs
theorem Mm:∀ (p rs:List af),mkQ p rs
 |_,[]=>True.intro
 |p,_::rs=>⟨congrArg _ Ay.symm,Mm (p++_) rs⟩
theorem agF (h0:Rw [.sl [tI]] r0)(h1:Rw [tB] r1)(h2:Rw [tI,tI] r2)(h3:Rw [tI] r3)(h4:Rw [tI,tI] r4)(h5:Rw [tI,tI,tI] r5)(h6:Rw [tI,tI,tI] r6)(h7:Rw [tI,tI,tI,tI] r7)(h8:Rw [.sl [.sl [tI]]] r8)(h9:Rw [.sl [tI,tI]] r9)(h10:Rw [.sl [tI]] r10)(h11:Rw [tI,tI,tI] r11)(h12:Rw [tI] r12)(hc:aR [r0,r1,r2,r3,r4,r5,r6,r7,r8,r9,r10,r11,r12]<=1099511627776):bg [r0,r1,r2,r3,r4,r5,r6,r7,r8,r9,r10,r11,r12] 1<=1152921504606846976/\mkQ [r0] [r1,r2,r3,r4,r5,r6,r7,r8,r9,r10,r11,r12]/\bg (FO [r0,r1,r2,r3,r4,r5,r6,r7,r8,r9,r10,r11,r12] 1) 1=bg [r0,r1,r2,r3,r4,r5,r6,r7,r8,r9,r10,r11,r12] 1/\(am r0<=1099511627776/\am r1<=1099511627776/\am r2<=1099511627776/\am r3<=1099511627776/\am r4<=1099511627776/\am r5<=1099511627776/\am r6<=1099511627776/\am r7<=1099511627776/\am r8<=1099511627776/\am r9<=1099511627776/\am r10<=1099511627776/\am r11<=1099511627776/\am r12<=1099511627776):=
 ⟨Rl h0 h1 h2 h3 h4 h5 h6 h7 h8 h9 h10 h11 h12 hc,Mm _ _,Ay,Ae hc⟩
end
end Go.V
namespace Go.V
def dlT (b:af)(f:Int):Int:=ah (ax b f 0) 0 0
structure DlT (b x:af)(f:Int):Prop where
 m:mailOk b x=true
 f0:0<=f
 f1:f<b.length
 n:0<(ax b f 0).length
 t0:0<=dlT b f
 t1:dlT b f<b.length
 l:x.length=b.length
end Go.V
namespace Go.V
structure HsT (cs us es:af)(a:Int):Prop where
 a0:0<=a
 m:smM cs us es a=peM es (a/16)
 f:smF cs us es a=peF es (a/16)
 n:smM cs us es a≠0
section
variable {a0 a1 a2: af} {a3: Int} {a4 a5 a6 a7 a8 a9 aA aB: af} {aC: Int} {aD: af} {aE aF aG aH: Int} {aI: Bool} {aJ aK: Int} {aL: af} {aM aN: Int}
end
end Go.V
namespace Go.V
abbrev Pr :=Int×Int
def jnS (o:List Pr)(x:Pr):List Pr:=match o.getLast? with
 |some y=>if y.1+y.2=x.1 then o.dropLast++[(y.1,y.2+x.2)]else o++[x]
 |none=>o++[x]
def jnL (l:List Pr):List Pr:=l.foldl jnS []
structure Ip where
 o:List Pr
 r:Pr
 d:Bool
def ipS (s:Ip)(x:Pr):Ip:=
 if x.1+x.2=s.r.1 then⟨s.o,(x.1,x.2+s.r.2),s.d⟩
 else if s.r.1+s.r.2=x.1 then⟨s.o,(s.r.1,s.r.2+x.2),s.d⟩
 else if s.r.1<x.1/\s.d=false then⟨s.o++[s.r,x],s.r,true⟩
 else⟨s.o++[x],s.r,s.d⟩
def ipE (s:Ip):List Pr:=if s.d then s.o else s.o++[s.r]
def ipL (l:List Pr)(r:Pr):List Pr:=ipE (l.foldl ipS ⟨[],r,false⟩)
structure Sp where
 o:List Pr
 d:Bool
def rsS (r:Pr)(s:Sp)(x:Pr):Sp:=if s.d=false/\r.1<x.1 then⟨s.o++[r]++[x],true⟩else⟨s.o++[x],s.d⟩
def chP:List Pr->Prop
 |[]=>True
 |[x]=>0<x.2
 |x::y::l=>0<x.2/\x.1+x.2<y.1/\chP (y::l)
end Go.V
namespace Go.V
structure oU (cs us es:af):Prop where
 n0:1<=cs.length
 n1:cs.length<=32
 u:us.length=cs.length
 l:∀ i:Int,0<=i->i<cs.length->(ax cs i 0).length=16
 c:∀ i k:Int,0<=i->i<cs.length->0<=k->k<16->0<=ah (ax cs i 0) k 0/\ah (ax cs i 0) k 0<=999/\(sn us i 0=false->ah (ax cs i 0) k 0=0)
 e0:1<=es.length
 e1:es.length<=32
 e:∀ i:Int,0<=i->i<es.length->0<=ah es i 0/\ah es i 0<=2/\(ah es i 0=0->ah es i 1=0)/\(0<ah es i 0->0<=ah es i 1/\ah es i 1<cs.length)
 m:∀ i:Int,0<=i->i<cs.length->sn us i 0=gJ es i
theorem aak {cs us es:af}(h:machOk cs us es=true):oU cs us es:=by
 obtain⟨h1,h2,h3⟩:=Rj h;have a:=vH h1;have b:=A6 h2;refine⟨a.2.1,a.2.2,a.1,fun i i0 i1=>acg h1 i0 i1,fun i k i0 i1 k0 k1=>?_,b.1,b.2,fun i i0 i1=>aeI h2 i0 i1,h3⟩;have q:=h1;unfold framesOk at q;simp only[Zc,VQ]at q;have r:=dL.1 q.2 i i0 i1;unfold ir at r;simp only[Zc,VQ]at r;have s:=dL.1 r.2 k k0 (by omega);unfold nG at s;simp only[Zc,Z7,VQ]at s;have t:=bA.1 s.1;refine⟨t.1,t.2,fun f=>?_⟩;rcases s.2 with w|w
 ·rw[f]at w;cases w
 ·exact w
theorem aal {cs us es:af}(h:oU cs us es):machOk cs us es=true:=by
 have f:framesOk cs us=true:=Lt (i:=cs.length) (bA.2 ⟨by have:=h.n0;omega,by have:=h.n1;omega⟩) h.u (fun i i0 i1=>QS (k:=16) (h.l i i0 i1) (fun k k0 k1=>by
  have c:=h.c i k i0 i1 k0 k1;refine QD (bA.2 ⟨c.1,c.2.1⟩) ?_;cases q:sn us i 0 with
  |true=>exact .inl rfl
  |false=>exact .inr (c.2.2 q)) (Ye _)) (Ye _)
 have t:tableOk es us.length=true:=by
  rw[Nr (i:=es.length) (fun i i0 i1=>RN (by have:=h.e i i0 i1;rw[h.u];exact this)) (Ye _)];exact bA.2 ⟨by have:=h.e0;omega,by have:=h.e1;omega⟩
 exact HC (i:=us.length) f t (fun i i0 i1=>Mj (h.m i i0 (by rw[h.u]at i1;exact i1))) (Ye _)
theorem Ml {es:af}{f:Int}:∀ {n:Nat},0<(ye es f n).length↔∃ i:Nat,i<n/\ah es i 0≠0/\ah es i 1=f
 |0=>⟨fun h=>absurd h (Nat.lt_irrefl _),fun⟨i,h,_⟩=>absurd h (by omega)⟩
 | n+1=>by
   by_cases c:ah es n 0≠0/\ah es n 1=f
   ·rw[ye,VR c,Zd];exact⟨fun _=>⟨n,by omega,c⟩,fun _=>by simp only[Zp,Zs];omega⟩
   ·rw[ye,VT c,Ml (n:=n)]
    constructor
    ·rintro⟨i,h,q⟩;exact⟨i,by omega,q⟩
    ·rintro⟨i,h,q⟩;by_cases z:i=n
     ·subst z;exact absurd q c
     ·exact⟨i,by omega,q⟩
theorem qX {es:af}{f:Int}:gJ es f=true↔∃ i:Nat,i<es.length/\ah es i 0≠0/\ah es i 1=f:=D1.trans Ml
theorem oO {es:af}{n i:Nat}{r:ay}(h:n<es.length):(es.set n r).getD i []=if i=n then r else es.getD i []:=by
 simp only[Zr,List.getElem?_set];by_cases c:n=i
 ·subst c;rw[VR rfl,VR h,VR rfl];rfl
 ·rw[VT c,VT (Ne.symm c)]
theorem giS {es:af}{n i:Int}{r:ay}{j:Nat}(n0:0<=n)(n1:n<es.length)(i0:0<=i):ah (es.set n.toNat r) i j=if i=n then O8 (r.getD j .g)else ah es i j:=by
 unfold ah;rw[oO (by omega)];by_cases c:i=n
 ·rw[VR (by omega),VR c]
 ·rw[VT (by omega),VT c]
theorem gbS {es:af}{n i:Int}{r:ay}{j:Nat}(n0:0<=n)(n1:n<es.length)(i0:0<=i):sn (es.set n.toNat r) i j=if i=n then lfB (r.getD j .g)else sn es i j:=by
 unfold sn;rw[oO (by omega)];by_cases c:i=n
 ·rw[VR (by omega),VR c]
 ·rw[VT (by omega),VT c]
theorem gsS {es:af}{n i:Int}{r:ay}{j:Nat}(n0:0<=n)(n1:n<es.length)(i0:0<=i):ax (es.set n.toNat r) i j=if i=n then Ko (r.getD j .g)else ax es i j:=by
 unfold ax;rw[oO (by omega)];by_cases c:i=n
 ·rw[VR (by omega),VR c]
 ·rw[VT (by omega),VT c]
def CW (es:af)(p:Int):af:=es.set p.toNat [.i 0,.i 0]
def dfU (us es:af)(f:Int):af:=if gJ es f=true then us else us.set f.toNat [.v (.bool false)]
def dfC (cs es:af)(f:Int):af:=if gJ es f=true then cs else cs.set f.toNat [.s 1 (pz 16 [.i 0])]
theorem OP {k:Int}(k0:0<=k)(k1:k<16):ah (pz 16 [.i 0]) k 0=0:=by
 show ah (ZV 16 [L.i 0]) k 0=0;unfold ah;rw[Zr (l:=ZV _ _),List.getElem?_replicate,VR (by omega)];rfl
theorem ab4 {cs us es es':af}{f:Int}(h:oU cs us es)(f0:0<=f)(f1:f<cs.length)(l:es'.length=es.length) 
 (e:∀ i:Int,0<=i->i<es.length->0<=ah es' i 0/\ah es' i 0<=2/\(ah es' i 0=0->ah es' i 1=0)/\(0<ah es' i 0->0<=ah es' i 1/\ah es' i 1<cs.length))
 (m:∀ i:Int,0<=i->i<cs.length->i≠f->gJ es' i=gJ es i) (g:gJ es' f=true->gJ es f=true):oU (dfC cs es' f) (dfU us es' f) es':=by
 unfold dfC dfU;by_cases q:gJ es' f=true
 ·rw[VR q,VR q];refine⟨h.n0,h.n1,h.u,h.l,h.c,by rw[l];exact h.e0,by rw[l];exact h.e1,fun i i0 i1=>e i i0 (by omega),fun i i0 i1=>?_⟩;by_cases c:i=f
  ·rw[c,q,h.m f f0 f1,g q]
  ·rw[m i i0 i1 c];exact h.m i i0 i1
 ·have hu:=h.u;rw[VT q,VT q];refine⟨by rw[ZO];exact h.n0,by rw[ZO];exact h.n1,by rw[ZO,ZO];exact h.u,fun i i0 i1=>?_,fun i k i0 i1 k0 k1=>?_,by rw[l];exact h.e0,by rw[l];exact h.e1,fun i i0 i1=>by rw[ZO];exact e i i0 (by omega),fun i i0 i1=>?_⟩
  ·rw[ZO]at i1;rw[gsS f0 f1 i0];split;rfl;exact h.l i i0 i1
  ·rw[ZO]at i1;rw[gsS f0 f1 i0,gbS f0 (by omega) i0];split
   ·show 0<=ah (pz 16 [.i 0]) k 0/\ah (pz 16 [.i 0]) k 0<=999/\(_->ah (pz 16 [.i 0]) k 0=0);rw[OP k0 k1];exact⟨by omega,by omega,fun _=>rfl⟩
   ·exact h.c i k i0 i1 k0 k1
  ·rw[ZO]at i1;rw[gbS f0 (by omega) i0];split
   ·rename_i c;subst c;show false=_;cases z:gJ es' i with
    |false=>rfl
    |true=>exact absurd z q
   ·rename_i c;rw[m i i0 i1 c];exact h.m i i0 i1
theorem aeN {cs us es:af}{p:Int}(h:oU cs us es)(hp:peM es p≠0):oU (dfC cs (CW es p) (peF es p)) (dfU us (CW es p) (peF es p)) (CW es p):=by
 have pr:0<=p/\p<es.length:=by
  by_cases c:0<=p/\p<es.length;exact c;exact absurd (Jf c).1 hp
 have em:peM es p=ah es p 0:=by unfold peM;rw[VR pr]
 have ef:peF es p=ah es p 1:=by unfold peF;rw[VR pr]
 rw[em]at hp;have ep:=h.e p pr.1 pr.2;have fr:=ep.2.2.2 (by omega);rw[ef];have z:∀ i:Int,0<=i->ah (CW es p) i 0=(if i=p then 0 else ah es i 0)/\ah (CW es p) i 1=if i=p then 0 else ah es i 1:=fun i i0=>⟨giS pr.1 pr.2 i0,giS pr.1 pr.2 i0⟩
 have lu:(CW es p).length=es.length:=ZO;have mp:∀ f:Int,gJ (CW es p) f=true↔∃ i:Nat,i<es.length/\(i:Int)≠p/\ah es i 0≠0/\ah es i 1=f:=fun f=>by
  rw[qX,lu]
  constructor
  ·rintro⟨i,i1,a,b⟩;rw[(z i (by omega)).1]at a;rw[(z i (by omega)).2]at b;by_cases c:(i:Int)=p
   ·rw[VR c]at a;exact absurd rfl a
   ·rw[VT c]at a b;exact⟨i,i1,c,a,b⟩
  ·rintro⟨i,i1,c,a,b⟩;exact⟨i,i1,by rw[(z i (by omega)).1,VT c];exact a,by rw[(z i (by omega)).2,VT c];exact b⟩
 refine ab4 h fr.1 fr.2 lu (fun i i0 i1=>?_) (fun i i0 i1 ne=>?_) (fun q=>?_)
 ·rw[(z i i0).1,(z i i0).2];split;exact⟨by omega,by omega,fun _=>rfl,fun q=>by omega⟩;exact h.e i i0 i1
 ·rw[WO,mp,qX]
  constructor
  ·rintro⟨i,i1,_,a,b⟩;exact⟨i,i1,a,b⟩
  ·rintro⟨k,k1,a,b⟩;refine⟨k,k1,fun c=>?_,a,b⟩;rw[c]at b;exact ne b.symm
 ·obtain⟨i,i1,_,a,b⟩:=(mp _).1 q;exact qX.2 ⟨i,i1,a,b⟩
end Go.V
namespace Go.V
theorem adS {es:af}{p:Int}(h:peM es p≠0):(0<=p/\p<es.length)/\peM es p=ah es p 0/\peF es p=ah es p 1:=by
 have pr:0<=p/\p<es.length:=by
  by_cases c:0<=p/\p<es.length;exact c;exact absurd (Jf c).1 h
 exact⟨pr,by unfold peM;rw[VR pr],by unfold peF;rw[VR pr]⟩
def E1 (es:af)(p m f:Int):af:=es.set p.toNat [.i m,.i f]
theorem uz {es:af}{p m f:Int}:(E1 es p m f).length=es.length:=ZO
theorem rz {es:af}{p m f:Int}(p0:0<=p)(p1:p<es.length)(i:Int)(i0:0<=i):ah (E1 es p m f) i 0=(if i=p then m else ah es i 0)/\ah (E1 es p m f) i 1=if i=p then f else ah es i 1:=⟨giS p0 p1 i0,giS p0 p1 i0⟩
theorem F8 {es:af}{p m f g:Int}(p0:0<=p)(p1:p<es.length)(hm:m≠0):gJ (E1 es p m f) g=true↔f=g\/∃ i:Nat,i<es.length/\(i:Int)≠p/\ah es i 0≠0/\ah es i 1=g:=by
 rw[qX,uz]
 constructor
 ·rintro⟨i,i1,a,b⟩;rw[(rz p0 p1 i (by omega)).1]at a;rw[(rz p0 p1 i (by omega)).2]at b;by_cases c:(i:Int)=p
  ·rw[VR c]at b;exact .inl b
  ·rw[VT c]at a b;exact .inr ⟨i,i1,c,a,b⟩
 ·rintro(q|⟨i,i1,c,a,b⟩)
  ·obtain⟨n,rfl⟩:=Z4 p0;exact⟨n,by omega,by rw[(rz p0 p1 n (by omega)).1,VR rfl];exact hm,by rw[(rz p0 p1 n (by omega)).2,VR rfl];exact q⟩
  ·exact⟨i,i1,by rw[(rz p0 p1 i (by omega)).1,VT c];exact a,by rw[(rz p0 p1 i (by omega)).2,VT c];exact b⟩
theorem aeC {es:af}{p m f:Int}{n:Nat}(p0:0<=p)(p1:p<es.length)(hm:1<=m/\m<=2)(hf:0<=f/\f<n) 
 (e:∀ i:Int,0<=i->i<es.length->0<=ah es i 0/\ah es i 0<=2/\(ah es i 0=0->ah es i 1=0)/\(0<ah es i 0->0<=ah es i 1/\ah es i 1<n)):
 ∀ i:Int,0<=i->i<es.length->0<=ah (E1 es p m f) i 0/\ah (E1 es p m f) i 0<=2/\(ah (E1 es p m f) i 0=0->ah (E1 es p m f) i 1=0)/\(0<ah (E1 es p m f) i 0->0<=ah (E1 es p m f) i 1/\ah (E1 es p m f) i 1<n):=fun i i0 i1=>by
 rw[(rz p0 p1 i i0).1,(rz p0 p1 i i0).2];split;exact⟨by omega,by omega,fun q=>by omega,fun _=>hf⟩;exact e i i0 i1
theorem adu {cs us es:af}{p f:Int}(h:oU cs us es)(p0:0<=p)(p1:p<es.length)(hp:ah es p 0=0)(f0:0<=f)(f1:f<cs.length):oU cs (us.set f.toNat [.v (.bool true)]) (E1 es p 2 f):=by
 have hu:=h.u;refine⟨h.n0,h.n1,by rw[ZO];exact h.u,h.l,fun i k i0 i1 k0 k1=>?_,by rw[uz];exact h.e0,by rw[uz];exact h.e1,fun i i0 i1=>aeC p0 p1 (by omega) ⟨f0,f1⟩ h.e i i0 (by rw[uz]at i1;exact i1),fun i i0 i1=>?_⟩
 ·have c:=h.c i k i0 i1 k0 k1;refine⟨c.1,c.2.1,fun q=>?_⟩;rw[gbS f0 (by omega) i0]at q;split at q
  ·cases q
  ·exact c.2.2 q
 ·rw[gbS f0 (by omega) i0];split
  ·rename_i c;subst c;show true=_;exact((F8 p0 p1 (by omega)).2 (.inl rfl)).symm
  ·rename_i c;rw[h.m i i0 i1,WO,F8 p0 p1 (by omega),qX]
   constructor
   ·rintro⟨k,k1,a,b⟩;refine .inr ⟨k,k1,fun q=>?_,a,b⟩;rw[q]at a;exact a hp
   ·rintro(q|⟨k,k1,_,a,b⟩);exact absurd q.symm c;exact⟨k,k1,a,b⟩
end Go.V
namespace Go.V
def ahn (e:ay):Pr:=(O8 (e.getD 0 .g),O8 (e.getD 1 .g))
def GK (es:af):List Pr:=es.map ahn
def frP (p:Pr):ay:=[.i p.1,.i p.2]
def rowP (l:List Pr):af:=l.map frP
theorem Et {es:af}:(GK es).length=es.length:=YY _
theorem Es {es:af}{i:Int}(i0:0<=i)(i1:i<es.length):(GK es)[i.toNat]?=some (ah es i 0,ah es i 1):=by
 unfold GK ah;rw[List.getElem?_map,Zr (l:=es),Zu (by omega)];rfl
theorem PX {es:af}{x:Pr}(h:x∈GK es):∃ i:Nat,i<es.length/\x=(ah es i 0,ah es i 1):=by
 obtain⟨i,hi,e⟩:=Wb h;rw[Et]at hi;refine⟨i,hi,?_⟩;have q:=Es (es:=es) (i:=(i:Int)) (by omega) (by omega);rw[Zx,Zu (by rw[Et];exact hi)]at q;rw[<-e];exact YA q
theorem K7:∀ {l:List Pr},(∀ x∈l,0<x.2)->(∀ i:Nat,i+1<l.length->∀ x y,l[i]?=some x->l[i+1]?=some y->x.1+x.2<y.1)->chP l
 |[],_,_=>trivial
 |[x],h,_=>h x (by simp)
 |x::y::l,h,g=>⟨h x (by simp),g 0 (by simp) x y rfl rfl,K7 (fun z hz=>h z (by simp[hz])) (fun i hi a b ha hb=>g (i+1) (by simp at hi ⊢;omega) a b (by simpa using ha) (by simpa using hb))⟩
structure RgT (n:Int)(rs:af):Prop where
 n0:1<=n
 n1:n<=32
 c:chP (GK rs)
 b:∀ x∈GK rs,0<=x.1/\1<=x.2/\x.1+x.2<=n
theorem aaH {n:Int}{rs:af}(h:rgOk n rs=true):RgT n rs:=by
 unfold rgOk at h;rw[Zc]at h;obtain⟨h1,h2⟩:=h;have r:=bA.1 h2;have at':∀ i:Int,0<=i->i<rs.length->(0<=ah rs i 0/\1<=ah rs i 1/\ah rs i 0+ah rs i 1<=n)/\(0<i->¬ ah rs i 0<=bO .add Za (ah rs (i-1) 0) (ah rs (i-1) 1)):=fun i i0 i1=>by
  have a:=dL.1 h1 i i0 i1;unfold vQ at a;simp only[Zc,Bool.not_eq_true',Bool.and_eq_false_iff,decide_eq_false_iff_not]at a;have b:=a.1;unfold rngIn at b;simp only[Zc]at b;have b1:=bA.1 b.1;have b2:=bA.1 b.2;refine⟨by omega,fun p=>?_⟩;rcases a.2 with q|q;exact absurd p q;exact q
 have bd:∀ x∈GK rs,0<=x.1/\1<=x.2/\x.1+x.2<=n:=fun x hx=>by
  obtain⟨i,hi,rfl⟩:=PX hx;exact(at' i (by omega) (by omega)).1
 refine⟨r.1,r.2,K7 (fun x hx=>by have:=(bd x hx).2.1;omega) (fun i hi x y hx hy=>?_),bd⟩;rw[Et]at hi;have qx:=Es (es:=rs) (i:=(i:Int)) (by omega) (by omega);have qy:=Es (es:=rs) (i:=((i+1:Nat):Int)) (by omega) (by omega);rw[Zx]at qx qy;rw[hx]at qx;rw[hy]at qy;cases qx;cases qy;have a:=(at' ((i+1:Nat):Int) (by omega) (by omega)).2 (by omega);have b:=(at' (i:Int) (by omega) (by omega)).1;rw[show((i+1:Nat):Int)-1=(i:Int)by omega,bF (by omega)]at a;show ah rs i 0+ah rs i 1<_;omega
def ovB (x r:Pr):Bool:=decide (x.1<r.1+r.2)&&decide (r.1<x.1+x.2)
def rpB (n:Int)(rs:af)(a l:Int):Bool:=rgOk n rs&&(rngIn n a l&&(GK rs).all fun x=> !ovB x (a,l))
def rpL (n:Int)(rs:af)(a l:Int):af:=if rpB n rs a l=true then rowP (ipL (GK rs) (a,l))else rs
structure RpP (rs:af)(a0 l0 i:Int)(o:af)(a l:Int)(d:Bool):Prop where
 s:∃ o',o=rowP o'/\((GK rs).take i.toNat).foldl ipS ⟨[],(a0,l0),false⟩=⟨o',(a,l),d⟩
 n:∀ x∈(GK rs).take i.toNat,ovB x (a0,l0)=false
 v:∀ x∈(GK rs).drop i.toNat,ovB x (a,l)=ovB x (a0,l0)
 b:0<=a/\1<=l/\a+l<=32
end Go.V
namespace Go.V
section
variable {n: Int} {rs: af} {a0 l0 i: Int} {o: af} {a l: Int} {d: Bool}
structure ahy (rs:af)(a0 l0 i:Int)(o:af)(d:Bool):Prop where
 s:∃ o',o=rowP o'/\((GK rs).take i.toNat).foldl (rsS (a0,l0)) ⟨[],false⟩=⟨o',d⟩
 n:∀ x∈(GK rs).take i.toNat,ovB x (a0,l0)=false
 m:o.length<=2*i.toNat
def jnR (rs:af):af:=rowP (jnL (GK rs))
end
end Go.V
namespace Go.V
theorem aeQ {o:af}{n:Int}{x:Value}(h:Rw [tI,tI] o)(n0:0<=n)(n1:n<o.length):sH (.s 2 o) [(n.toNat,1)] [.v x]=o.set n.toNat [.i (ah o n 0),.v x]:=by
 show o.set n.toNat ((o.getD n.toNat []).take 1++[.v x]++(o.getD n.toNat []).drop (1+1))=_;rw[h.eta n0 n1];rfl
theorem aeP {o:af}{n:Int}{x:Value}(h:Rw [tI,tI] o)(n0:0<=n)(n1:n<o.length):sH (.s 2 o) [(n.toNat,0)] [.v x]=o.set n.toNat [.v x,.i (ah o n 1)]:=by
 show o.set n.toNat ((o.getD n.toNat []).take 0++[.v x]++(o.getD n.toNat []).drop (0+1))=_;rw[h.eta n0 n1];rfl
theorem aaX {o:af}{n:Int}{j:Nat}(h:Rw [tI,tI] o)(n0:0<=n)(n1:n<o.length)(hj:j<2):∃ rec o',bX (.s 2 o) [(n.toNat,j)]=some (rec,o')/\o'+1<=rec.length:=gV (by omega) (by
 rw[h.eta n0 n1];show j+1<=2;omega)
theorem L3 {o:af}{n:Int}{j:Nat}(h:Rw [tI,tI] o)(n0:0<=n)(n1:n<o.length)(hj:j<2):∃ rec o',bX (L.s 2 o) [(n.toNat,j)]=some (rec,o')/\o'+[L.v (Zm Zz 0)].length<=rec.length/\Yo [L.v (Zm Zz 0)].length (Yz o' rec)=mH ai (L.s 2 o) [(n.toNat,j)] 0 [L.v (Zm Zz 0)]:=by
 rcases(show j=0\/j=1 by omega)with rfl|rfl
 ·exact fZ (z0:=[.i 0,.i 0]) (z:=[.i 0]) h.wf (by omega) rfl (by decide)
 ·exact fZ (z0:=[.i 0,.i 0]) (z:=[.i 0]) h.wf (by omega) rfl (by decide)
theorem iJ {l:af}{sz j:Nat}{i:Int}(h0:0<=i):GI (.s sz l) [(i.toNat,j)]=ah l i j:=by
 rw[HN];unfold ah;rw[Zx]
structure JnP (rs:af)(i:Int)(o:af):Prop where
 s:o=rowP (((GK rs).take i.toNat).foldl jnS [])
 l:o.length<=i.toNat
section
variable {rs o: af} {i: Int}
end
end Go.V
namespace Go.V
def Km (rs:af)(n:Int):Nat->Int
 |0=> -1
 |k+1=>if n<=ah rs k 1/\(Km rs n k<0\/ah rs k 1<ah rs (Km rs n k) 1)then k else Km rs n k
def fe (rs:af)(n:Int):Int:=Km rs n rs.length
theorem KZ {rs:af}{n:Int}:∀ k:Nat,-1<=Km rs n k/\Km rs n k<k/\(0<=Km rs n k->n<=ah rs (Km rs n k) 1)
 |0=>⟨Ye _,by show(-1:Int)<0;omega,fun h=>absurd h (by show¬ (0:Int)<= -1;omega)⟩
 | k+1=>by
   have h:=KZ (rs:=rs) (n:=n) k;unfold Km;split
   ·rename_i c;exact⟨by omega,by omega,fun _=>c.1⟩
   ·exact⟨h.1,by omega,h.2.2⟩
structure Kt (rs:af)(n i b:Int):Prop where
 e:b=Km rs n i.toNat
section
variable {rs: af} {n i b: Int}
theorem abJ:Kt rs n 0 (-1):=⟨rfl⟩
theorem abM (h:Kt rs n i b)(i0:0<=i): -1<=b/\b<i\/(i=0/\b= -1):=by
 have q:=KZ (rs:=rs) (n:=n) i.toNat;rw[<-h.e]at q;omega
theorem abK (h:Kt rs n i b)(i0:0<=i)(c:n<=ah rs i 1)(d:b<0\/ah rs i 1<ah rs b 1):Kt rs n (i+1) i:=⟨by
 rw[show(i+1).toNat=i.toNat+1 by omega,Km,Zq i0, <-h.e,VR ⟨c,d⟩]⟩
theorem abL (h:Kt rs n i b)(i0:0<=i)(c:¬ (n<=ah rs i 1/\(b<0\/ah rs i 1<ah rs b 1))):Kt rs n (i+1) b:=⟨by
 rw[show(i+1).toNat=i.toNat+1 by omega,Km,Zq i0, <-h.e,VT c]⟩
theorem Oh (h:Kt rs n i b)(i1:i<=rs.length)(i2:(rs.length:Int)<=i):b=fe rs n:=by
 rw[h.e];unfold fe;rw[show i.toNat=rs.length by omega]
end
def tkB (p:Int)(rs:af)(n:Int):Bool:=rgOk p rs&&(decide (1<=n)&&decide (0<=fe rs n))
def BY (rs:af)(b:Int):af:=rs.take b.toNat++rs.drop (b+1).toNat
def tkL (p:Int)(rs:af)(n:Int):af:=if tkB p rs n=true then(if ah rs (fe rs n) 1=n then BY rs (fe rs n)else rs.set (fe rs n).toNat [.i (ah rs (fe rs n) 0+n),.i (ah rs (fe rs n) 1-n)])else rs
def tkA (p:Int)(rs:af)(n:Int):Int:=if tkB p rs n=true then ah rs (fe rs n) 0 else-1
theorem PW {p n:Int}{rs:af}(h:tkB p rs n=false):tkL p rs n=rs/\tkA p rs n= -1:=by unfold tkL tkA;rw[h];exact⟨rfl,rfl⟩
theorem aa2 {p n:Int}{rs:af}(h:rgOk p rs=false):tkB p rs n=false:=by unfold tkB;rw[h];rfl
theorem aa3 {p n:Int}{rs:af}(h:n<1):tkB p rs n=false:=by unfold tkB;rw[VP (by omega)];simp
theorem aa4 {p n:Int}{rs:af}(h:fe rs n<0):tkB p rs n=false:=by unfold tkB;rw[VP (p:=0<=fe rs n) (by omega)];simp
theorem ahk {p n:Int}{rs:af}(h:rgOk p rs=true)(g:1<=n)(b:0<=fe rs n):tkB p rs n=true:=by unfold tkB;rw[h,VO g,VO b];rfl
theorem aaZ {p n:Int}{rs:af}(h:tkB p rs n=true)(e:ah rs (fe rs n) 1=n):tkL p rs n=BY rs (fe rs n)/\tkA p rs n=ah rs (fe rs n) 0:=by
 unfold tkL tkA;rw[VR h,VR h,VR e];exact⟨rfl,rfl⟩
theorem aa0 {p n:Int}{rs:af}(h:tkB p rs n=true)(e:ah rs (fe rs n) 1≠n):tkL p rs n=rs.set (fe rs n).toNat [.i (ah rs (fe rs n) 0+n),.i (ah rs (fe rs n) 1-n)]/\tkA p rs n=ah rs (fe rs n) 0:=by
 unfold tkL tkA;rw[VR h,VR h,VT e];exact⟨rfl,rfl⟩
structure TkT (p:Int)(rs:af)(n:Int):Prop where
 i0:0<=fe rs n
 i1:fe rs n<rs.length
 n0:1<=n
 a0:0<=ah rs (fe rs n) 0
 l0:n<=ah rs (fe rs n) 1
 e:ah rs (fe rs n) 0+ah rs (fe rs n) 1<=p
 p0:p<=32
theorem Er {p n:Int}{rs:af}(h:tkB p rs n=true):TkT p rs n:=by
 unfold tkB at h;simp only[Zc,VQ]at h;obtain⟨h1,h2,h3⟩:=h;have T:=aaH h1;have b:=KZ (rs:=rs) (n:=n) rs.length;change-1<=fe rs n/\fe rs n<rs.length/\(0<=fe rs n->n<=ah rs (fe rs n) 1)at b;have t:=T.b _ (ZC (Es (es:=rs) h3 b.2.1));exact⟨h3,b.2.1,h2,t.1,b.2.2 h3,t.2.2,T.n1⟩
theorem OE {rs:af}{b:Int}{r:ay}(b0:0<=b):BY (rs.set b.toNat r) b=BY rs b:=by
 unfold BY;rw[List.take_set_of_le (Ze _),show(b+1).toNat=b.toNat+1 by omega,List.drop_set_of_lt (by omega)]
theorem S9 {fs:List Ty}{rs:af}{b:Int}(h:Rw fs rs)(b0:0<=b):Rw fs (BY rs b)/\(BY rs b).length<=rs.length:=by
 have l:(BY rs b).length<=rs.length:=by
  unfold BY;rw[Zd,Zk,Zt];omega
 refine⟨⟨ZM l h.1,fun e he=>?_⟩,l⟩;rcases Zg.1 he with q|q;exact h.2 e (Xu q);exact h.2 e (Xv q)
theorem aeK {p n:Int}{rs:af}(h:Rw [tI,tI] rs):Rw [tI,tI] (tkL p rs n)/\(tkL p rs n).length<=rs.length:=by
 cases c:tkB p rs n with
 |false=>rw[(PW c).1];exact⟨h,Ze _⟩
 | true=>
   have T:=Er c;have T1:=T.a0;have T2:=T.l0;have T3:=T.e;have T4:=T.p0;have T5:=T.n0;by_cases e:ah rs (fe rs n) 1=n
   ·rw[(aaZ c e).1];exact S9 h T.i0
   ·rw[(aa0 c e).1,ZO];exact⟨Rw.set h (show cg [tI,tI] [.i (ah rs (fe rs n) 0+n),.i (ah rs (fe rs n) 1-n)]from⟨⟨rfl,show-9223372036854775808<=_/\_<=9223372036854775807 from by omega⟩,⟨rfl,show-9223372036854775808<=_/\_<=9223372036854775807 from by omega⟩,trivial⟩) _,Ze _⟩
end Go.V
namespace Go.V
def Fu (b:Int):Nat->af
 |0=>[]
 |k+1=>if hsB b k=true then Fu b k else Fu b k++[[.i k]]
def frL (n b:Int):af:=if bmOk n b=true then Fu b n.toNat else[]
theorem yq {b:Int}:∀ k:Nat,(Fu b k).length<=k
 |0=>Ze _
 | k+1=>by
   have:=yq (b:=b) k;unfold Fu;split;omega
   ·rw[Zd];show _+1<=_;omega
structure JG (b i:Int)(o:af):Prop where
 e:o=Fu b i.toNat
theorem QT {b:Int}:JG b 0 []:=⟨rfl⟩
theorem QU {b i:Int}{o:af}(h:JG b i o)(i0:0<=i)(g:hsB b i=true):JG b (i+1) o:=⟨by
 rw[h.e,show(i+1).toNat=i.toNat+1 by omega,Fu,Zq i0,VR g]⟩
theorem QV {b i:Int}{o:af}(h:JG b i o)(i0:0<=i)(g:hsB b i=false):JG b (i+1) (o++[[.i i]]):=⟨by
 rw[h.e,show(i+1).toNat=i.toNat+1 by omega,Fu,Zq i0,g];rfl⟩
theorem IJ {b i:Int}{o:af}(h:JG b i o)(i0:0<=i):(o.length:Int)<=i:=by
 have:=yq (b:=b) i.toNat;rw[<-h.e]at this;omega
theorem ach {n b:Int}(h:bmOk n b=false):frL n b=[]:=by unfold frL;rw[h];rfl
theorem II {b n i:Int}{o:af}(h:JG b i o)(g:bmOk n b=true)(i0:i<=n)(i1:n<=i):o=frL n b:=by
 rw[h.e];unfold frL;rw[VR g,show i.toNat=n.toNat by omega]
theorem DG {b:Int}:∀ k:Nat,k<=1024->Rw [tI] (Fu b k)
 |0,_=>Rw.nil
 | k+1,h=>by
   have l:=yq (b:=b) k;unfold Fu;split;exact DG k (by omega);exact Rw.append (DG k (by omega)) (aen (by omega)) (by unfold maxLen;simp only[Zp,Zs];omega)
end Go.V
namespace Go.V
def clB (ls:af)(k:Int):Bool:=inR k 0 3&&caOk ls
def ctB (ls:af)(k:Int):Bool:=clB ls k&&decide (0<(ax ls k 0).length)
def ctL (ls:af)(k:Int):af:=if ctB ls k=true then ls.set k.toNat [.s 1 ((ax ls k 0).take ((ax ls k 0).length-1))]else ls
def ctA (ls:af)(k:Int):Int:=if ctB ls k=true then ah (ax ls k 0) ((ax ls k 0).length-1) 0 else-1
def cuL (ls:af)(k a:Int):af:=ls.set k.toNat [.s 1 (ax ls k 0++[[.i a]])]
def af1 (ls:af)(k a:Int):Bool:=clB ls k&&caOk (cuL ls k a)
theorem SZ {ls:af}{k:Int}(h:ctB ls k=false):ctL ls k=ls/\ctA ls k= -1:=by unfold ctL ctA;rw[h];exact⟨rfl,rfl⟩
theorem OB {ls:af}{k:Int}(h:ctB ls k=true):ctL ls k=ls.set k.toNat [.s 1 ((ax ls k 0).take ((ax ls k 0).length-1))]/\ctA ls k=ah (ax ls k 0) ((ax ls k 0).length-1) 0:=by unfold ctL ctA;rw[VR h,VR h];exact⟨rfl,rfl⟩
theorem K9 {ls:af}{k:Int}(h:clB ls k=true):0<=k/\k<4/\ls.length=4/\(ax ls k 0).length<=8:=by
 unfold clB at h;rw[Zc]at h;have r:=bA.1 h.1;have c:=afZ h.2;have d:=c.2 k.toNat (by omega);rw[Zq r.1]at d;exact⟨r.1,by omega,c.1,d⟩
theorem Ng {ls r:af}{k:Nat}(h:Rw [.sl [tI]] ls)(g:Rw [tI] r):Rw [.sl [tI]] (ls.set k [.s 1 r]):=Rw.set h (show cg [.sl [tI]] [.s 1 r]from⟨⟨rfl,g⟩,trivial⟩) _
theorem PH {ls r:af}{k:Nat}:am (ls.set k [.s 1 r])<=am ls+am r:=by
 have s:=Ff (es:=ls) (n:=k) (e:=[.s 1 r]);have e:dC [.s 1 r]=am r:=by simp only[dC,gS,am];omega
 omega
theorem Le {l:af}{n:Nat}:am (l.take n)<=am l:=by
 have h:=Ld (a:=l.take n) (b:=l.drop n);rw[ZL]at h;omega
theorem SY {ls:af}{k:Int}(h:Rw [.sl [tI]] ls)(g:clB ls k=true):Rw [tI] (ax ls k 0):=by
 have c:=K9 g;exact Rw.sub (fs:=[.sl [tI]]) (j:=0) (i:=k) h (by omega) rfl
theorem abY {ls:af}{k:Int}(h:Rw [.sl [tI]] ls):Rw [.sl [tI]] (ctL ls k)/\am (ctL ls k)<=2*am ls:=by
 cases c:ctB ls k with
 |false=>rw[(SZ c).1];exact⟨h,by omega⟩
 | true=>
   have g:clB ls k=true:=by unfold ctB at c;rw[Zc]at c;exact c.1
   rw[(OB c).1];have a:=PH (ls:=ls) (k:=k.toNat) (r:=(ax ls k 0).take ((ax ls k 0).length-1));have b:=Le (l:=ax ls k 0) (n:=(ax ls k 0).length-1);have d:=oh (es:=ls) (i:=k) (j:=0);exact⟨Ng h (Rw.take (SY h g) _),by omega⟩
end Go.V
namespace Go.V
def qdN:af->Int->Nat
 |[],_=>0
 |e::l,r=>if qcI (e::l)<=r then 0 else qdN l r+1
structure QdP (l:af)(r i:Int):Prop where
 e:i.toNat<=qdN l r
section
variable {l: af} {r i: Int}
end
def stR (a c s:Int):ay:=[.i a,.i c,.i s]
def qaB (rm:Int)(qs:af)(a c s:Int):Bool:=quarOk rm qs&&stlOk qs a c s
def qaL (rm:Int)(qs:af)(a c s:Int):af:=if qaB rm qs a c s=true then(qs++[stR a c s]).drop (qdN (qs++[stR a c s]) rm)else qs
def qaR (rm:Int)(qs:af)(a c s:Int):af:=if qaB rm qs a c s=true then(qs++[stR a c s]).take (qdN (qs++[stR a c s]) rm)else[]
def qeN:af->Int->Nat
 |[],_=>0
 |e::l,t=>if O8 (e.getD 2 .g)<t then qeN l t+1 else 0
structure QeP (l:af)(t i:Int):Prop where
 e:i.toNat<=qeN l t
section
variable {l: af} {t i: Int}
end
def qeB (rm:Int)(qs:af)(now age:Int):Bool:=quarOk rm qs&&(inR now 0 1000000&&inR age 0 1000000)
def qeL (rm:Int)(qs:af)(now age:Int):af:=if qeB rm qs now age=true then qs.drop (qeN qs (now-age))else qs
def qeR (rm:Int)(qs:af)(now age:Int):af:=if qeB rm qs now age=true then qs.take (qeN qs (now-age))else[]
end Go.V
namespace Go.V
theorem IA {k:Nat}:∀ {l:af},(∀ e∈l,dC e<=k)->bN l<=k*l.length
 |[],_=>Zh _
 | e::l,h=>by
   have a:=h e (by simp);have b:=IA (l:=l) (fun x hx=>h x (by simp[hx]));simp only[bN,Zp,Nat.mul_succ];omega
theorem I4 {cs us es:af}(h:oU cs us es)(rc:Rw [.sl [tI]] cs)(ru:Rw [tB] us)(re:Rw [tI,tI] es):am cs<=1024/\am us<=64/\am es<=64:=by
 have n1:=h.n1;have hu:=h.u;have e1:=h.e1;refine⟨?_,?_,?_⟩
 ·have q:bN cs<=16*cs.length:=IA fun e he=>by
   obtain⟨i,hi,rfl⟩:=Wb he;have a:=rc.eta (i:=i) (by omega) (by omega);rw[Zr,Zx,Zu hi,Option.getD_some]at a;rw[a];show dC [.s 1 (ax cs i 0)]<=16;have l:=h.l i (by omega) (by omega);have w:=(Rw.sub (fs:=[.sl [tI]]) (j:=0) (i:=(i:Int)) rc (by omega) rfl).cnt rfl;have e:dC [.s 1 (ax cs i 0)]=am (ax cs i 0):=by simp only[dC,gS,am];omega
   rw[e,w];omega
  unfold am;omega
 ·rw[ru.cnt rfl];omega
 ·rw[re.cnt rfl];omega
def kmB (us es:af)(c:Int)(rs:af)(p:Int):Bool:=(!hasB rs c&&decide (0<=freeI us))&&(inR p 0 (es.length-1)&&decide (peM es p=0))
def kmU (us es:af)(c:Int)(rs:af)(p:Int):af:=if kmB us es c rs p=true then us.set (freeI us).toNat [.v (.bool true)]else us
def kmE (us es:af)(c:Int)(rs:af)(p:Int):af:=if kmB us es c rs p=true then E1 es p 2 (freeI us)else es
def kuC (cs es:af)(p:Int):af:=if peM es p≠0 then dfC cs (CW es p) (peF es p)else cs
def kuU (us es:af)(p:Int):af:=if peM es p≠0 then dfU us (CW es p) (peF es p)else us
def kuE (es:af)(p:Int):af:=if peM es p≠0 then CW es p else es
theorem acX {cs us es rs:af}{c p:Int}(h:oU cs us es):oU cs (kmU us es c rs p) (kmE us es c rs p):=by
 unfold kmU kmE;by_cases g:kmB us es c rs p=true
 ·rw[VR g,VR g];unfold kmB at g;simp only[Zc,VQ]at g;have r:=bA.1 g.2.1;have f:=t9 (us:=us);have u:=h.u;have pr:0<=p/\p<es.length:=by omega
  have z:ah es p 0=0:=by have:=g.2.2;unfold peM at this;rw[VR pr]at this;exact this
  exact adu h r.1 (by omega) z g.1.2 (by omega)
 ·rw[VT g,VT g];exact h
theorem agy {cs us es:af}{p:Int}(h:oU cs us es):oU (kuC cs es p) (kuU us es p) (kuE es p):=by
 unfold kuC kuU kuE;by_cases g:peM es p≠0
 ·rw[VR g,VR g,VR g];exact aeN h g
 ·rw[VT g,VT g,VT g];exact h
theorem rwU {us:af}{n:Nat}{b:Bool}(h:Rw [tB] us):Rw [tB] (us.set n [.v (.bool b)]):=Rw.set h (show cg [tB] [.v (.bool b)]from⟨trivial,trivial⟩) _
theorem PD {es:af}{p m f:Int}(h:Rw [tI,tI] es)(hm: -9223372036854775808<=m/\m<=9223372036854775807)(hf: -9223372036854775808<=f/\f<=9223372036854775807):Rw [tI,tI] (E1 es p m f):=Rw.set h (show cg [tI,tI] [.i m,.i f]from⟨⟨rfl,hm⟩,⟨rfl,hf⟩,trivial⟩) _
theorem agZ {cs es:af}{f:Int}(h:Rw [.sl [tI]] cs):Rw [.sl [tI]] (dfC cs es f):=by
 unfold dfC;split;exact h;exact Ng h (Rw.replicate (show cg [tI] [.i 0]from⟨⟨rfl,show-9223372036854775808<=(0:Int)/\(0:Int)<=9223372036854775807 from by omega⟩,trivial⟩) (by unfold maxLen;omega))
theorem ag0 {us es:af}{f:Int}(h:Rw [tB] us):Rw [tB] (dfU us es f):=by
 unfold dfU;split;exact h;exact rwU h
theorem Q9 {us es rs:af}{c p:Int}(hu:Rw [tB] us)(he:Rw [tI,tI] es)(l:us.length<=32):Rw [tB] (kmU us es c rs p)/\Rw [tI,tI] (kmE us es c rs p):=by
 have f:=t9 (us:=us);unfold kmU kmE
 constructor<;>split
 ·exact rwU hu
 ·exact hu
 ·exact PD he (by omega) (by omega)
 ·exact he
theorem ac2 {cs us es:af}{p:Int}(hc:Rw [.sl [tI]] cs)(hu:Rw [tB] us)(he:Rw [tI,tI] es):Rw [.sl [tI]] (kuC cs es p)/\Rw [tB] (kuU us es p)/\Rw [tI,tI] (kuE es p):=by
 unfold kuC kuU kuE;refine⟨?_,?_,?_⟩<;>split
 ·exact agZ hc
 ·exact hc
 ·exact ag0 hu
 ·exact hu
 ·exact PD (m:=0) (f:=0) he (by omega) (by omega)
 ·exact he
theorem kf {cs us es rs:af}{c:Int}(h:kerOk cs us es c rs=true):oU cs us es/\0<=c/\c<=100000/\rt rs=true:=by
 unfold kerOk at h;simp only[Zc]at h;have r:=bA.1 h.1.2;exact⟨aak h.1.1,r.1,r.2,h.2⟩
theorem LX {cs us es rs:af}{c:Int}(h:oU cs us es)(c0:0<=c)(c1:c<=100000)(r:rt rs=true):kerOk cs us es c rs=true:=O3 (aal h) (bA.2 ⟨c0,c1⟩) r
end Go.V
namespace Go.V
structure si (a0 a1 a2 a4 a5 a6 a7 a8 a9 aA aB aD aL:af):Prop where
 r0:Rw [.sl [tI]] a0
 r1:Rw [tB] a1
 r2:Rw [tI,tI] a2
 r4:Rw [tI] a4
 r5:Rw [tI,tI] a5
 r6:Rw [tI,tI,tI] a6
 r7:Rw [tI,tI,tI] a7
 r8:Rw [tI,tI,tI,tI] a8
 r9:Rw [.sl [.sl [tI]]] a9
 r10:Rw [.sl [tI,tI]] aA
 r11:Rw [.sl [tI]] aB
 r13:Rw [tI,tI,tI] aD
 r21:Rw [tI] aL
 c0:am a0<=1073741824
 c1:am a1<=1073741824
 c2:am a2<=1073741824
 c4:am a4<=1073741824
 c5:am a5<=1073741824
 c6:am a6<=1073741824
 c7:am a7<=1073741824
 c8:am a8<=1073741824
 c9:am a9<=1073741824
 c10:am aA<=1073741824
 c11:am aB<=1073741824
 c13:am aD<=1073741824
 c21:am aL<=1073741824
theorem si.hp {a0 a1 a2 a4 a5 a6 a7 a8 a9 aA aB aD aL:af}(h:si a0 a1 a2 a4 a5 a6 a7 a8 a9 aA aB aD aL):HpN a0 a1 a2 a4 a5 a6 a7 a8 a9 aA aB aD aL:=by
 have l2:=aw (es:=a2);have l5:=aw (es:=a5);have l6:=aw (es:=a6);have l7:=aw (es:=a7);have l8:=aw (es:=a8);have l13:=aw (es:=aD);have l21:=aw (es:=aL);have c2:=h.c2;have c5:=h.c5;have c6:=h.c6;have c7:=h.c7;have c8:=h.c8;have c13:=h.c13;have c21:=h.c21;exact⟨⟨h.r6,h.r7,h.r8,h.r9,h.r13,aaw h.r10 h.r11 h.c10 h.c11,aau h.r9 h.c9,by omega,by omega,by omega,by omega,h.c9⟩,h.r0,h.r1,h.r2,by omega,h.r4,h.r5,by omega,h.r21,by omega⟩
theorem Eo {fs:List Ty}{es:af}{i:Int}(h:Rw [.sl fs] es)(h0:0<=i)(h1:i<es.length):Rw fs (ax es i 0):=Rw.sub (fs:=[.sl fs]) (j:=0) (i:=i) h (by omega) rfl
end Go.V
namespace Go.V
def htB (b x:af)(f:Int):Bool:=inR f 0 (b.length-1)&&mailOk b x
theorem Nt {b x:af}{i:Int}(h:Rw [.sl [tI]] b)(h0:0<=i)(h1:i<b.length):sH (.s 1 b) [(i.toNat,0)] [.s 1 x]=b.set i.toNat [.s 1 x]:=ny (by rw[h.eta h0 h1];rfl)
theorem No {fs:List Ty}{b:af}{i:Int}(h:Rw [.sl fs] b)(h0:0<=i)(h1:i<b.length):∃ rec o',bX (.s 1 b) [(i.toNat,0)]=some (rec,o')/\o'+1<=rec.length:=gV (by omega) (by rw[h.eta h0 h1];exact Ze _)
end Go.V
namespace Go.V
def ccB (cs us es:af)(c:Int)(rs:af):Bool:=decide (c≠100000)&&kerOk cs us es c rs
theorem QC {cs us es rs:af}{c:Int}(h:ccB cs us es c rs=true):c≠100000/\kerOk cs us es c rs=true:=by
 unfold ccB at h;rw[Zc,VQ]at h;exact h
theorem abQ {cs us es rs:af}{c:Int}(h:c=100000):ccB cs us es c rs=false:=by unfold ccB;rw[VP (fun n=>n h)];rfl
theorem K5 {cs us es rs:af}{c:Int}(h:c≠100000):ccB cs us es c rs=kerOk cs us es c rs:=by unfold ccB;rw[VO h];rfl
def ktC (k:Bool)(cs es:af)(p:Int):af:=if k=true then kuC cs es p else cs
def ktU (k:Bool)(us es:af)(p:Int):af:=if k=true then kuU us es p else us
def ktE (k:Bool)(es:af)(p:Int):af:=if k=true then kuE es p else es
def ktB (k:Bool)(es:af)(p:Int):Bool:=k&&mapB es p
theorem acZ {k:Bool}{cs us es:af}{p:Int}(h:k=false):ktC k cs es p=cs/\ktU k us es p=us/\ktE k es p=es/\ktB k es p=false:=by subst h;exact⟨rfl,rfl,rfl,rfl⟩
theorem ac0 {k:Bool}{cs us es:af}{p:Int}(h:k=true):ktC k cs es p=kuC cs es p/\ktU k us es p=kuU us es p/\ktE k es p=kuE es p/\ktB k es p=mapB es p:=by subst h;exact⟨rfl,rfl,rfl,rfl⟩
theorem ac1 {cs us es:af}{p:Int}(h:mapB es p=false):kuC cs es p=cs/\kuU us es p=us/\kuE es p=es:=by
 unfold mapB at h;have:=of_decide_eq_false h;unfold kuC kuU kuE;rw[VT this,VT this,VT this];exact⟨rfl,rfl,rfl⟩
theorem ac3 {cs us es:af}{p:Int}(h:mapB es p=true):kuC cs es p=dfC cs (CW es p) (peF es p)/\kuU us es p=dfU us (CW es p) (peF es p)/\kuE es p=CW es p:=by
 unfold mapB at h;have:=VU h;unfold kuC kuU kuE;rw[VR this,VR this,VR this];exact⟨rfl,rfl,rfl⟩
theorem agx {k:Bool}{cs us es:af}{p:Int}(h:mapB es p=false):ktC k cs es p=cs/\ktU k us es p=us/\ktE k es p=es/\ktB k es p=false:=by
 cases k with
 |false=>exact acZ rfl
 |true=>have q:=ac1 (cs:=cs) (us:=us) h;exact⟨q.1,q.2.1,q.2.2,h⟩
theorem DZ {es:af}{p:Int}(h:mapB es p=true):(0<=p/\p<es.length)/\peM es p=ah es p 0/\peF es p=ah es p 1/\peM es p≠0:=by
 unfold mapB at h;have:=VU h;have q:=adS this;exact⟨q.1,q.2.1,q.2.2,this⟩
theorem I1 {cs us es:af}{p:Int}(m:oU cs us es)(h:mapB es p=true):0<=ah es p 1/\ah es p 1<cs.length:=by
 have q:=DZ h;have e:=m.e p q.1.1 q.1.2;exact e.2.2.2 (by have:=q.2.1;have:=q.2.2.2;omega)
theorem af3 {cs us es:af}{f:Int}(h:((pagesOn es f).length:Int)=0):dfC cs es f=cs.set f.toNat [.s 1 (pz 16 [.i 0])]/\dfU us es f=us.set f.toNat [.v (.bool false)]:=by
 have e:gJ es f=false:=Pd (by omega);unfold dfC dfU;rw[e];exact⟨rfl,rfl⟩
theorem af4 {cs us es:af}{f:Int}(h:¬ ((pagesOn es f).length:Int)=0):dfC cs es f=cs/\dfU us es f=us:=by
 have e:gJ es f=true:=D1.2 (by omega);unfold dfC dfU;rw[e];exact⟨rfl,rfl⟩
theorem RU {es:af}{p:Int}(h:Rw [tI,tI] es)(p0:0<=p)(p1:p<es.length):sH (.s 2 es) [(p.toNat,0)] [.i 0,.i 0]=CW es p:=by
 unfold CW;exact ny (by rw[h.eta p0 p1];rfl)
theorem O5 {es:af}{p:Int}:(kuE es p).length=es.length:=by
 unfold kuE CW;split;exact ZO;rfl
structure K3 where
 c:af
 u:af
 e:af
def IC (a0 a1 a2:af)(t:Int):Nat->K3
 |0=>⟨a0,a1,a2⟩
 |n+1=>⟨kuC (IC a0 a1 a2 t n).c (IC a0 a1 a2 t n).e (t+n),kuU (IC a0 a1 a2 t n).u (IC a0 a1 a2 t n).e (t+n),kuE (IC a0 a1 a2 t n).e (t+n)⟩
theorem Lh {a0 a1 a2:af}{t:Int}{n:Nat}:IC a0 a1 a2 t (n+1)=⟨kuC (IC a0 a1 a2 t n).c (IC a0 a1 a2 t n).e (t+n),kuU (IC a0 a1 a2 t n).u (IC a0 a1 a2 t n).e (t+n),kuE (IC a0 a1 a2 t n).e (t+n)⟩:=rfl
def Fj (a0 a1 a2:af)(t l:Int):af:=(IC a0 a1 a2 t l.toNat).c
def Fl (a0 a1 a2:af)(t l:Int):af:=(IC a0 a1 a2 t l.toNat).u
def BZ (a0 a1 a2:af)(t l:Int):af:=(IC a0 a1 a2 t l.toNat).e
structure Kj (a0 a1 a2:af)(t p:Int)(c u e:af):Prop where
 m:oU c u e
 rc:Rw [.sl [tI]] c
 ru:Rw [tB] u
 re:Rw [tI,tI] e
 l:e.length=a2.length
 ec:c=Fj a0 a1 a2 t (p-t)
 eu:u=Fl a0 a1 a2 t (p-t)
 ee:e=BZ a0 a1 a2 t (p-t)
section
variable {a0 a1 a2 c u e: af} {t p: Int}
theorem Li (m:oU a0 a1 a2)(rc:Rw [.sl [tI]] a0)(ru:Rw [tB] a1)(re:Rw [tI,tI] a2):Kj a0 a1 a2 t t a0 a1 a2:=by
 have z:(t-t).toNat=0:=by omega
 refine⟨m,rc,ru,re,rfl,?_,?_,?_⟩
 ·unfold Fj;rw[z];rfl
 ·unfold Fl;rw[z];rfl
 ·unfold BZ;rw[z];rfl
theorem Hd (h:Kj a0 a1 a2 t p c u e)(p0:t<=p):Kj a0 a1 a2 t (p+1) (kuC c e p) (kuU u e p) (kuE e p):=by
 have w:=ac2 (p:=p) h.rc h.ru h.re;have s:(p+1-t).toNat=(p-t).toNat+1:=by omega
 have q:t+((p-t).toNat:Int)=p:=by omega
 refine⟨agy h.m,w.1,w.2.1,w.2.2,by rw[O5];exact h.l,?_,?_,?_⟩
 ·rw[h.ec,h.ee];unfold Fj BZ;rw[s,Lh,q]
 ·rw[h.eu,h.ee];unfold Fl BZ;rw[s,Lh,q]
 ·rw[h.ee];unfold BZ;rw[s,Lh,q]
theorem OF {l:Int}(h:Kj a0 a1 a2 t p c u e)(p1:t+l<=p)(p2:p<=t+l):c=Fj a0 a1 a2 t l/\u=Fl a0 a1 a2 t l/\e=BZ a0 a1 a2 t l:=by
 have q:p-t=l:=by omega
 exact⟨q▸h.ec,q▸h.eu,q▸h.ee⟩
theorem IE (h:Kj a0 a1 a2 t p c u e):am c<=1024/\am u<=64/\am e<=64:=I4 h.m h.rc h.ru h.re
theorem ID (m:oU a0 a1 a2)(rc:Rw [.sl [tI]] a0)(ru:Rw [tB] a1)(re:Rw [tI,tI] a2):∀ n:Nat,Kj a0 a1 a2 t (t+n) (Fj a0 a1 a2 t n) (Fl a0 a1 a2 t n) (BZ a0 a1 a2 t n)
 |0=>by have:=Li (t:=t) m rc ru re;rw[show t+((0:Nat):Int)=t by omega];exact this
 | n+1=>by
   have h:=Hd (ID m rc ru re n) (by omega);have e:((n+1:Nat):Int)=(n:Int)+1:=by omega
   rw[show t+((n+1:Nat):Int)=t+n+1 by omega];exact h
end
def TN (b:Bool)(x y:af):af:=if b=true then x else y
end Go.V
namespace Go.V
structure SmR (rs:af):Prop where
 w:Rw [tI,tI] rs
 b:∀ i:Int,0<=i->i<rs.length->0<=ah rs i 0/\ah rs i 0<=64/\0<=ah rs i 1/\ah rs i 1<=64
theorem aeO {o:af}{n:Int}{b:Bool}(h:Rw [tB] o)(h0:0<=n)(h1:n<o.length):sH (.s 1 o) [(n.toNat,0)] [.v (.bool b)]=o.set n.toNat [.v (.bool b)]:=ny (by rw[h.eta h0 h1];rfl)
theorem ahj {o:af}{n:Int}(h:Rw [tB] o)(h0:0<=n)(h1:n<o.length):∃ rec o',bX (.s 1 o) [(n.toNat,0)]=some (rec,o')/\o'+1<=rec.length:=gV (by omega) (by rw[h.eta h0 h1];exact Ze _)
theorem RL {es:af}{p:Int}(h:Rw [tI,tI] es)(p0:0<=p)(p1:p<es.length):∃ rec o,bX (.s 2 es) [(p.toNat,0)]=some (rec,o)/\o+2<=rec.length:=gV (by omega) (by rw[h.eta p0 p1];exact Ze _)
section
variable {n a0 l0 i: Int} {rs o: af} {d: Bool}
structure JnQ (rs:af)(i:Int)(o:af)(n:Nat):Prop where
 p:JnP rs i o
 n:n=o.length
 w:Rw [tI,tI] o
 b:∀ k:Int,0<=k->k<o.length->0<=ah o k 0/\ah o k 0<=64/\0<=ah o k 1/\ah o k 1<=64*i
end
end Go.V
namespace Go.V
theorem Tq {a0 a1 a2 a4 a5 a6 a7 a8 a9 aA aB aD aL:af}(h0:Rw [.sl [tI]] a0)(h1:Rw [tB] a1)(h2:Rw [tI,tI] a2)(h4:Rw [tI] a4)(h5:Rw [tI,tI] a5)(h6:Rw [tI,tI,tI] a6)(h7:Rw [tI,tI,tI] a7)(h8:Rw [tI,tI,tI,tI] a8)(h9:Rw [.sl [.sl [tI]]] a9)(h10:Rw [.sl [tI,tI]] aA)(h11:Rw [.sl [tI]] aB)(h13:Rw [tI,tI,tI] aD)(h21:Rw [tI] aL)(hs:aR [a0,a1,a2,a4,a5,a6,a7,a8,a9,aA,aB,aD,aL]<=1048576):si a0 a1 a2 a4 a5 a6 a7 a8 a9 aA aB aD aL:=by
 obtain⟨c0,c1,c2,c4,c5,c6,c7,c8,c9,c10,c11,c13,c21⟩:=Ae hs;exact⟨h0,h1,h2,h4,h5,h6,h7,h8,h9,h10,h11,h13,h21,by omega,by omega,by omega,by omega,by omega,by omega,by omega,by omega,by omega,by omega,by omega,by omega,by omega⟩
end Go.V
namespace Go.V
section
variable {n a0 l0: Int} {rs: af}
end
def bsB (m:Bool)(k v p:Int):Bool:=m&&(decide (k=p)||decide (v=p))
theorem abI {m:Bool}{k v p:Int}(h:m=false):bsB m k v p=false:=by subst h;rfl
theorem abG {m:Bool}{k v p:Int}(h:m=true)(e:k=p):bsB m k v p=true:=by subst h;unfold bsB;rw[VO e];rfl
theorem abH {m:Bool}{k v p:Int}(h:m=true)(e:k≠p):bsB m k v p=decide (v=p):=by subst h;unfold bsB;rw[VP e];rfl
def dsC (a0 a1 a2 a6:af)(i:Int):af:=Fj a0 a1 a2 (ah a6 i 0) 1
def dsU (a0 a1 a2 a6:af)(i:Int):af:=Fl a0 a1 a2 (ah a6 i 0) 1
def dsE (a0 a1 a2 a6:af)(i:Int):af:=BZ a0 a1 a2 (ah a6 i 0) 1
def dsF (a0 a1 a2 a5 a6:af)(i:Int):af:=rpL (zlI (dsE a0 a1 a2 a6 i)) a5 (ah a6 i 0) 1
def dsS (a6:af)(i:Int):af:=delL a6 i (i+1)
end Go.V
namespace Go.V
theorem FK {o:af}{n:Int}{j:Nat}(h:Rw [tI,tI,tI] o)(n0:0<=n)(n1:n<o.length)(hj:j<3):∃ rec o',bX (L.s 3 o) [(n.toNat,j)]=some (rec,o')/\o'+[L.v (Zm Zz 0)].length<=rec.length/\Yo [L.v (Zm Zz 0)].length (Yz o' rec)=mH ai (L.s 3 o) [(n.toNat,j)] 0 [L.v (Zm Zz 0)]:=by
 rcases(show j=0\/j=1\/j=2 by omega)with rfl|rfl|rfl
 ·exact fZ (z0:=[.i 0,.i 0,.i 0]) (z:=[.i 0]) h.wf (by omega) rfl (by decide)
 ·exact fZ (z0:=[.i 0,.i 0,.i 0]) (z:=[.i 0]) h.wf (by omega) rfl (by decide)
 ·exact fZ (z0:=[.i 0,.i 0,.i 0]) (z:=[.i 0]) h.wf (by omega) rfl (by decide)
section
variable {a0 a1 a2: af} {a3: Int} {a4 a5 a6 a7 a8 a9 aA aB: af} {aC: Int} {aD: af} {aE aF aG aH: Int} {aI: Bool} {aJ aK: Int} {aL: af} {aM aN: Int} {i: Int}
theorem ab8 {t l:Int}(m:oU a0 a1 a2)(h0:Rw [.sl [tI]] a0)(h1:Rw [tB] a1)(h2:Rw [tI,tI] a2):oU (Fj a0 a1 a2 t l) (Fl a0 a1 a2 t l) (BZ a0 a1 a2 t l)/\Rw [.sl [tI]] (Fj a0 a1 a2 t l)/\Rw [tB] (Fl a0 a1 a2 t l)/\Rw [tI,tI] (BZ a0 a1 a2 t l)/\(BZ a0 a1 a2 t l).length=a2.length/\am (Fj a0 a1 a2 t l)<=1024/\am (Fl a0 a1 a2 t l)<=64/\am (BZ a0 a1 a2 t l)<=64:=by
 have h:=ID (t:=t) m h0 h1 h2 l.toNat;have e:∀ X:af->af->af->Int->Int->af,True:=fun _=>trivial
 have c:Fj a0 a1 a2 t l=Fj a0 a1 a2 t (l.toNat:Int):=by unfold Fj;rw[Zx]
 have u:Fl a0 a1 a2 t l=Fl a0 a1 a2 t (l.toNat:Int):=by unfold Fl;rw[Zx]
 have s:BZ a0 a1 a2 t l=BZ a0 a1 a2 t (l.toNat:Int):=by unfold BZ;rw[Zx]
 rw[c,u,s];exact⟨h.m,h.rc,h.ru,h.re,h.l,IE h⟩
section
variable {k m: Bool} {c x y p: Int} {sp: af}
end
end
end Go.V
namespace Go.V
theorem SQ {r0 r1 r2 r3 r4 r5 r6 r7 r8 r9 r10 r11 r12:af}(h:si r0 r1 r2 r3 r4 r5 r6 r7 r8 r9 r10 r11 r12):aR [r0,r1,r2,r3,r4,r5,r6,r7,r8,r9,r10,r11,r12]<=1099511627776:=by
 have c0:=h.c0;have c1:=h.c1;have c2:=h.c2;have c3:=h.c4;have c4:=h.c5;have c5:=h.c6;have c6:=h.c7;have c7:=h.c8;have c8:=h.c9;have c9:=h.c10;have c10:=h.c11;have c11:=h.c13;have c12:=h.c21;simp only[aR];omega
section
variable {a0 a1 a2: af} {a3: Int} {a4 a5 a6 a7 a8 a9 aA aB: af} {aC: Int} {aD: af} {aE aF aG aH: Int} {aI: Bool} {aJ aK: Int} {aL: af} {aM aN: Int} {p: Int}
end
end Go.V
namespace Go.V
end Go.V
namespace Go.V
def ltB (p n s z:Int):Bool:=lgOk p n s&&inR z 9 s
structure LtT (p n s z:Int):Prop where
 g:lgOk p n s=true
 zi:inR z 9 1000=true
 z0:9<=z/\z<=1000/\z<=s
 p0:0<=p
 n1:p+n<=32
 m0:1<=pfN z/\pfN z<=n
 m1:z<=pfN z*16/\pfN z*16<z+16
def pmB (p ad:Int):Bool:=eqB (bO .mul Za p 16) ad
def agu (lg:af)(ad j:Int):Bool:=pmB (ah lg j 0) ad
def O9 (lg:af)(ad:Int):Int:=cP (agu lg ad) lg.length
def tcN (cs:af)(f k:Int):Nat->af
 |0=>cs
 |i+1=>Nn (tcN cs f k i) f (k+i) 0
def tcC (cs es:af)(a n:Int):af:=tcN cs (peF es (a/16)) (a%16) n.toNat
structure TcP (cs us es:af)(f k i:Int)(c:af):Prop where
 e:c=tcN cs f k i.toNat
 m:oU c us es
 w:Rw [.sl [tI]] c
section
variable {cs us es c: af} {f k i p: Int}
end
end Go.V
namespace Go.V
def tmP (a7:af)(ad:Int):Int:=ah a7 (O9 a7 ad) 0
def tmN (a7:af)(ad:Int):Int:=ah a7 (O9 a7 ad) 1
def tmS (a7:af)(ad:Int):Int:=ah a7 (O9 a7 ad) 2
def tmD (a0 a2 a7:af)(ad z:Int):af:=tcC a0 a2 (tmP a7 ad*16+z) ((16- (tmP a7 ad*16+z)%16)%16)
theorem Dz {c u e:af}{t:Int}:Fj c u e t 0=c/\Fl c u e t 0=u/\BZ c u e t 0=e:=⟨rfl,rfl,rfl⟩
section
variable {a0 a1 a2: af} {a3: Int} {a4 a5 a6 a7 a8 a9 aA aB: af} {aC: Int} {aD: af} {aE aF aG aH: Int} {aI: Bool} {aJ aK: Int} {aL: af} {aM aN ad z k: Int}
structure TmT (a1 a2 a5 a7 a8 a0:af)(ad z:Int):Prop where
 k0:0<=O9 a7 ad
 k1:O9 a7 ad<a7.length
 p:tmP a7 ad*16=ad
 t:LtT (tmP a7 ad) (tmN a7 ad) (tmS a7 ad) z
 b:ltB (tmP a7 ad) (tmN a7 ad) (tmS a7 ad) z=true
 o0:0<=obI a8 ad
 o1:obI a8 ad<a8.length
 m:oU a0 a1 a2
 g:∀ q:Int,tmP a7 ad<=q->q<tmP a7 ad+tmN a7 ad->peM a2 q≠0
 f:a5.length<=32
 d:oU (tmD a0 a2 a7 ad z) a1 a2
 dw:Rw [.sl [tI]] (tmD a0 a2 a7 ad z)
theorem aeo {es:af}{x y w:Int}{n:Nat}(h:Rw [tI,tI,tI] es)(hx: -9223372036854775808<=x/\x<=9223372036854775807)(hy: -9223372036854775808<=y/\y<=9223372036854775807)(hw: -9223372036854775808<=w/\w<=9223372036854775807):Rw [tI,tI,tI] (es.set n [.i x,.i y,.i w]):=Rw.set h (show cg [tI,tI,tI] [.i x,.i y,.i w]from⟨⟨rfl,hx⟩,⟨rfl,hy⟩,⟨rfl,hw⟩,trivial⟩) _
end
end Go.V
namespace Go.V
theorem IX {o:af}{n:Int}(h:Rw [tI,tI,tI] o)(n0:0<=n)(n1:n<o.length):∃ rec o',bX (L.s 3 o) [(n.toNat,0)]=some (rec,o')/\o'+[L.v (Zm Zz 0),L.v (Zm Zz 0),L.v (Zm Zz 0)].length<=rec.length/\Yo [L.v (Zm Zz 0),L.v (Zm Zz 0),L.v (Zm Zz 0)].length (Yz o' rec)=mH ai (L.s 3 o) [(n.toNat,0)] 0 [L.v (Zm Zz 0),L.v (Zm Zz 0),L.v (Zm Zz 0)]:=
 fZ (z0:=[.i 0,.i 0,.i 0]) (z:=[.i 0,.i 0,.i 0]) h.wf (by omega) rfl (by decide)
section
variable {a0 a1 a2 a5 a7 a8 c: af} {ad z x: Int}
end
end Go.V
namespace Go.V
section
variable {a0 a1 a2: af} {a3: Int} {a4 a5 a6 a7 a8 a9 aA aB: af} {aC: Int} {aD: af} {aE aF aG aH: Int} {aI: Bool} {aJ aK: Int} {aL: af} {aM aN ad z: Int}
end
end Go.V
namespace Go.V
def c1N (c:Int):Int:=c+1
def nhR (rs:af)(c:Int):Bool:= !hasB rs c
def kqN (k:Bool)(c:Int):Int:=if k=true then c+1 else c
section
variable {cs us es rs: af} {c p q m: Int}
end
theorem FI {b x e b' x' e' r r':af}{c c':Int}{z z':Bool}(h1:b=b')(h2:x=x')(h3:e=e')(h4:c=c')(h5:r=r')(h6:z=z'):[DV.agg [.s 1 b,.s 1 x,.s 2 e,.i c,.s 1 r],DV.k z]=[DV.agg [.s 1 b',.s 1 x',.s 2 e',.i c',.s 1 r'],DV.k z']:=by rw[h1,h2,h3,h4,h5,h6]
end Go.V
namespace Go.V
structure KcP (cs es:af)(p q:Int)(xs:af)(i:Int)(d:af):Prop where
 z:i=0->d=cs
 o:0<i->inR (ah xs 0 0) 0 15=true/\d=Nn cs (peF es q) (ah xs 0 0) (ah (ax cs (peF es p) 0) (ah xs 0 0) 0)
section
variable {cs us es xs d: af} {p q i: Int}
end
end Go.V
namespace Go.V
def ifN (b:Bool)(x y:Int):Int:=if b=true then x else y
section
variable {cs us es rs xs: af} {c kp mv ph nx: Int} {k: Bool}
structure JbT (kp mv:Int)(xs:af)(ph nx:Int):Prop where
 k0:0<=kp
 k1:kp<=31
 m0:0<=mv
 m1:mv<=31
 p0:0<=ph
 p1:ph<=5
 n0:0<=nx
 n1:nx<=xs.length
 x:∀ i:Int,0<=i->i<xs.length->0<=ah xs i 0/\ah xs i 0<=15
end
end Go.V
namespace Go.V
section
variable {a0 a1 a2: af} {a3: Int} {a4 a5 a6 a7 a8 a9 aA aB: af} {aC: Int} {aD: af} {aJ aK: Int} {aL: af} {aM aN: Int} {g: Bool}
end
end Go.V
namespace Go.V
def woN (b i:Int):Int:=if slB b i=true then bO .andNot Za b (PI .shl Za 1 i)else b
theorem aeE {t:Nat}(ht:t<=15):PI .shl Za 1 (t:Int)=((2^t:Nat):Int):=by
 show YP Za (1*2^(min (t:Int).toNat 64))=_;rw[show min (t:Int).toNat 64=t by omega,Wa];have h:t=0\/t=1\/t=2\/t=3\/t=4\/t=5\/t=6\/t=7\/t=8\/t=9\/t=10\/t=11\/t=12\/t=13\/t=14\/t=15:=by omega
 rcases h with rfl|rfl|rfl|rfl|rfl|rfl|rfl|rfl|rfl|rfl|rfl|rfl|rfl|rfl|rfl|rfl<;>rfl
structure SpG (S:af):Prop where
 s:∀ i:Nat,i<S.length->spOk (ah S i 0) (ah S i 1) (ah S i 2)=true
 d:∀ i j:Nat,i<S.length->j<S.length->ah S i 0=ah S j 0->i=j
structure LvA (S:af)(a:Int)(i:Nat):Prop where
 l:i<S.length
 p:ah S i 0=a/16
 b:hsB (ah S i 2) ((a-ah S i 0*16)/clsSz (ah S i 1))=true
 o:(a-ah S i 0*16)%clsSz (ah S i 1)=0
section
variable {S: af} {a b: Int} {i j: Nat}
end
end Go.V
namespace Go.V
def fxS (S:af)(i s:Int):af:=S.set i.toNat [.i (ah S i 0),.i (ah S i 1),.i (woN (ah S i 2) s)]
def QP (S:af)(a:Int):af:=fxS S (oV S a) (N1 S a (oV S a))
def f1B (me:Bool)(kp mv:Int)(S:af)(a:Int):Bool:=decide (ah (QP S a) (oV S a) 2=0)&& !bsB me kp mv (ah (QP S a) (oV S a) 0)
structure JF where
 C:af
 U:af
 E:af
 F:af
 S:af
def f1 (me:Bool)(kp mv:Int)(s:JF)(a:Int):JF:=
 ⟨TN (f1B me kp mv s.S a) (dsC s.C s.U s.E (QP s.S a) (oV s.S a)) s.C,TN (f1B me kp mv s.S a) (dsU s.C s.U s.E (QP s.S a) (oV s.S a)) s.U,TN (f1B me kp mv s.S a) (dsE s.C s.U s.E (QP s.S a) (oV s.S a)) s.E,
  TN (f1B me kp mv s.S a) (dsF s.C s.U s.E s.F (QP s.S a) (oV s.S a)) s.F,TN (f1B me kp mv s.S a) (dsS (QP s.S a) (oV s.S a)) (QP s.S a)⟩
structure FrI (s:JF):Prop where
 m:oU s.C s.U s.E
 rc:Rw [.sl [tI]] s.C
 ru:Rw [tB] s.U
 re:Rw [tI,tI] s.E
 rf:Rw [tI,tI] s.F
 rs:Rw [tI,tI,tI] s.S
 lf:s.F.length<=65
 ls:s.S.length<=1073741824
 g:SpG s.S
section
variable {S: af} {a b x: Int} {i j: Nat}
end
end Go.V
namespace Go.V
section
variable {s: JF} {a b: Int} {i j: Nat} {me: Bool} {kp mv: Int}
end
def fN (me:Bool)(kp mv:Int)(l:af)(s:JF):Nat->JF
 |0=>s
 |n+1=>f1 me kp mv (fN me kp mv l s n) (ah l n 0)
structure FqI (l:af)(i:Nat)(s:JF):Prop where
 fr:FrI s
 q:∀ j:Nat,i<=j->j<l.length->∃ k,LvA s.S (ah l j 0) k
def DsA (l:af):Prop:=∀ i j:Nat,i<j->j<l.length->ah l i 0≠ah l j 0
section
variable {a0 a1 a2: af} {a3: Int} {a4 a5 a6 a7 a8 a9 aA aB: af} {aC: Int} {aD: af} {aE aF aG aH: Int} {aI: Bool} {aJ aK: Int} {aL: af} {aM aN: Int}
end
end Go.V
namespace Go.V
def snB (p k b s:Int):Bool:=spOk p k b&&hsB b s
def snN (p k b s:Int):Int:=if snB p k b s=true then woN b s else b
def fzC (me:Bool)(kp mv:Int)(c u e f s:af)(a:Int):af:=(f1 me kp mv ⟨c,u,e,f,s⟩ a).C
def fzU (me:Bool)(kp mv:Int)(c u e f s:af)(a:Int):af:=(f1 me kp mv ⟨c,u,e,f,s⟩ a).U
def fzE (me:Bool)(kp mv:Int)(c u e f s:af)(a:Int):af:=(f1 me kp mv ⟨c,u,e,f,s⟩ a).E
def fzF (me:Bool)(kp mv:Int)(c u e f s:af)(a:Int):af:=(f1 me kp mv ⟨c,u,e,f,s⟩ a).F
def fzS (me:Bool)(kp mv:Int)(c u e f s:af)(a:Int):af:=(f1 me kp mv ⟨c,u,e,f,s⟩ a).S
def tkC (me:Bool)(kp mv:Int)(c u e f s l:af):af:=(fN me kp mv l ⟨c,u,e,f,s⟩ l.length).C
def tkU (me:Bool)(kp mv:Int)(c u e f s l:af):af:=(fN me kp mv l ⟨c,u,e,f,s⟩ l.length).U
def tkE (me:Bool)(kp mv:Int)(c u e f s l:af):af:=(fN me kp mv l ⟨c,u,e,f,s⟩ l.length).E
def tkF (me:Bool)(kp mv:Int)(c u e f s l:af):af:=(fN me kp mv l ⟨c,u,e,f,s⟩ l.length).F
def tkS (me:Bool)(kp mv:Int)(c u e f s l:af):af:=(fN me kp mv l ⟨c,u,e,f,s⟩ l.length).S
def ac9 (l:af):Int:=l.length
def tgB (k:Bool)(c n ck:Int):Bool:=k&&(decide (c≠100000)&&(inR n 0 1000&&decide (ck+n<=1000000)))
def t0B (k:Bool)(c t:Int)(m:af):Bool:=k&&(decide (c≠100000)&&inR t 0 (m.length-1))
structure TkP (me:Bool)(kp mv:Int)(l:af)(s:JF)(i:Int)(c u e f t:af):Prop where
 c:c=(fN me kp mv l s i.toNat).C
 u:u=(fN me kp mv l s i.toNat).U
 e:e=(fN me kp mv l s i.toNat).E
 f:f=(fN me kp mv l s i.toNat).F
 t:t=(fN me kp mv l s i.toNat).S
section
variable {me: Bool} {kp mv: Int} {l c u e f t c0 u0 e0 f0 t0: af} {s: JF} {i a: Int}
end
theorem Jt {l:af}{i:Int}(i0:0<=i)(i1:i<=l.length):rB l i.toNat (EZ (l.length:Int) i)=l.drop i.toNat:=by
 unfold rB EZ;exact Yn (by rw[Zt];omega)
theorem yC {l:af}{i:Int}:rB l (YQ 0) (EZ i 0)=l.take i.toNat:=by
 unfold rB EZ;rw[show YQ 0=0 from rfl,List.drop_zero,Nat.sub_zero]
theorem wN {fs:List Ty}{l:af}{a b:Nat}(h:Rw fs l):Rw fs (rB l a b)/\(rB l a b).length<=l.length:=by
 have q:(rB l a b).length<=l.length:=by unfold rB;rw[Zk,Zt];omega
 exact⟨⟨ZM q h.1,fun e he=>h.2 e (Xv (Xu he))⟩,q⟩
section
variable {rm now age: Int} {qs: af}
end
end Go.V
namespace Go.V
section
variable {S L: af} {a: Int} {i: Nat}
end
section
variable {me: Bool} {kp mv: Int} {c u e f t: af} {a: Int} {i: Nat}
end
section
variable {a0 a1 a2 a4 a5 a6 a7 a8 a9 aA aB aD aL: af} {a: Int} {i: Nat}
end
end Go.V
namespace Go.V
def Oz (ck n:Int):Int:=ck+n
section
variable {k: Bool} {c n ck t: Int} {m: af}
end
section
variable {a0 a1 a2: af} {a3: Int} {a4 a5 a6 a7 a8 a9 aA aB: af} {aC: Int} {aD: af} {aE aF aG aH: Int} {aI: Bool} {aJ aK: Int} {aL: af} {aM aN: Int} {n i: Int} {c u e f t: af}
structure TiT (aC:Int)(aD:af)(aF n:Int)(s:JF):Prop where
 b:qeB aC aD (Oz aF n) 100=true
 d:DsA (qeR aC aD (Oz aF n) 100)
 q:FqI (qeR aC aD (Oz aF n) 100) 0 s
 w:Rw [tI,tI,tI] (qeL aC aD (Oz aF n) 100)
 l:(qeL aC aD (Oz aF n) 100).length<=aD.length
 m:(qeR aC aD (Oz aF n) 100).length<=aD.length
 r:Rw [tI,tI,tI] (qeR aC aD (Oz aF n) 100)
end
end Go.V
namespace Go.V
def nsd (s:Int):Int:=(1103515245*s+12345)%1073741824
def nxS (s:Int):Int:=if inR s 0 1073741823=true then nsd s else 0
def Lg (s n:Int):Bool:=inR s 0 1073741823&&inR n 1 1000
def cuI (s n:Int):Int:=if Lg s n=true then nsd s/1024%n else 0
def cuS (s n:Int):Int:=if Lg s n=true then nsd s else s
theorem Mx {s:Int}:0<=nsd s/\nsd s<=1073741823:=by unfold nsd;omega
theorem agJ {s:Int}(h:inR s 0 1073741823=true):nxS s=bO .rem Za (bO .add Za (bO .mul Za 1103515245 s) 12345) 1073741824:=by
 have q:=bA.1 h;unfold nxS;rw[VR h,D7 (by omega),bF (by omega),FY (by omega)];rfl
theorem agI {s:Int}(h:inR s 0 1073741823=false):nxS s=0:=by unfold nxS;rw[h];rfl
theorem ab3 {s n:Int}(h1:inR s 0 1073741823=true)(h2:inR n 1 1000=true):cuI s n=bO .rem Za (bO .quo Za (nxS s) 1024) n/\cuS s n=nxS s:=by
 have q:=bA.1 h2;have e:nxS s=nsd s:=by unfold nxS;rw[VR h1]
 have r:=Mx (s:=s);have b:Lg s n=true:=by unfold Lg;rw[h1,h2];rfl
 unfold cuI cuS;rw[VR b,VR b,e,CO (by omega) (by omega) (by omega),FY (by omega)];exact⟨rfl,rfl⟩
theorem OD {s n:Int}(h:Lg s n=false):cuI s n=0/\cuS s n=s:=by unfold cuI cuS;rw[h];exact⟨rfl,rfl⟩
theorem ab0 {s n:Int}(h:inR s 0 1073741823=false):Lg s n=false:=by unfold Lg;rw[h];rfl
theorem ab1 {s n:Int}(h:inR n 1 1000=false):Lg s n=false:=by unfold Lg;rw[h,Z8]
theorem ab2 {s n:Int}(h1:inR s 0 1073741823=true)(n1:1<=n)(n2:n<=1000):0<=cuI s n/\cuI s n<n/\inR (cuS s n) 0 1073741823=true:=by
 have b:Lg s n=true:=by unfold Lg;rw[h1,bA.2 ⟨n1,n2⟩];rfl
 have r:=Mx (s:=s);unfold cuI cuS;rw[VR b,VR b];exact⟨Int.emod_nonneg _ (by omega),Int.emod_lt_of_pos _ (by omega),bA.2 r⟩
def ioN:Nat->af
 |0=>[]
 |n+1=>ioN n++[[.i (n:Int)]]
def swE (es:af)(i j:Int):af:=(es.set i.toNat [.i (ah es j 0)]).set j.toNat [.i (ah es i 0)]
def shL:Nat->af->Int->af
 |0,es,_=>es
 |k+1,es,s=>shL k (swE es ((k:Int)+1) (cuI s ((k:Int)+2))) (cuS s ((k:Int)+2))
def shS:Nat->Int->Int
 |0,s=>s
 |k+1,s=>shS k (cuS s ((k:Int)+2))
structure IoP (i:Int)(o:af):Prop where
 e:o=ioN i.toNat
structure ShP (n s0 i:Int)(o:af)(s:Int):Prop where
 r:Rw [tI] o
 l:(o.length:Int)=n
 k:inR s 0 1073741823=true
 e:shL i.toNat o s=shL (n-1).toNat (ioN n.toNat) s0
 f:shS i.toNat s=shS (n-1).toNat s0
end Go.V
namespace Go.V
end Go.V
namespace Go.V
theorem ab5 {l:L}{p:List (Nat×Nat)}{k:Nat}{es:af}(h:iB l p=some (k,es)):iB l p=some (k,pw l p):=by unfold pw;rw[h]
theorem af5 {x:af}{a:Int}{r:af}(h:Rw [.sl [tI]] x)(h0:0<=a)(h1:a<x.length)(hc:am x<=1073741824)(hr:r.length=1):iB (.s 1 x) [(a.toNat,0)]=some (1,pw (.s 1 x) [(a.toNat,0)])/\bJ (pw (.s 1 x) [(a.toNat,0)])/\((pw (.s 1 x) [(a.toNat,0)]).length+r.length)*8<=70368744177664/\(pw (.s 1 x) [(a.toNat,0)]).length+r.length<=70368744177664:=by
 obtain⟨es,e⟩:=Fy h h0 h1;have g:=oh (es:=x) (i:=a) (j:=0);have l:(ax x a 0).length<=am (ax x a 0):=by unfold am;omega
 refine⟨ab5 e,?_,?_⟩
 ·rw[sY];exact(Rw.sub (fs:=[.sl [tI]]) (j:=0) (i:=a) h (by omega) rfl).scal rfl
 ·rw[sY];constructor<;>omega
end Go.V
namespace Go.V
def Ql (n:Int)(es:af):Prop:=∀ j:Nat,j<es.length->0<=ah es (j:Int) 0/\ah es (j:Int) 0<n
theorem aco {es:af}{i j:Nat}{x:Int}(hj:j<es.length):ah (es.set i [.i x]) (j:Int) 0=if i=j then x else ah es (j:Int) 0:=by
 unfold ah;simp only[Zx,Zr];by_cases c:i=j
 ·subst c;rw[VR rfl,List.getElem?_set_self hj];rfl
 ·rw[VT c,List.getElem?_set_ne c]
theorem Ql.st {n x:Int}{es:af}{i:Nat}(h:Ql n es)(x0:0<=x)(x1:x<n):Ql n (es.set i [.i x]):=fun j hj=>by
 rw[ZO]at hj;rw[aco hj];split;exact⟨x0,x1⟩;exact h j hj
theorem Ql.at {n i:Int}{es:af}(h:Ql n es)(i0:0<=i)(i1:i<es.length):0<=ah es i 0/\ah es i 0<n:=by
 have:=h i.toNat (by omega);rw[Zq i0]at this;exact this
theorem Ql.sw {n i j:Int}{es:af}(h:Ql n es)(i0:0<=i)(i1:i<es.length)(j0:0<=j)(j1:j<es.length):Ql n (swE es i j):=by
 have a:=h.at i0 i1;have b:=h.at j0 j1;exact(h.st b.1 b.2).st a.1 a.2
theorem acm {a:af}{r:ay}{n j:Nat}(h:n<a.length):ah (a++[r]) (n:Int) j=ah a (n:Int) j:=by
 unfold ah;simp only[Zx,Zr];rw[List.getElem?_append_left h]
theorem acn {a:af}{r:ay}{j:Nat}:ah (a++[r]) (a.length:Int) j=O8 (r.getD j .g):=by
 unfold ah;simp only[Zx,Zr];rw[ZJ (Ze _),Nat.sub_self];rfl
end Go.V
namespace Go.V
def rcK (S:af)(a:Int):Int:=ah S (oV S a) 1
def rcB (S D:af)(t a:Int):Bool:=af1 (ax D t 0) (rcK S a) a
def rcD (S D:af)(t a:Int):af:=if rcB S D t a=true then D.set t.toNat [.s 1 (cuL (ax D t 0) (rcK S a) a)]else D
structure RS where
 s:JF
 D:af
def r1 (me:Bool)(kp mv t:Int)(z:RS)(a:Int):RS:=⟨if rcB z.s.S z.D t a=true then z.s else f1 me kp mv z.s a,rcD z.s.S z.D t a⟩
def rN (me:Bool)(kp mv t:Int)(l:af)(z:RS):Nat->RS
 |0=>z
 |n+1=>r1 me kp mv t (rN me kp mv t l z n) (ah l n 0)
structure CdI (D:af)(n B:Nat):Prop where
 w:Rw [.sl [.sl [tI]]] D
 l:D.length=n
 c:am D<=B
structure RqI (l:af)(n B i:Nat)(z:RS):Prop where
 fr:FrI z.s
 q:∀ j:Nat,i<=j->j<l.length->∃ k,LvA z.s.S (ah l j 0) k
 d:CdI z.D n (B+40*i)
section
variable {S D l: af} {t a: Int} {n B i: Nat} {me: Bool} {kp mv: Int} {z: RS}
end
section
variable {me: Bool} {kp mv t a: Int} {c u e f s x: af}
end
structure RaP (me:Bool)(kp mv t:Int)(l:af)(z:RS)(i:Int)(c u e f s x:af):Prop where
 c:c=(rN me kp mv t l z i.toNat).s.C
 u:u=(rN me kp mv t l z i.toNat).s.U
 e:e=(rN me kp mv t l z i.toNat).s.E
 f:f=(rN me kp mv t l z i.toNat).s.F
 s:s=(rN me kp mv t l z i.toNat).s.S
 x:x=(rN me kp mv t l z i.toNat).D
section
variable {me: Bool} {kp mv t: Int} {l c u e f s x c0 u0 e0 f0 s0 x0: af} {z: RS} {i: Int}
end
section
variable {a0 a1 a2: af} {a3: Int} {a4 a5 a6 a7 a8 a9 aA aB: af} {aC: Int} {aD: af} {aE aF aG aH: Int} {aI: Bool} {aJ aK: Int} {aL: af} {aM aN t: Int}
end
end Go.V
namespace Go.V
def coT (b x:af)(t:Int):af:=if htB b x t=true then ax x t 0 else[]
section
variable {b x: af} {f t to a: Int}
end
section
variable {a0 a1 a2: af} {a3: Int} {a4 a5 a6 a7 a8 a9 aA aB: af} {aC: Int} {aD: af} {aE aF aG aH: Int} {aI: Bool} {aJ aK: Int} {aL: af} {aM aN t i: Int} {c u e f s x: af}
structure CoI (a9 aA aB:af)(t:Int)(z:JF):Prop where
 h:htB aA aB t=true
 t0:0<=t
 t1:t<a9.length
 d:DsA (coT aA aB t)
 q:RqI (coT aA aB t) a9.length 1000000000 0 ⟨z,a9⟩
 l:(coT aA aB t).length<=30
end
end Go.V
namespace Go.V
section
variable {sp lg: af} {a: Int}
end
def foS (os:af)(ad:Int):Int:=ah os (obI os ad) 2
def foT (os:af)(ad:Int):Int:=ah os (obI os ad) 3
def foK (os:af)(ad:Int):Int:=clsOf (foS os ad)
def fcC (cs es os:af)(ad:Int):af:=tcC cs es ad (clsSz (foK os ad))
def fqR (os:af)(rm:Int)(qs:af)(ck ad:Int):af:=qaR rm qs ad (foK os ad) ck
def fqL (os:af)(rm:Int)(qs:af)(ck ad:Int):af:=qaL rm qs ad (foK os ad) ck
def lfP (lg:af)(ad:Int):Int:=ah lg (O9 lg ad) 0
def lfN (lg:af)(ad:Int):Int:=ah lg (O9 lg ad) 1
structure FoT (es sp lg os cs:af)(ad:Int):Prop where
 k0:0<=obI os ad
 k1:obI os ad<os.length
 e:ah os (obI os ad) 1=ad
 ok:okO sp lg ad (foS os ad)=true
 th:inR (foT os ad) 0 (cs.length-1)=true
 s0:1<=foS os ad
 s1:foS os ad<=1000
section
variable {a0 a1 a2: af} {a3: Int} {a4 a5 a6 a7 a8 a9 aA aB: af} {aC: Int} {aD: af} {aE aF aG aH: Int} {aI: Bool} {aJ aK: Int} {aL: af} {aM aN t ad: Int}
structure FsT (a0 a1 a2 a6 a8:af)(ad:Int):Prop where
 lv:∃ i,LvA a6 ad i
 d0:0<=ad
 d1:ad<=511
 mp:peM a2 (ad/16)≠0
 n0:1<=clsSz (foK a8 ad)
 n1:ad%16+clsSz (foK a8 ad)<=16
 m:oU (fcC a0 a2 a8 ad) a1 a2
 w:Rw [.sl [tI]] (fcC a0 a2 a8 ad)
end
end Go.V
namespace Go.V
theorem Ro {ls:af}(h:Rw [.sl [tI]] ls)(hc:am ls<=1099511627776):SA ls:=by
 refine⟨h,by unfold am at hc;omega,fun i=>?_⟩;have:=oh (es:=ls) (i:=i) (j:=0);unfold am at this hc;omega
section
variable {ls: af} {k a: Int}
theorem abR (h:inR k 0 3=false):clB ls k=false:=by unfold clB;rw[h];rfl
theorem abS (h:inR k 0 3=true):clB ls k=caOk ls:=by unfold clB;rw[h];rfl
theorem abT (h:caOk ls=false):clB ls k=false:=by unfold clB;rw[h];simp
theorem abU (h:caOk ls=true):clB ls k=inR k 0 3:=by unfold clB;rw[h];simp
theorem af2 (h:Rw [.sl [tI]] ls)(hc:am ls<=1073741824)(g:clB ls k=true):iB (.s 1 ls) [(k.toNat,0)]=some (1,ax ls k 0)/\bJ (ax ls k 0)/\((ax ls k 0).length+1)*8<=70368744177664/\(ax ls k 0).length+1<=70368744177664:=by
 have c:=K9 g;have q:=af5 (r:=[[.i 0]]) h c.1 (by omega) hc rfl;simp only[sY,Zp,Zs]at q;exact q
end
section
variable {b x: af} {f to a t: Int}
end
section
variable {D s: af} {t ad: Int} {i: Nat}
theorem LA {cs:af}{fr:Int}(h:Rw [.sl [.sl [tI]]] cs)(h0:0<=fr)(h1:fr<cs.length):∃ rec o,bX (.s 1 cs) [(fr.toNat,0)]=some (rec,o)/\o+[L.s 1 []].length<=rec.length/\Yo [L.s 1 []].length (Yz o rec)=mH ai (.s 1 cs) [(fr.toNat,0)] 0 [L.s 1 []]:=by
 refine⟨[.s 1 (ax cs fr 0)],0,?_,Ze _,?_⟩
 ·show(cs[fr.toNat]?).map (·,0)=_;rw[Ir h h0 h1];rfl
 ·show[L.s 1 (ax cs fr 0)]=[L.s 1 (pw (.s 1 cs) [(fr.toNat,0)])];rw[sY]
theorem JO {cs:af}{fr:Int}(h:Rw [.sl [.sl [tI]]] cs)(h0:0<=fr)(h1:fr<cs.length):iB (.s 1 cs) [(fr.toNat,0)]=some (1,ax cs fr 0):=by
 unfold iB;show(match(cs[fr.toNat]?).map (·,0)with
  | some (rec,o)=>match rec[o]? with
    |some (.s sz es)=>some (sz,es)
    |_=>none
  |none=>none)=_
 rw[Ir h h0 h1];rfl
theorem Re {o:af}{n:Int}{j:Nat}(h:Rw [tI,tI,tI,tI] o)(n0:0<=n)(n1:n<o.length)(hj:j<4):∃ rec o',bX (L.s 4 o) [(n.toNat,j)]=some (rec,o')/\o'+[L.v (Zm Zz 0)].length<=rec.length/\Yo [L.v (Zm Zz 0)].length (Yz o' rec)=mH ai (L.s 4 o) [(n.toNat,j)] 0 [L.v (Zm Zz 0)]:=by
 rcases(show j=0\/j=1\/j=2\/j=3 by omega)with rfl|rfl|rfl|rfl
 ·exact fZ (z0:=[.i 0,.i 0,.i 0,.i 0]) (z:=[.i 0]) h.wf (by omega) rfl (by decide)
 ·exact fZ (z0:=[.i 0,.i 0,.i 0,.i 0]) (z:=[.i 0]) h.wf (by omega) rfl (by decide)
 ·exact fZ (z0:=[.i 0,.i 0,.i 0,.i 0]) (z:=[.i 0]) h.wf (by omega) rfl (by decide)
 ·exact fZ (z0:=[.i 0,.i 0,.i 0,.i 0]) (z:=[.i 0]) h.wf (by omega) rfl (by decide)
end
section
variable {k: Bool} {c t: Int} {m: af}
end
section
variable {ls: af} {k n: Int}
end
end Go.V
namespace Go.V
structure LfT (a5 a7:af)(ad:Int):Prop where
 k0:0<=O9 a7 ad
 k1:O9 a7 ad<a7.length
 p:lfP a7 ad*16=ad
 p0:0<=lfP a7 ad
 n1:1<=lfN a7 ad
 m:lfP a7 ad+lfN a7 ad<=32
 f:a5.length<=32
section
variable {a0 a1 a2: af} {a3: Int} {a4 a5 a6 a7 a8 a9 aA aB: af} {aC: Int} {aD: af} {aE aF aG aH: Int} {aI: Bool} {aJ aK: Int} {aL: af} {aM aN t ad i: Int} {c u e f s x: af}
structure FqT (a8 a9:af)(aC:Int)(aD:af)(aF t ad:Int)(z:JF):Prop where
 t0:0<=t
 t1:t<a9.length
 d:DsA (fqR a8 aC aD aF ad)
 q:RqI (fqR a8 aC aD aF ad) a9.length 1000000000 0 ⟨z,a9⟩
 l:(fqR a8 aC aD aF ad).length<=501
 w:Rw [tI,tI,tI] (fqL a8 aC aD aF ad)
 wl:(fqL a8 aC aD aF ad).length<=501
 r:Rw [tI,tI,tI] (fqR a8 aC aD aF ad)
end
section
variable {k g: Bool} {c t ad: Int} {es sp lg os m b x: af}
end
end Go.V
namespace Go.V
section
variable {rm a c s i: Int} {qs: af}
end
def lgE (c u e l:af)(ad:Int):af:=BZ c u e (lfP l ad) (lfN l ad)
def lgF (c u e f l:af)(ad:Int):af:=rpL (zlI (lgE c u e l ad)) f (lfP l ad) (lfN l ad)
end Go.V
namespace Go.V
section
variable {a0 a1 a2: af} {a3: Int} {a4 a5 a6 a7 a8 a9 aA aB: af} {aC: Int} {aD: af} {aE aF aG aH: Int} {aI: Bool} {aJ aK: Int} {aL: af} {aM aN t ad: Int}
end
end Go.V
namespace Go.V
theorem O4 {us es rs:af}{c p:Int}:(kmU us es c rs p).length=us.length:=by unfold kmU;split<;>simp
theorem IR {us es rs:af}{c p:Int}:(kmE us es c rs p).length=es.length:=by
 unfold kmE;split;exact uz;rfl
theorem Hy {us es rs:af}{c p:Int}(h:kmB us es c rs p=false):kmU us es c rs p=us/\kmE us es c rs p=es:=by unfold kmU kmE;rw[h];exact⟨rfl,rfl⟩
theorem acY {us es rs:af}{c p:Int}(h:kmB us es c rs p=true):kmU us es c rs p=us.set (freeI us).toNat [.v (.bool true)]/\kmE us es c rs p=E1 es p 2 (freeI us):=by unfold kmU kmE;rw[VR h,VR h];exact⟨rfl,rfl⟩
theorem TY {us es rs:af}{c p:Int}(h:hasB rs c=true):kmB us es c rs p=false:=by unfold kmB;rw[h];rfl
theorem TZ {us es rs:af}{c p:Int}(h:freeI us<0):kmB us es c rs p=false:=by unfold kmB;rw[VP (p:=0<=freeI us) (by omega)];simp
theorem T0 {us es rs:af}{c p:Int}(h:inR p 0 (es.length-1)=false):kmB us es c rs p=false:=by unfold kmB;rw[h];simp
theorem T6 {us es rs:af}{c p:Int}(h:peM es p≠0):kmB us es c rs p=false:=by unfold kmB;rw[VP h];simp
theorem T7 {us es rs:af}{c p:Int}(h1:hasB rs c=false)(h2:0<=freeI us)(h3:inR p 0 (es.length-1)=true)(h4:peM es p=0):kmB us es c rs p=true:=by unfold kmB;rw[h1,h3,VO h2,VO h4];rfl
structure U2 where
 u:af
 e:af
def EX (a1 a2:af)(c:Int)(rs:af)(t:Int):Nat->U2
 |0=>⟨a1,a2⟩
 |n+1=>⟨kmU (EX a1 a2 c rs t n).u (EX a1 a2 c rs t n).e (c+n) rs (t+n),kmE (EX a1 a2 c rs t n).u (EX a1 a2 c rs t n).e (c+n) rs (t+n)⟩
theorem NP {a1 a2 rs:af}{c t:Int}{n:Nat}:EX a1 a2 c rs t (n+1)=⟨kmU (EX a1 a2 c rs t n).u (EX a1 a2 c rs t n).e (c+n) rs (t+n),kmE (EX a1 a2 c rs t n).u (EX a1 a2 c rs t n).e (c+n) rs (t+n)⟩:=rfl
def xqB (a1 a2:af)(c:Int)(rs:af)(t i:Int):Bool:=kmB (EX a1 a2 c rs t i.toNat).u (EX a1 a2 c rs t i.toNat).e (c+i) rs (t+i)
def xqF (a1 a2:af)(c:Int)(rs:af)(t n:Int):Int:=cP (bT (xqB a1 a2 c rs t)) n.toNat
structure Df (a0 a1 a2:af)(c:Int)(rs:af)(t i:Int)(u e:af):Prop where
 m:oU a0 u e
 ru:Rw [tB] u
 re:Rw [tI,tI] e
 l:e.length=a2.length
 lu:u.length=a1.length
 eu:u=(EX a1 a2 c rs t i.toNat).u
 ee:e=(EX a1 a2 c rs t i.toNat).e
 g:upto (bT (bT (xqB a1 a2 c rs t))) i
section
variable {a0 a1 a2 rs u e: af} {c t i n: Int}
theorem JD (m:oU a0 a1 a2)(ru:Rw [tB] a1)(re:Rw [tI,tI] a2):Df a0 a1 a2 c rs t 0 a1 a2:=⟨m,ru,re,rfl,rfl,rfl,rfl,bB⟩
theorem R9 (h:Df a0 a1 a2 c rs t i u e):kmB u e (c+i) rs (t+i)=xqB a1 a2 c rs t i:=by unfold xqB;rw[<-h.eu, <-h.ee]
theorem Ie (h:Df a0 a1 a2 c rs t i u e)(i0:0<=i)(b:kmB u e (c+i) rs (t+i)=true):Df a0 a1 a2 c rs t (i+1) (kmU u e (c+i) rs (t+i)) (kmE u e (c+i) rs (t+i)):=by
 have k:=(h.m).u;have k2:=h.m.n1;have w:=Q9 (c:=c+i) (rs:=rs) (p:=t+i) h.ru h.re (by omega);have s:(i+1).toNat=i.toNat+1:=by omega
 have q:((i.toNat:Nat):Int)=i:=by omega
 refine⟨acX h.m,w.1,w.2,by rw[IR];exact h.l,by rw[O4];exact h.lu,?_,?_,aV h.g (iD ?_)⟩
 ·rw[s,NP,q, <-h.eu, <-h.ee]
 ·rw[s,NP,q, <-h.eu, <-h.ee]
 ·show bT (xqB a1 a2 c rs t) i=false;unfold bT;rw[<-R9 h,b];rfl
theorem abk (h:Df a0 a1 a2 c rs t i u e)(i0:0<=i)(i1:i<n)(b:kmB u e (c+i) rs (t+i)=false):xqF a1 a2 c rs t n=i:=
 eD h.g i0 (by omega) (iD (by rw[<-R9 h];exact b))
theorem Qa (h:Df a0 a1 a2 c rs t i u e)(i1:n<=i)(i0:0<=i):xqF a1 a2 c rs t n= -1:=eE h.g (by omega)
theorem JE (m:oU a0 a1 a2)(ru:Rw [tB] a1)(re:Rw [tI,tI] a2):∀ k:Nat,oU a0 (EX a1 a2 c rs t k).u (EX a1 a2 c rs t k).e/\Rw [tB] (EX a1 a2 c rs t k).u/\Rw [tI,tI] (EX a1 a2 c rs t k).e/\(EX a1 a2 c rs t k).e.length=a2.length
 |0=>⟨m,ru,re,rfl⟩
 | k+1=>by
   obtain⟨q1,q2,q3,q4⟩:=JE m ru re k;have k1:=q1.u;have k2:=q1.n1;have w:=Q9 (c:=c+k) (rs:=rs) (p:=t+k) q2 q3 (by omega);exact⟨acX q1,w.1,w.2,by rw[NP];show(kmE _ _ _ _ _).length=_;rw[IR];exact q4⟩
end
def qq (a2 a5:af)(n:Int):Int:=tkA (zlI a2) a5 n
def P8 (a1 a2:af)(a3:Int)(a4 a5:af)(n:Int):Int:=xqF a1 a2 a3 a4 (qq a2 a5 n) n
def R8 (a1 a2:af)(a3:Int)(a4 a5:af)(n:Int):Int:=if tkB (zlI a2) a5 n=true then(if P8 a1 a2 a3 a4 a5 n<0 then n else P8 a1 a2 a3 a4 a5 n)else 0
def N2 (a1 a2:af)(a3:Int)(a4 a5:af)(n:Int):Int:=if tkB (zlI a2) a5 n=true then(if P8 a1 a2 a3 a4 a5 n<0 then 0 else P8 a1 a2 a3 a4 a5 n)else 0
def xpB (a1 a2:af)(a3:Int)(a4 a5:af)(n:Int):Bool:=tkB (zlI a2) a5 n&&decide (P8 a1 a2 a3 a4 a5 n<0)
def Ks (a1 a2:af)(a3:Int)(a4 a5:af)(n:Int):U2:=EX a1 a2 a3 a4 (qq a2 a5 n) (R8 a1 a2 a3 a4 a5 n).toNat
def xpC (a0 a1 a2:af)(a3:Int)(a4 a5:af)(n:Int):af:=Fj a0 (Ks a1 a2 a3 a4 a5 n).u (Ks a1 a2 a3 a4 a5 n).e (qq a2 a5 n) (N2 a1 a2 a3 a4 a5 n)
def xpU (a0 a1 a2:af)(a3:Int)(a4 a5:af)(n:Int):af:=Fl a0 (Ks a1 a2 a3 a4 a5 n).u (Ks a1 a2 a3 a4 a5 n).e (qq a2 a5 n) (N2 a1 a2 a3 a4 a5 n)
def xpE (a0 a1 a2:af)(a3:Int)(a4 a5:af)(n:Int):af:=BZ a0 (Ks a1 a2 a3 a4 a5 n).u (Ks a1 a2 a3 a4 a5 n).e (qq a2 a5 n) (N2 a1 a2 a3 a4 a5 n)
def xpK (a1 a2:af)(a3:Int)(a4 a5:af)(n:Int):Int:=if tkB (zlI a2) a5 n=true then(if P8 a1 a2 a3 a4 a5 n<0 then a3+n else a3+P8 a1 a2 a3 a4 a5 n+1)else a3
def xpF (a1 a2:af)(a3:Int)(a4 a5:af)(n:Int):af:=if xpB a1 a2 a3 a4 a5 n=true then tkL (zlI a2) a5 n else a5
def xpA (a1 a2:af)(a3:Int)(a4 a5:af)(n:Int):Int:=if xpB a1 a2 a3 a4 a5 n=true then qq a2 a5 n else-1
section
variable {a0 a1 a2: af} {a3: Int} {a4 a5 u e c' u' e': af} {n i: Int}
theorem P9 (h:tkB (zlI a2) a5 n=false):xpC a0 a1 a2 a3 a4 a5 n=a0/\xpU a0 a1 a2 a3 a4 a5 n=a1/\xpE a0 a1 a2 a3 a4 a5 n=a2/\xpK a1 a2 a3 a4 a5 n=a3/\xpF a1 a2 a3 a4 a5 n=a5/\xpA a1 a2 a3 a4 a5 n= -1/\xpB a1 a2 a3 a4 a5 n=false:=by
 have d:N2 a1 a2 a3 a4 a5 n=0:=by unfold N2;rw[h];rfl
 have j:R8 a1 a2 a3 a4 a5 n=0:=by unfold R8;rw[h];rfl
 have b:xpB a1 a2 a3 a4 a5 n=false:=by unfold xpB;rw[h];rfl
 have v:Ks a1 a2 a3 a4 a5 n=⟨a1,a2⟩:=by unfold Ks;rw[j];rfl
 refine⟨?_,?_,?_,?_,?_,?_,b⟩
 ·unfold xpC;rw[d,v];exact Dz.1
 ·unfold xpU;rw[d,v];exact(Dz (c:=a0)).2.1
 ·unfold xpE;rw[d,v];exact(Dz (c:=a0) (u:=a1)).2.2
 ·unfold xpK;rw[h];rfl
 ·unfold xpF;rw[b];rfl
 ·unfold xpA;rw[b];rfl
theorem afa (h:tkB (zlI a2) a5 n=true)(p:Df a0 a1 a2 a3 a4 (qq a2 a5 n) i u e)(i0:0<=i)(i1:n<=i)(i2:i<=n):xpC a0 a1 a2 a3 a4 a5 n=a0/\xpU a0 a1 a2 a3 a4 a5 n=u/\xpE a0 a1 a2 a3 a4 a5 n=e/\xpK a1 a2 a3 a4 a5 n=a3+n/\xpF a1 a2 a3 a4 a5 n=tkL (zlI a2) a5 n/\xpA a1 a2 a3 a4 a5 n=qq a2 a5 n/\xpB a1 a2 a3 a4 a5 n=true:=by
 have f:P8 a1 a2 a3 a4 a5 n= -1:=Qa p i1 i0;have d:N2 a1 a2 a3 a4 a5 n=0:=by unfold N2;rw[VR h,f];rfl
 have j:R8 a1 a2 a3 a4 a5 n=n:=by unfold R8;rw[VR h,f];rfl
 have b:xpB a1 a2 a3 a4 a5 n=true:=by unfold xpB;rw[h,f];rfl
 have v:Ks a1 a2 a3 a4 a5 n=⟨u,e⟩:=by
  unfold Ks;rw[j,p.eu,p.ee,show i=n by omega]
 refine⟨?_,?_,?_,?_,?_,?_,b⟩
 ·unfold xpC;rw[d,v];exact Dz.1
 ·unfold xpU;rw[d,v];exact(Dz (c:=a0)).2.1
 ·unfold xpE;rw[d,v];exact(Dz (c:=a0) (u:=u)).2.2
 ·unfold xpK;rw[VR h,f];rfl
 ·unfold xpF;rw[VR b]
 ·unfold xpA;rw[VR b]
theorem ae9 (h:tkB (zlI a2) a5 n=true)(p:Df a0 a1 a2 a3 a4 (qq a2 a5 n) i u e)(i0:0<=i)(i1:i<n)(g:kmB u e (a3+i) a4 (qq a2 a5 n+i)=false):xpC a0 a1 a2 a3 a4 a5 n=Fj a0 u e (qq a2 a5 n) i/\xpU a0 a1 a2 a3 a4 a5 n=Fl a0 u e (qq a2 a5 n) i/\xpE a0 a1 a2 a3 a4 a5 n=BZ a0 u e (qq a2 a5 n) i/\xpK a1 a2 a3 a4 a5 n=a3+i+1/\xpF a1 a2 a3 a4 a5 n=a5/\xpA a1 a2 a3 a4 a5 n= -1/\xpB a1 a2 a3 a4 a5 n=false:=by
 have f:P8 a1 a2 a3 a4 a5 n=i:=abk p i0 i1 g;have d:N2 a1 a2 a3 a4 a5 n=i:=by unfold N2;rw[VR h,f,VT (by omega)]
 have j:R8 a1 a2 a3 a4 a5 n=i:=by unfold R8;rw[VR h,f,VT (by omega)]
 have b:xpB a1 a2 a3 a4 a5 n=false:=by unfold xpB;rw[h,f,VP (by omega)];rfl
 have v:Ks a1 a2 a3 a4 a5 n=⟨u,e⟩:=by unfold Ks;rw[j,p.eu,p.ee]
 refine⟨?_,?_,?_,?_,?_,?_,b⟩
 ·unfold xpC;rw[d,v]
 ·unfold xpU;rw[d,v]
 ·unfold xpE;rw[d,v]
 ·unfold xpK;rw[VR h,f,VT (by omega)]
 ·unfold xpF;rw[b];rfl
 ·unfold xpA;rw[b];rfl
theorem ae7 (m:oU a0 a1 a2)(ru:Rw [tB] a1)(re:Rw [tI,tI] a2)(h:tkB (zlI a2) a5 1=true)(g:kmB a1 a2 a3 a4 (qq a2 a5 1)=true):xpC a0 a1 a2 a3 a4 a5 1=a0/\xpU a0 a1 a2 a3 a4 a5 1=kmU a1 a2 a3 a4 (qq a2 a5 1)/\xpE a0 a1 a2 a3 a4 a5 1=kmE a1 a2 a3 a4 (qq a2 a5 1)/\xpK a1 a2 a3 a4 a5 1=a3+1/\xpF a1 a2 a3 a4 a5 1=tkL (zlI a2) a5 1/\xpA a1 a2 a3 a4 a5 1=qq a2 a5 1/\xpB a1 a2 a3 a4 a5 1=true:=by
 have p:=Ie (JD (c:=a3) (rs:=a4) (t:=qq a2 a5 1) m ru re) (Ye _) (by rw[YR,YR];exact g);rw[YR,YR]at p;exact afa h p (by omega) (by omega) (by omega)
theorem ae6 (m:oU a0 a1 a2)(ru:Rw [tB] a1)(re:Rw [tI,tI] a2)(h:tkB (zlI a2) a5 1=true)(g:kmB a1 a2 a3 a4 (qq a2 a5 1)=false):xpC a0 a1 a2 a3 a4 a5 1=a0/\xpU a0 a1 a2 a3 a4 a5 1=a1/\xpE a0 a1 a2 a3 a4 a5 1=a2/\xpK a1 a2 a3 a4 a5 1=a3+1/\xpF a1 a2 a3 a4 a5 1=a5/\xpA a1 a2 a3 a4 a5 1= -1/\xpB a1 a2 a3 a4 a5 1=false:=by
 have p:=JD (c:=a3) (rs:=a4) (t:=qq a2 a5 1) m ru re;have q:=ae9 h p (Ye _) (by omega) (by rw[YR,YR];exact g);rw[(Dz (c:=a0) (u:=a1) (e:=a2)).1,(Dz (c:=a0) (u:=a1) (e:=a2)).2.1,(Dz (c:=a0) (u:=a1) (e:=a2)).2.2,YR]at q;exact q
theorem ahq (m:oU a0 a1 a2)(rc:Rw [.sl [tI]] a0)(ru:Rw [tB] a1)(re:Rw [tI,tI] a2):oU (xpC a0 a1 a2 a3 a4 a5 n) (xpU a0 a1 a2 a3 a4 a5 n) (xpE a0 a1 a2 a3 a4 a5 n)/\Rw [.sl [tI]] (xpC a0 a1 a2 a3 a4 a5 n)/\Rw [tB] (xpU a0 a1 a2 a3 a4 a5 n)/\Rw [tI,tI] (xpE a0 a1 a2 a3 a4 a5 n)/\(xpE a0 a1 a2 a3 a4 a5 n).length=a2.length/\am (xpC a0 a1 a2 a3 a4 a5 n)<=1024/\am (xpU a0 a1 a2 a3 a4 a5 n)<=64/\am (xpE a0 a1 a2 a3 a4 a5 n)<=64:=by
 have v:=JE (c:=a3) (rs:=a4) (t:=qq a2 a5 n) m ru re (R8 a1 a2 a3 a4 a5 n).toNat;have d:=ab8 (t:=qq a2 a5 n) (l:=N2 a1 a2 a3 a4 a5 n) v.1 rc v.2.1 v.2.2.1;exact⟨d.1,d.2.1,d.2.2.1,d.2.2.2.1,d.2.2.2.2.1.trans v.2.2.2,d.2.2.2.2.2⟩
theorem abj (h:Rw [tI,tI] a5):Rw [tI,tI] (xpF a1 a2 a3 a4 a5 n)/\(xpF a1 a2 a3 a4 a5 n).length<=a5.length:=by
 unfold xpF;split;exact aeK h;exact⟨h,Ze _⟩
theorem ae8 (h:xpB a1 a2 a3 a4 a5 n=true):tkB (zlI a2) a5 n=true/\xpA a1 a2 a3 a4 a5 n=qq a2 a5 n/\TkT (zlI a2) a5 n:=by
 have q:=h;unfold xpB at q;rw[Zc]at q;exact⟨q.1,by unfold xpA;rw[VR h],Er q.1⟩
theorem GB (h:tkB (zlI a2) a5 n=true):0<=qq a2 a5 n/\qq a2 a5 n+n<=a2.length/\1<=n/\(a2.length:Int)<=32:=by
 have T:=Er h;have e:qq a2 a5 n=ah a5 (fe a5 n) 0:=by unfold qq tkA;rw[VR h]
 have q1:=T.a0;have q2:=T.l0;have q3:=T.e;have q4:=T.p0;have q5:=T.n0;unfold zlI at q3 q4;omega
end
end Go.V
namespace Go.V
def kwU (k:Bool)(us es:af)(c:Int)(rs:af)(p:Int):af:=if k=true then kmU us es c rs p else us
def kwE (k:Bool)(us es:af)(c:Int)(rs:af)(p:Int):af:=if k=true then kmE us es c rs p else es
def kwB (k:Bool)(us es:af)(c:Int)(rs:af)(p:Int):Bool:=k&&kmB us es c rs p
section
variable {cs us es rs: af} {c p n: Int}
theorem vK (h:kmB us es c rs p=false):us=kwU true us es c rs p/\es=kwE true us es c rs p/\false=kwB true us es c rs p:=by
 have q:=Hy h;refine⟨?_,?_,?_⟩
 ·unfold kwU;rw[VR rfl,q.1]
 ·unfold kwE;rw[VR rfl,q.2]
 ·unfold kwB;rw[h];rfl
theorem T8 (h:kmB us es c rs p=true):us.set (freeI us).toNat [.v (.bool true)]=kwU true us es c rs p/\E1 es p 2 (freeI us)=kwE true us es c rs p/\true=kwB true us es c rs p:=by
 have q:=acY h;refine⟨?_,?_,?_⟩
 ·unfold kwU;rw[VR rfl,q.1]
 ·unfold kwE;rw[VR rfl,q.2]
 ·unfold kwB;rw[h];rfl
theorem TX (h:kerOk cs us es c rs=true):framesOk cs us=true:=by
 unfold kerOk at h;simp only[Zc]at h;exact(Rj h.1.1).1
theorem acj (f:framesOk cs us=true)(h:ftB cs us=true):ftU cs us=us.set (freeI us).toNat [.v (.bool true)]/\ftI cs us=freeI us/\0<=freeI us/\freeI us<us.length:=by
 have q:=aci h;have b:=t9 (us:=us);exact⟨q.2.2.2,q.2.2.1,by omega,by omega⟩
theorem ack (f:framesOk cs us=true)(h:ftB cs us=false):freeI us<0:=by
 unfold ftB at h;rw[f,YF]at h;have:=of_decide_eq_false h;omega
theorem Mu (h:nhR rs c=false):hasB rs c=true:=by unfold nhR at h;simpa using h
theorem Mv (h:nhR rs c=true):hasB rs c=false:=by unfold nhR at h;simpa using h
theorem agH (h:mapB es p=false):peM es p=0:=by unfold mapB at h;have:=of_decide_eq_false h;omega
theorem aaR {m f:Int}(h:Rw [tI,tI] es)(p0:0<=p)(p1:p<es.length):sH (.s 2 es) [(p.toNat,0)] [.i m,.i f]=E1 es p m f:=by
 unfold E1;exact ny (by rw[h.eta p0 p1];rfl)
theorem ta {rs o:af}{a:Int}{b:Bool}(h1:tkL p rs n=o/\tkA p rs n=a)(h2:tkB p rs n=b):[DV.one (.s 2 o),DV.j a,DV.k b]=[DV.one (.s 2 (tkL p rs n)),DV.j (tkA p rs n),DV.k (tkB p rs n)]:=by rw[h1.1,h1.2,h2]
theorem Np {o:af}{n:Int}(h:Rw [tI,tI] o)(n0:0<=n)(n1:n<o.length):∃ rec o',bX (.s 2 o) [(n.toNat,0)]=some (rec,o')/\o'+2<=rec.length:=gV (by omega) (by
 rw[h.eta n0 n1];exact Ze _)
theorem aeD {x y:Int}(h:Rw [tI,tI] rs)(p0:0<=p)(p1:p<rs.length):sH (.s 2 rs) [(p.toNat,0)] [.i x,.i y]=rs.set p.toNat [.i x,.i y]:=aaR h p0 p1
theorem aeL {b x y z:Int}{rs:af}(h:Rw [tI,tI] rs)(b0:0<=b)(b1:b<rs.length)(e:ah rs b 1=y)(hx: -9223372036854775808<=x/\x<=9223372036854775807):sH (.s 2 (sH (.s 2 rs) [(b.toNat,0)] [.i x])) [(b.toNat,1)] [.i z]=rs.set b.toNat [.i x,.i z]/\ah (sH (.s 2 rs) [(b.toNat,0)] [.i x]) b 1=y/\sH (.s 2 rs) [(b.toNat,0)] [.i x]=rs.set b.toNat [.i x,.i y]:=by
 have u:=aeP (x:=.int Za x) h b0 b1;rw[e]at u;have yb: -9223372036854775808<=y/\y<=9223372036854775807:=e▸qR h (j:=1) rfl (by omega);have r:Rw [tI,tI] (rs.set b.toNat [.i x,.i y]):=Rw.set h (show cg [tI,tI] [.i x,.i y]from⟨⟨rfl,hx⟩,⟨rfl,yb⟩,trivial⟩) _;have g:(rs.set b.toNat [.i x,.i y]).getD b.toNat []=[.i x,.i y]:=by rw[oO (by omega),VR rfl]
 have g0:ah (rs.set b.toNat [.i x,.i y]) b 0=x:=by unfold ah;rw[g];rfl
 have g1:ah (rs.set b.toNat [.i x,.i y]) b 1=y:=by unfold ah;rw[g];rfl
 rw[u];refine⟨?_,g1,rfl⟩;rw[aeQ r b0 (by rw[ZO];exact b1),g0,List.set_set]
structure TkU (rs:af)(n:Int):Prop where
 g0:GI (.s 2 rs) [((fe rs n).toNat,0)]=ah rs (fe rs n) 0
 u1:sH (.s 2 rs) [((fe rs n).toNat,0)] [.i (ah rs (fe rs n) 0+n)]=rs.set (fe rs n).toNat [.i (ah rs (fe rs n) 0+n),.i (ah rs (fe rs n) 1)]
 g1:GI (.s 2 (rs.set (fe rs n).toNat [.i (ah rs (fe rs n) 0+n),.i (ah rs (fe rs n) 1)])) [((fe rs n).toNat,1)]=ah rs (fe rs n) 1
 u2:sH (.s 2 (rs.set (fe rs n).toNat [.i (ah rs (fe rs n) 0+n),.i (ah rs (fe rs n) 1)])) [((fe rs n).toNat,1)] [.i (ah rs (fe rs n) 1-n)]=rs.set (fe rs n).toNat [.i (ah rs (fe rs n) 0+n),.i (ah rs (fe rs n) 1-n)]
 g2:GI (.s 2 (rs.set (fe rs n).toNat [.i (ah rs (fe rs n) 0+n),.i (ah rs (fe rs n) 1-n)])) [((fe rs n).toNat,1)]=ah rs (fe rs n) 1-n
 w1:Rw [tI,tI] (rs.set (fe rs n).toNat [.i (ah rs (fe rs n) 0+n),.i (ah rs (fe rs n) 1)])
 w2:Rw [tI,tI] (rs.set (fe rs n).toNat [.i (ah rs (fe rs n) 0+n),.i (ah rs (fe rs n) 1-n)])
 l:fe rs n<(rs.set (fe rs n).toNat [.i (ah rs (fe rs n) 0+n),.i (ah rs (fe rs n) 1)]).length
 l2:fe rs n<(rs.set (fe rs n).toNat [.i (ah rs (fe rs n) 0+n),.i (ah rs (fe rs n) 1-n)]).length
theorem ahl (h:Rw [tI,tI] rs)(T:TkT p rs n):TkU rs n:=by
 have t0:=T.i0;have t1:=T.i1;have a:=T.a0;have b:=T.l0;have c:=T.e;have d:=T.p0;have e:=T.n0;have hx: -9223372036854775808<=ah rs (fe rs n) 0+n/\ah rs (fe rs n) 0+n<=9223372036854775807:=⟨by omega,by omega⟩;have q:=aeL (x:=ah rs (fe rs n) 0+n) (z:=ah rs (fe rs n) 1-n) h t0 t1 rfl hx;have w:∀ y:Int,-9223372036854775808<=y->y<=9223372036854775807->Rw [tI,tI] (rs.set (fe rs n).toNat [.i (ah rs (fe rs n) 0+n),.i y]):=fun y y0 y1=>Rw.set h (show cg [tI,tI] [.i (ah rs (fe rs n) 0+n),.i y]from⟨⟨rfl,hx⟩,⟨rfl,⟨y0,y1⟩⟩,trivial⟩) _
 refine⟨iJ t0,q.2.2,?_,?_,?_,w _ (by omega) (by omega),w _ (by omega) (by omega),by rw[ZO];exact t1,by rw[ZO];exact t1⟩
 ·rw[iJ t0, <-q.2.2];exact q.2.1
 ·rw[<-q.2.2];exact q.1
 ·rw[iJ t0];unfold ah;rw[oO (by omega),VR rfl];rfl
theorem aa1 {b x y:Int}{rs:af}(b0:0<=b):delL (rs.set b.toNat [.i x,.i y]) b (b+1)=BY rs b:=OE (rs:=rs) b0
end
end Go.V
namespace Go.V
def DX (rs:af)(j:Nat)(x i:Int):Bool:=decide (x<=ah rs i j)
def GH (rs:af)(j:Nat)(x:Int):Int:=if cP (DX rs j x) rs.length<0 then rs.length else cP (DX rs j x) rs.length
section
variable {rs: af} {j: Nat} {x i: Int}
theorem L2:0<=GH rs j x/\GH rs j x<=rs.length:=by
 have h:=qQ (p:=DX rs j x) (n:=rs.length);unfold GH;split;omega;omega
theorem JX (h:upto (bT (DX rs j x)) i)(c:ah rs i j<x):upto (bT (DX rs j x)) (i+1):=aV h (iD (VP (by omega)))
theorem wD (h:upto (bT (DX rs j x)) i)(i0:0<=i)(i1:i<rs.length)(c:x<=ah rs i j):i=GH rs j x:=by
 have e:=eD (n:=rs.length) h i0 (by omega) (VO c);unfold GH;rw[e,VT (by omega)]
theorem qW (h:upto (bT (DX rs j x)) i)(i1:i<=rs.length)(i2:(rs.length:Int)<=i):i=GH rs j x:=by
 have e:=eE (n:=rs.length) h (by omega);unfold GH;rw[e,VR (by omega)];omega
end
def inL (es:af)(i:Int)(x:af):af:=es.take i.toNat++(x++es.drop i.toNat)
section
variable {es x: af} {i: Int} {fs: List Ty}
theorem As:(inL es i x).length=es.length+x.length:=by unfold inL;simp only[Zd,Zk,Zt];omega
theorem LQ (h:Rw fs es)(hx:Rw fs x)(b:es.length+x.length<=maxLen):Rw fs (inL es i x):=by
 refine⟨by rw[As];exact b,fun e he=>?_⟩;unfold inL at he;rcases Zg.1 he with q|q;exact h.2 e (Xu q)
 ·rcases Zg.1 q with q|q;exact hx.2 e q;exact h.2 e (Xv q)
theorem acU:[]++es.take i.toNat++x++es.drop i.toNat=inL es i x:=by unfold inL;simp
theorem Au (i0:0<=i)(i1:i<=es.length):[]++rB es (YQ 0) (EZ i 0)++x++rB es i.toNat (EZ (es.length:Int) i)=inL es i x:=by rw[yC,Jt i0 i1];exact acU
end
def wiN (b i:Int):Int:=if slB b i=true then bO .or Za b (PI .shl Za 1 i)else b
theorem aeT {n b i:Int}(h:bmOk n b=true)(i0:0<=i)(i1:i<n):bmOk n (wiN b i)=true:=by
 unfold bmOk at h;rw[Zc]at h;have q1:=bA.1 h.1;have q2:=bA.1 h.2;have p:(2:Int)^n.toNat=((2^n.toNat:Nat):Int):=by rw[Int.natCast_pow];rfl
 have p16:2^n.toNat<=2^16:=Nat.pow_le_pow_right (by omega) (by omega);obtain⟨N,hN⟩:∃ N:Nat,N=2^n.toNat:=⟨_,rfl⟩;rw[<-hN]at p p16;rw[p]at q2;obtain⟨m,rfl⟩:=Z4 q2.1;obtain⟨k,rfl⟩:=Z4 i0;have w:wiN (m:Int) (k:Int)=bO .or Za (m:Int) ((2^k:Nat):Int):=by unfold wiN;rw[VR (aaU.2 ⟨q2.1,i0,by omega⟩),aeE (by omega)]
 have e:Cg (m:Int)|||Cg ((2^k:Nat):Int)=BitVec.ofNat 64 (m|||2^k):=by
  unfold Cg;rw[WP,WP,BitVec.ofNat_or]
 have l:m|||2^k<N:=by rw[hN];exact Nat.or_lt_two_pow (by rw[<-hN];omega) (Nat.pow_lt_pow_right (by omega) (by omega))
 have v:wiN (m:Int) (k:Int)=((m|||2^k:Nat):Int):=by
  rw[w,MD,e,BitVec.toInt_eq_toNat_of_lt (by rw[WQ];omega),WQ];omega
 unfold bmOk;rw[h.1,v,p,YF];exact bA.2 (show(0:Int)<=((m|||2^k:Nat):Int)/\((m|||2^k:Nat):Int)<=(N:Int)-1 from⟨by omega,by omega⟩)
theorem Hg {b:Int}:∀ {k:Nat} {j:Int},0<=j->j<(Fu b k).length->0<=ah (Fu b k) j 0/\ah (Fu b k) j 0<k
 |0,j,h0,h1=>absurd h1 (by show¬ j<((0:Nat):Int);omega)
 | k+1,j,h0,h1=>by
   unfold Fu at h1 ⊢;split at h1<;>rename_i c
   ·rw[VR c];have:=Hg h0 h1;omega
   ·rw[VT c];rw[Zd]at h1;simp only[Zp,Zs]at h1;by_cases q:j<(Fu b k).length
    ·have:=Hg h0 q;obtain⟨m,rfl⟩:=Z4 h0;rw[acm (by omega)];omega
    ·obtain rfl:j=((Fu b k).length:Int):=by omega
     rw[acn];show 0<=(k:Int)/\(k:Int)<((k+1:Nat):Int);omega
def qo (a2 a6:af)(i:Int):af:=frL (slN (ah a6 i 1)) (ubB a2 a6 i)
def xcB (a2 a6:af)(i:Int):Bool:=decide (0<(qo a2 a6 i).length)
def rH (a2 a6:af)(s i:Int):Int:=ah (qo a2 a6 i) (cuI s (qo a2 a6 i).length) 0
def xcS (a2 a6:af)(s i:Int):af:=if xcB a2 a6 i=true then a6.set i.toNat [.i (ah a6 i 0),.i (ah a6 i 1),.i (wiN (ah a6 i 2) (rH a2 a6 s i))]else a6
def xcD (a2 a6:af)(s i:Int):Int:=if xcB a2 a6 i=true then cuS s (qo a2 a6 i).length else s
def xcA (a2 a6:af)(s i:Int):Int:=if xcB a2 a6 i=true then aaI (ah a6 i 0) (ah a6 i 1) (ah a6 i 2) (rH a2 a6 s i)else-1
section
variable {a2 a6: af} {s i: Int}
theorem NJ (h:(qo a2 a6 i).length=0):xcB a2 a6 i=false/\xcS a2 a6 s i=a6/\xcD a2 a6 s i=s/\xcA a2 a6 s i= -1:=by
 have b:xcB a2 a6 i=false:=VP (by omega);refine⟨b,?_,?_,?_⟩
 ·unfold xcS;rw[b];rfl
 ·unfold xcD;rw[b];rfl
 ·unfold xcA;rw[b];rfl
theorem NL (h:¬ (qo a2 a6 i).length=0):xcB a2 a6 i=true/\xcS a2 a6 s i=a6.set i.toNat [.i (ah a6 i 0),.i (ah a6 i 1),.i (wiN (ah a6 i 2) (rH a2 a6 s i))]/\xcD a2 a6 s i=cuS s (qo a2 a6 i).length/\xcA a2 a6 s i=aaI (ah a6 i 0) (ah a6 i 1) (ah a6 i 2) (rH a2 a6 s i):=by
 have b:xcB a2 a6 i=true:=VO (by omega);refine⟨b,?_,?_,?_⟩
 ·unfold xcS;rw[VR b]
 ·unfold xcD;rw[VR b]
 ·unfold xcA;rw[VR b]
structure XcT (a2 a6:af)(s i:Int):Prop where
 l0:1<=(qo a2 a6 i).length
 l1:(qo a2 a6 i).length<=16
 k0:0<=cuI s (qo a2 a6 i).length
 k1:cuI s (qo a2 a6 i).length<(qo a2 a6 i).length
 t0:0<=rH a2 a6 s i
 t1:rH a2 a6 s i<slN (ah a6 i 1)
 n:slN (ah a6 i 1)<=16
 sp:spOk (ah a6 i 0) (ah a6 i 1) (wiN (ah a6 i 2) (rH a2 a6 s i))=true
 a0:0<=aaI (ah a6 i 0) (ah a6 i 1) (ah a6 i 2) (rH a2 a6 s i)
 a1:aaI (ah a6 i 0) (ah a6 i 1) (ah a6 i 2) (rH a2 a6 s i)<=511
 aa:aaI (ah a6 i 0) (ah a6 i 1) (wiN (ah a6 i 2) (rH a2 a6 s i)) (rH a2 a6 s i)=aaI (ah a6 i 0) (ah a6 i 1) (ah a6 i 2) (rH a2 a6 s i)
 w: -9223372036854775808<=wiN (ah a6 i 2) (rH a2 a6 s i)/\wiN (ah a6 i 2) (rH a2 a6 s i)<=9223372036854775807
 d:inR (cuS s (qo a2 a6 i).length) 0 1073741823=true
theorem Gz (hs:spOk (ah a6 i 0) (ah a6 i 1) (ah a6 i 2)=true)(hd:inR s 0 1073741823=true)(h:¬ (qo a2 a6 i).length=0):XcT a2 a6 s i:=by
 have t:=oz hs;have c:=j8 t.2.2.1;have l:(qo a2 a6 i).length<=16:=by
  unfold qo frL;split
  ·have:=yq (b:=ubB a2 a6 i) (slN (ah a6 i 1)).toNat;omega
  ·simp
 have k:=ab2 (n:=(qo a2 a6 i).length) hd (by omega) (by omega);have g:0<=rH a2 a6 s i/\rH a2 a6 s i<slN (ah a6 i 1):=by
  have e:qo a2 a6 i=Fu (ubB a2 a6 i) (slN (ah a6 i 1)).toNat:=by
   have q:bmOk (slN (ah a6 i 1)) (ubB a2 a6 i)=true:=by
    cases q:bmOk (slN (ah a6 i 1)) (ubB a2 a6 i)with
    |true=>rfl
    |false=>exact absurd (by unfold qo frL;rw[q];rfl) h
   unfold qo frL;rw[VR q]
  have q:=Hg (b:=ubB a2 a6 i) (k:=(slN (ah a6 i 1)).toNat) (j:=cuI s (qo a2 a6 i).length) k.1 (by rw[<-e];exact k.2.1);rw[<-e]at q;unfold rH;omega
 have w:=aeT t.2.2.2 g.1 g.2;have sp:spOk (ah a6 i 0) (ah a6 i 1) (wiN (ah a6 i 2) (rH a2 a6 s i))=true:=by unfold spOk;rw[bA.2 ⟨t.1,t.2.1⟩,w];rfl
 have r:inR (rH a2 a6 s i) 0 (slN (ah a6 i 1)-1)=true:=bA.2 ⟨g.1,by omega⟩;have bb:=afW w;have m1:0<=rH a2 a6 s i*clsSz (ah a6 i 1):=XG g.1 (by omega);have m2:rH a2 a6 s i*clsSz (ah a6 i 1)<=(slN (ah a6 i 1)-1)*clsSz (ah a6 i 1):=Xc (by omega) (by omega);have m3:(slN (ah a6 i 1)-1)*clsSz (ah a6 i 1)=16-clsSz (ah a6 i 1):=by rw[Int.sub_mul,c.2.2.2.2,Wa]
 have e1:aaI (ah a6 i 0) (ah a6 i 1) (ah a6 i 2) (rH a2 a6 s i)=ah a6 i 0*16+rH a2 a6 s i*clsSz (ah a6 i 1):=by unfold aaI Of;rw[hs,r];rfl
 have e2:aaI (ah a6 i 0) (ah a6 i 1) (wiN (ah a6 i 2) (rH a2 a6 s i)) (rH a2 a6 s i)=ah a6 i 0*16+rH a2 a6 s i*clsSz (ah a6 i 1):=by unfold aaI Of;rw[sp,r];rfl
 exact⟨by omega,l,k.1,k.2.1,g.1,g.2,c.2.2.2.1,sp,by omega,by omega,by rw[e1,e2],⟨by omega,by omega⟩,k.2.2⟩
theorem abb (h:Rw [tI,tI,tI] a6)(i0:0<=i)(i1:i<a6.length)(hs:spOk (ah a6 i 0) (ah a6 i 1) (ah a6 i 2)=true)(hd:inR s 0 1073741823=true):Rw [tI,tI,tI] (xcS a2 a6 s i)/\(xcS a2 a6 s i).length=a6.length:=by
 by_cases c:(qo a2 a6 i).length=0
 ·rw[(NJ c).2.1];exact⟨h,rfl⟩
 ·rw[(NL c).2.1];have T:=Gz hs hd c;exact⟨aeo h (qR h (j:=0) rfl (by omega)) (qR h (j:=1) rfl (by omega)) T.w,ZO⟩
end
end Go.V
namespace Go.V
def isL (a6:af)(p k b:Int):af:=inL a6 (GH a6 0 p) [[.i p,.i k,.i b]]
def isI (a6:af)(p:Int):Int:=GH a6 0 p
def xsL (a1 a2:af)(a3:Int)(a4 a5 a6:af)(k:Int):af:=if xpB a1 a2 a3 a4 a5 1=true then isL a6 (xpA a1 a2 a3 a4 a5 1) k 0 else a6
def xsI (a1 a2:af)(a3:Int)(a4 a5 a6:af)(k:Int):Int:=if xpB a1 a2 a3 a4 a5 1=true then isI a6 (xpA a1 a2 a3 a4 a5 1)else-1
theorem yB {o o':af}(h:o=o'):[DV.one (.s 1 o)]=[DV.one (.s 1 o')]:=by rw[h]
theorem Og {n b:Int}(h:bmOk n b=true):1<=n/\n<=16/\0<=b:=by
 unfold bmOk at h;rw[Zc]at h;have q1:=bA.1 h.1;have q2:=bA.1 h.2;omega
theorem Lu {n b i:Int}{o:af}(i0:0<=i)(j1:i=0\/bmOk n b=true)(j2:i=0\/i<=n)(h:JG b i o)(e:bmOk n b=false\/n<=i):o=frL n b:=by
 have i1:i=0\/bmOk n b=true/\i<=n:=by
  rcases j1 with q|q;exact .inl q
  ·rcases j2 with r|r;exact .inl r;exact .inr ⟨q,r⟩
 cases c:bmOk n b with
 | true=>
   rcases e with e|e
   ·rw[c]at e;cases e
   ·rcases i1 with z|z
    ·have:=Og c;omega
    ·exact II h c z.2 e
 | false=>
   rw[ach c];rcases i1 with z|z
   ·subst z;exact h.e
   ·rw[c]at z;cases z.1
theorem Lv {b i:Int}{o:af}(h:JG b i o)(i1:i<=16):Rw [tI] o:=by rw[h.e];exact DG _ (by omega)
theorem QH {ls:af}{k:Int}(h:clB ls k=false):ctB ls k=false:=by unfold ctB;rw[h];rfl
theorem QI {ls:af}{k:Int}(h:(ax ls k 0).length=0):ctB ls k=false:=by unfold ctB;rw[VP (by omega),Z8]
theorem abZ {ls:af}{k:Int}(h:clB ls k=true)(n:¬ (ax ls k 0).length=0):ctL ls k=ls.set k.toNat [.s 1 ((ax ls k 0).take ((ax ls k 0).length-1))]/\ctA ls k=ah (ax ls k 0) ((ax ls k 0).length-1) 0/\ctB ls k=true:=by
 have b:ctB ls k=true:=by unfold ctB;rw[h,VO (by omega)];rfl
 have q:=OB b;exact⟨q.1,q.2,b⟩
theorem Nb {l:af}{i:Int}:rB l 0 (EZ i 0)=l.take i.toNat:=yC
theorem ahm {n:Nat}:((n:Int)-1).toNat=n-1:=by omega
end Go.V
namespace Go.V
section
variable {a0 a1 a2 a4 a5 a6 u e: af} {a3 t i k s n: Int}
theorem afc (hk:kerOk a0 a1 a2 a3 a4=true)(P:Df a0 a1 a2 a3 a4 t i u e)(c0:0<=a3)(c1:a3<=90000)(i0:0<=i)(i1:i<=32):ccB a0 u e (a3+i) a4=true:=by
 rw[K5 (by omega)];exact LX P.m (by omega) (by omega) (kf hk).2.2.2
theorem NQ (rc:Rw [.sl [tI]] a0)(P:Df a0 a1 a2 a3 a4 t i u e):am a0<=1024/\am u<=64/\am e<=64:=I4 P.m rc P.ru P.re
theorem agw {c:Int}:kqN true c=c+1:=by unfold kqN;rw[VR rfl]
theorem aeG {o:af}{n:Int}{j:Nat}(h:Rw [tI,tI,tI] o)(n0:0<=n)(n1:n<o.length)(hj:j<3):∃ rec o',bX (.s 3 o) [(n.toNat,j)]=some (rec,o')/\o'+1<=rec.length:=gV (by omega) (by
 rw[h.eta n0 n1];show j+1<=3;omega)
theorem ac8 {o:af}{n:Int}(h:Rw [tI] o)(n0:0<=n)(n1:n<o.length):∃ rec o',bX (L.s 1 o) [(n.toNat,0)]=some (rec,o')/\o'+[L.v (Zm Zz 0)].length<=rec.length/\Yo [L.v (Zm Zz 0)].length (Yz o' rec)=mH ai (L.s 1 o) [(n.toNat,0)] 0 [L.v (Zm Zz 0)]:=
 fZ (z0:=[.i 0]) (z:=[.i 0]) h.wf (by omega) rfl (by decide)
theorem Tj {n b:Int}:Rw [tI] (frL n b):=by
 unfold frL;split
 ·rename_i c;have:=Og c;exact DG _ (by omega)
 ·exact Rw.nil
theorem XcT.r (_:XcT a2 a6 s i):Rw [tI] (qo a2 a6 i):=Tj
structure XcU (a2 a6:af)(s i:Int):Prop where
 u:sH (.s 3 a6) [(i.toNat,2)] [.i (wiN (ah a6 i 2) (rH a2 a6 s i))]=a6.set i.toNat [.i (ah a6 i 0),.i (ah a6 i 1),.i (wiN (ah a6 i 2) (rH a2 a6 s i))]
 g0:GI (.s 3 (a6.set i.toNat [.i (ah a6 i 0),.i (ah a6 i 1),.i (wiN (ah a6 i 2) (rH a2 a6 s i))])) [(i.toNat,0)]=ah a6 i 0
 g1:GI (.s 3 (a6.set i.toNat [.i (ah a6 i 0),.i (ah a6 i 1),.i (wiN (ah a6 i 2) (rH a2 a6 s i))])) [(i.toNat,1)]=ah a6 i 1
 g2:GI (.s 3 (a6.set i.toNat [.i (ah a6 i 0),.i (ah a6 i 1),.i (wiN (ah a6 i 2) (rH a2 a6 s i))])) [(i.toNat,2)]=wiN (ah a6 i 2) (rH a2 a6 s i)
 w:Rw [tI,tI,tI] (a6.set i.toNat [.i (ah a6 i 0),.i (ah a6 i 1),.i (wiN (ah a6 i 2) (rH a2 a6 s i))])
 l:i<(a6.set i.toNat [.i (ah a6 i 0),.i (ah a6 i 1),.i (wiN (ah a6 i 2) (rH a2 a6 s i))]).length
theorem aho (h:Rw [tI,tI,tI] a6)(i0:0<=i)(i1:i<a6.length)(X:XcT a2 a6 s i):XcU a2 a6 s i:=by
 have g:∀ r:ay,(a6.set i.toNat r).getD i.toNat []=r:=fun r=>by rw[oO (by omega),VR rfl]
 refine⟨?_,?_,?_,?_,aeo h (qR h (j:=0) rfl (by omega)) (qR h (j:=1) rfl (by omega)) X.w,by rw[ZO];exact i1⟩
 ·unfold sH pD rowOf;rw[h.eta i0 i1];rfl
 ·rw[iJ i0];unfold ah;rw[g];rfl
 ·rw[iJ i0];unfold ah;rw[g];rfl
 ·rw[iJ i0];unfold ah;rw[g];rfl
theorem afd (h:xpC a0 a1 a2 a3 a4 a5 1=u/\xpU a0 a1 a2 a3 a4 a5 1=a1/\xpE a0 a1 a2 a3 a4 a5 1=a2/\xpK a1 a2 a3 a4 a5 1=n/\xpF a1 a2 a3 a4 a5 1=a5/\xpA a1 a2 a3 a4 a5 1= -1/\xpB a1 a2 a3 a4 a5 1=false):xsI a1 a2 a3 a4 a5 a6 k= -1/\xsL a1 a2 a3 a4 a5 a6 k=a6/\xpC a0 a1 a2 a3 a4 a5 1=u/\xpU a0 a1 a2 a3 a4 a5 1=a1/\xpE a0 a1 a2 a3 a4 a5 1=a2/\xpK a1 a2 a3 a4 a5 1=n/\xpF a1 a2 a3 a4 a5 1=a5:=by
 obtain⟨h1,h2,h3,h4,h5,h6,h7⟩:=h;exact⟨by unfold xsI;rw[h7];rfl,by unfold xsL;rw[h7];rfl,h1,h2,h3,h4,h5⟩
theorem ahu {f:af}{c:Int}(ht:qq a2 a5 1=t)(h:xpC a0 a1 a2 a3 a4 a5 1=a0/\xpU a0 a1 a2 a3 a4 a5 1=kmU a1 a2 a3 a4 (qq a2 a5 1)/\xpE a0 a1 a2 a3 a4 a5 1=kmE a1 a2 a3 a4 (qq a2 a5 1)/\xpK a1 a2 a3 a4 a5 1=c/\xpF a1 a2 a3 a4 a5 1=f/\xpA a1 a2 a3 a4 a5 1=qq a2 a5 1/\xpB a1 a2 a3 a4 a5 1=true):xsI a1 a2 a3 a4 a5 a6 k=GH a6 0 t/\xsL a1 a2 a3 a4 a5 a6 k=isL a6 t k 0/\xpC a0 a1 a2 a3 a4 a5 1=a0/\xpU a0 a1 a2 a3 a4 a5 1=kmU a1 a2 a3 a4 t/\xpE a0 a1 a2 a3 a4 a5 1=kmE a1 a2 a3 a4 t/\xpK a1 a2 a3 a4 a5 1=c/\xpF a1 a2 a3 a4 a5 1=f:=by
 obtain⟨h1,h2,h3,h4,h5,h6,h7⟩:=h;subst ht;exact⟨by unfold xsI isI;rw[VR h7,h6],by unfold xsL;rw[VR h7,h6],h1,h2,h3,h4,h5⟩
theorem NO (ht:qq a2 a5 n=t)(h:tkB (zlI a2) a5 n=true)(p:Df a0 a1 a2 a3 a4 t i u e)(i0:0<=i)(i1:n<=i)(i2:i<=n):xpC a0 a1 a2 a3 a4 a5 n=a0/\xpU a0 a1 a2 a3 a4 a5 n=u/\xpE a0 a1 a2 a3 a4 a5 n=e/\xpK a1 a2 a3 a4 a5 n=a3+i/\xpF a1 a2 a3 a4 a5 n=tkL (zlI a2) a5 n/\xpA a1 a2 a3 a4 a5 n=t/\xpB a1 a2 a3 a4 a5 n=true:=by
 subst ht;have q:=afa h p i0 i1 i2;rw[show a3+n=a3+i by omega]at q;exact q
theorem NM {p:Int}{v w x:af}(ht:qq a2 a5 n=t)(h:tkB (zlI a2) a5 n=true)(P:Df a0 a1 a2 a3 a4 t i u e)(i0:0<=i)(i1:i<n)(g:kmB u e (a3+i) a4 (t+i)=false)(D:Kj a0 u e t p v w x)(p1:p<=t+i)(p2:t+i<=p):xpC a0 a1 a2 a3 a4 a5 n=v/\xpU a0 a1 a2 a3 a4 a5 n=w/\xpE a0 a1 a2 a3 a4 a5 n=x/\xpK a1 a2 a3 a4 a5 n=a3+i+1/\xpF a1 a2 a3 a4 a5 n=a5/\xpA a1 a2 a3 a4 a5 n= -1/\xpB a1 a2 a3 a4 a5 n=false:=by
 subst ht;have q:=ae9 h P i0 i1 g;have d:=OF (l:=i) D p2 p1;rw[<-d.1, <-d.2.1, <-d.2.2]at q;exact q
theorem afb {v w x:af}{c:Int}(hk:kerOk a0 a1 a2 a3 a4=true)(m:oU v w x)(c0:0<=c)(c1:c<100000):ccB v w x c a4=true:=by
 rw[K5 (by omega)];exact LX m (by omega) (by omega) (kf hk).2.2.2
theorem ahs (P:Df a0 a1 a2 a3 a4 t i u e)(i0:0<=i)(g:kwB true u e (a3+i) a4 (t+i)=true):Df a0 a1 a2 a3 a4 t (i+1) (kwU true u e (a3+i) a4 (t+i)) (kwE true u e (a3+i) a4 (t+i)):=Ie P i0 g
theorem ahr (rc:Rw [.sl [tI]] a0)(P:Df a0 a1 a2 a3 a4 t i u e)(g:kwB true u e (a3+i) a4 (t+i)=false):Kj a0 u e t t a0 (kwU true u e (a3+i) a4 (t+i)) (kwE true u e (a3+i) a4 (t+i)):=by
 have w:=vK (show kmB u e (a3+i) a4 (t+i)=false from g);rw[<-w.1, <-w.2.1];exact Li P.m rc P.ru P.re
end
end Go.V
namespace Go.V
def EW (a2 a6:af)(aI:Bool)(aJ aK k i:Int):Bool:=eqB (ah a6 i 1) k&&(!bsB aI aJ aK (ah a6 i 0)&&xcB a2 a6 i)
def Ic (a2 a6:af)(aI:Bool)(aJ aK k:Int):Int:=cP (EW a2 a6 aI aJ aK k) a6.length
def yF (a1 a2:af)(a3:Int)(a4 a5 a6 a9:af)(aI:Bool)(aJ aK t k:Int):Nat:=if ctB (ax a9 t 0) k=true then 0 else if 0<=Ic a2 a6 aI aJ aK k then 1 else if xpB a1 a2 a3 a4 a5 1=true then 3 else 2
def xmC (a0 a1 a2:af)(a3:Int)(a4 a5 a6 a9:af)(aE:Int)(aI:Bool)(aJ aK t k:Int):af:=if 2<=yF a1 a2 a3 a4 a5 a6 a9 aI aJ aK t k then xpC a0 a1 a2 a3 a4 a5 1 else a0
def xmU (a0 a1 a2:af)(a3:Int)(a4 a5 a6 a9:af)(aE:Int)(aI:Bool)(aJ aK t k:Int):af:=if 2<=yF a1 a2 a3 a4 a5 a6 a9 aI aJ aK t k then xpU a0 a1 a2 a3 a4 a5 1 else a1
def xmE (a0 a1 a2:af)(a3:Int)(a4 a5 a6 a9:af)(aE:Int)(aI:Bool)(aJ aK t k:Int):af:=if 2<=yF a1 a2 a3 a4 a5 a6 a9 aI aJ aK t k then xpE a0 a1 a2 a3 a4 a5 1 else a2
def xmF (a0 a1 a2:af)(a3:Int)(a4 a5 a6 a9:af)(aE:Int)(aI:Bool)(aJ aK t k:Int):af:=if 2<=yF a1 a2 a3 a4 a5 a6 a9 aI aJ aK t k then xpF a1 a2 a3 a4 a5 1 else a5
def xmK (a0 a1 a2:af)(a3:Int)(a4 a5 a6 a9:af)(aE:Int)(aI:Bool)(aJ aK t k:Int):Int:=if 2<=yF a1 a2 a3 a4 a5 a6 a9 aI aJ aK t k then xpK a1 a2 a3 a4 a5 1 else a3
def xmS (a0 a1 a2:af)(a3:Int)(a4 a5 a6 a9:af)(aE:Int)(aI:Bool)(aJ aK t k:Int):af:=if yF a1 a2 a3 a4 a5 a6 a9 aI aJ aK t k=1 then xcS a2 a6 aE (Ic a2 a6 aI aJ aK k)else if yF a1 a2 a3 a4 a5 a6 a9 aI aJ aK t k=3 then xcS (xpE a0 a1 a2 a3 a4 a5 1) (isL a6 (xpA a1 a2 a3 a4 a5 1) k 0) aE (isI a6 (xpA a1 a2 a3 a4 a5 1))else a6
def xmD (a0 a1 a2:af)(a3:Int)(a4 a5 a6 a9:af)(aE:Int)(aI:Bool)(aJ aK t k:Int):Int:=if yF a1 a2 a3 a4 a5 a6 a9 aI aJ aK t k=1 then xcD a2 a6 aE (Ic a2 a6 aI aJ aK k)else if yF a1 a2 a3 a4 a5 a6 a9 aI aJ aK t k=3 then xcD (xpE a0 a1 a2 a3 a4 a5 1) (isL a6 (xpA a1 a2 a3 a4 a5 1) k 0) aE (isI a6 (xpA a1 a2 a3 a4 a5 1))else aE
def xmX (a0 a1 a2:af)(a3:Int)(a4 a5 a6 a9:af)(aE:Int)(aI:Bool)(aJ aK t k:Int):af:=if yF a1 a2 a3 a4 a5 a6 a9 aI aJ aK t k=0 then a9.set t.toNat [.s 1 (ctL (ax a9 t 0) k)]else a9
def xmA (a0 a1 a2:af)(a3:Int)(a4 a5 a6 a9:af)(aE:Int)(aI:Bool)(aJ aK t k:Int):Int:=if yF a1 a2 a3 a4 a5 a6 a9 aI aJ aK t k=0 then ctA (ax a9 t 0) k else if yF a1 a2 a3 a4 a5 a6 a9 aI aJ aK t k=1 then xcA a2 a6 aE (Ic a2 a6 aI aJ aK k)else if yF a1 a2 a3 a4 a5 a6 a9 aI aJ aK t k=3 then xcA (xpE a0 a1 a2 a3 a4 a5 1) (isL a6 (xpA a1 a2 a3 a4 a5 1) k 0) aE (isI a6 (xpA a1 a2 a3 a4 a5 1))else-1
def xmB (a0 a1 a2:af)(a3:Int)(a4 a5 a6 a9:af)(aE:Int)(aI:Bool)(aJ aK t k:Int):Bool:=if yF a1 a2 a3 a4 a5 a6 a9 aI aJ aK t k=0 then true else if yF a1 a2 a3 a4 a5 a6 a9 aI aJ aK t k=1 then true else if yF a1 a2 a3 a4 a5 a6 a9 aI aJ aK t k=3 then xcB (xpE a0 a1 a2 a3 a4 a5 1) (isL a6 (xpA a1 a2 a3 a4 a5 1) k 0) (isI a6 (xpA a1 a2 a3 a4 a5 1))else false
section
variable {a0 a1 a2: af} {a3: Int} {a4 a5 a6 a7 a8 a9 aA aB aD aL: af} {aC aE aF aG aH: Int} {aI: Bool} {aJ aK aM aN t k i z: Int}
theorem abe (h:ctB (ax a9 t 0) k=true):xmC a0 a1 a2 a3 a4 a5 a6 a9 aE aI aJ aK t k=a0/\xmU a0 a1 a2 a3 a4 a5 a6 a9 aE aI aJ aK t k=a1/\xmE a0 a1 a2 a3 a4 a5 a6 a9 aE aI aJ aK t k=a2/\xmK a0 a1 a2 a3 a4 a5 a6 a9 aE aI aJ aK t k=a3/\xmF a0 a1 a2 a3 a4 a5 a6 a9 aE aI aJ aK t k=a5/\xmS a0 a1 a2 a3 a4 a5 a6 a9 aE aI aJ aK t k=a6/\xmX a0 a1 a2 a3 a4 a5 a6 a9 aE aI aJ aK t k=a9.set t.toNat [.s 1 (ctL (ax a9 t 0) k)]/\xmD a0 a1 a2 a3 a4 a5 a6 a9 aE aI aJ aK t k=aE/\xmA a0 a1 a2 a3 a4 a5 a6 a9 aE aI aJ aK t k=ctA (ax a9 t 0) k/\xmB a0 a1 a2 a3 a4 a5 a6 a9 aE aI aJ aK t k=true:=by
 have q:yF a1 a2 a3 a4 a5 a6 a9 aI aJ aK t k=0:=by unfold yF;rw[VR h]
 refine⟨?_,?_,?_,?_,?_,?_,?_,?_,?_,?_⟩
 ·unfold xmC;rw[q];rfl
 ·unfold xmU;rw[q];rfl
 ·unfold xmE;rw[q];rfl
 ·unfold xmK;rw[q];rfl
 ·unfold xmF;rw[q];rfl
 ·unfold xmS;rw[q];rfl
 ·unfold xmX;rw[q];rfl
 ·unfold xmD;rw[q];rfl
 ·unfold xmA;rw[q];rfl
 ·unfold xmB;rw[q];rfl
theorem abf (h:ctB (ax a9 t 0) k=false)(i0:0<=i)(e:Ic a2 a6 aI aJ aK k=i):xmC a0 a1 a2 a3 a4 a5 a6 a9 aE aI aJ aK t k=a0/\xmU a0 a1 a2 a3 a4 a5 a6 a9 aE aI aJ aK t k=a1/\xmE a0 a1 a2 a3 a4 a5 a6 a9 aE aI aJ aK t k=a2/\xmK a0 a1 a2 a3 a4 a5 a6 a9 aE aI aJ aK t k=a3/\xmF a0 a1 a2 a3 a4 a5 a6 a9 aE aI aJ aK t k=a5/\xmS a0 a1 a2 a3 a4 a5 a6 a9 aE aI aJ aK t k=xcS a2 a6 aE i/\xmX a0 a1 a2 a3 a4 a5 a6 a9 aE aI aJ aK t k=a9/\xmD a0 a1 a2 a3 a4 a5 a6 a9 aE aI aJ aK t k=xcD a2 a6 aE i/\xmA a0 a1 a2 a3 a4 a5 a6 a9 aE aI aJ aK t k=xcA a2 a6 aE i/\xmB a0 a1 a2 a3 a4 a5 a6 a9 aE aI aJ aK t k=true:=by
 have q:yF a1 a2 a3 a4 a5 a6 a9 aI aJ aK t k=1:=by unfold yF;rw[h,VT (by decide),VR (by omega)]
 refine⟨?_,?_,?_,?_,?_,?_,?_,?_,?_,?_⟩
 ·unfold xmC;rw[q];rfl
 ·unfold xmU;rw[q];rfl
 ·unfold xmE;rw[q];rfl
 ·unfold xmK;rw[q];rfl
 ·unfold xmF;rw[q];rfl
 ·unfold xmS;rw[q,e];rfl
 ·unfold xmX;rw[q];rfl
 ·unfold xmD;rw[q,e];rfl
 ·unfold xmA;rw[q,e];rfl
 ·unfold xmB;rw[q];rfl
theorem abg (h:ctB (ax a9 t 0) k=false)(i0:Ic a2 a6 aI aJ aK k<0)(b:xpB a1 a2 a3 a4 a5 1=false):xmC a0 a1 a2 a3 a4 a5 a6 a9 aE aI aJ aK t k=xpC a0 a1 a2 a3 a4 a5 1/\xmU a0 a1 a2 a3 a4 a5 a6 a9 aE aI aJ aK t k=xpU a0 a1 a2 a3 a4 a5 1/\xmE a0 a1 a2 a3 a4 a5 a6 a9 aE aI aJ aK t k=xpE a0 a1 a2 a3 a4 a5 1/\xmK a0 a1 a2 a3 a4 a5 a6 a9 aE aI aJ aK t k=xpK a1 a2 a3 a4 a5 1/\xmF a0 a1 a2 a3 a4 a5 a6 a9 aE aI aJ aK t k=xpF a1 a2 a3 a4 a5 1/\xmS a0 a1 a2 a3 a4 a5 a6 a9 aE aI aJ aK t k=a6/\xmX a0 a1 a2 a3 a4 a5 a6 a9 aE aI aJ aK t k=a9/\xmD a0 a1 a2 a3 a4 a5 a6 a9 aE aI aJ aK t k=aE/\xmA a0 a1 a2 a3 a4 a5 a6 a9 aE aI aJ aK t k= -1/\xmB a0 a1 a2 a3 a4 a5 a6 a9 aE aI aJ aK t k=false:=by
 have q:yF a1 a2 a3 a4 a5 a6 a9 aI aJ aK t k=2:=by unfold yF;rw[h,VT (by decide),VT (by omega),b];rfl
 refine⟨?_,?_,?_,?_,?_,?_,?_,?_,?_,?_⟩
 ·unfold xmC;rw[q];rfl
 ·unfold xmU;rw[q];rfl
 ·unfold xmE;rw[q];rfl
 ·unfold xmK;rw[q];rfl
 ·unfold xmF;rw[q];rfl
 ·unfold xmS;rw[q];rfl
 ·unfold xmX;rw[q];rfl
 ·unfold xmD;rw[q];rfl
 ·unfold xmA;rw[q];rfl
 ·unfold xmB;rw[q];rfl
theorem abh (h:ctB (ax a9 t 0) k=false)(i0:Ic a2 a6 aI aJ aK k<0)(b:xpB a1 a2 a3 a4 a5 1=true):xmC a0 a1 a2 a3 a4 a5 a6 a9 aE aI aJ aK t k=xpC a0 a1 a2 a3 a4 a5 1/\xmU a0 a1 a2 a3 a4 a5 a6 a9 aE aI aJ aK t k=xpU a0 a1 a2 a3 a4 a5 1/\xmE a0 a1 a2 a3 a4 a5 a6 a9 aE aI aJ aK t k=xpE a0 a1 a2 a3 a4 a5 1/\xmK a0 a1 a2 a3 a4 a5 a6 a9 aE aI aJ aK t k=xpK a1 a2 a3 a4 a5 1/\xmF a0 a1 a2 a3 a4 a5 a6 a9 aE aI aJ aK t k=xpF a1 a2 a3 a4 a5 1/\xmS a0 a1 a2 a3 a4 a5 a6 a9 aE aI aJ aK t k=xcS (xpE a0 a1 a2 a3 a4 a5 1) (isL a6 (xpA a1 a2 a3 a4 a5 1) k 0) aE (isI a6 (xpA a1 a2 a3 a4 a5 1))/\xmX a0 a1 a2 a3 a4 a5 a6 a9 aE aI aJ aK t k=a9/\xmD a0 a1 a2 a3 a4 a5 a6 a9 aE aI aJ aK t k=xcD (xpE a0 a1 a2 a3 a4 a5 1) (isL a6 (xpA a1 a2 a3 a4 a5 1) k 0) aE (isI a6 (xpA a1 a2 a3 a4 a5 1))/\xmA a0 a1 a2 a3 a4 a5 a6 a9 aE aI aJ aK t k=xcA (xpE a0 a1 a2 a3 a4 a5 1) (isL a6 (xpA a1 a2 a3 a4 a5 1) k 0) aE (isI a6 (xpA a1 a2 a3 a4 a5 1))/\xmB a0 a1 a2 a3 a4 a5 a6 a9 aE aI aJ aK t k=xcB (xpE a0 a1 a2 a3 a4 a5 1) (isL a6 (xpA a1 a2 a3 a4 a5 1) k 0) (isI a6 (xpA a1 a2 a3 a4 a5 1)):=by
 have q:yF a1 a2 a3 a4 a5 a6 a9 aI aJ aK t k=3:=by unfold yF;rw[h,VT (by decide),VT (by omega),VR b]
 refine⟨?_,?_,?_,?_,?_,?_,?_,?_,?_,?_⟩
 ·unfold xmC;rw[q];rfl
 ·unfold xmU;rw[q];rfl
 ·unfold xmE;rw[q];rfl
 ·unfold xmK;rw[q];rfl
 ·unfold xmF;rw[q];rfl
 ·unfold xmS;rw[q];rfl
 ·unfold xmX;rw[q];rfl
 ·unfold xmD;rw[q];rfl
 ·unfold xmA;rw[q];rfl
 ·unfold xmB;rw[q];rfl
end
def xlL (a1 a2:af)(a3:Int)(a4 a5 a7:af)(z:Int):af:=if xpB a1 a2 a3 a4 a5 (pfN z)=true then inL a7 (GH a7 0 (xpA a1 a2 a3 a4 a5 (pfN z))) [[.i (xpA a1 a2 a3 a4 a5 (pfN z)),.i (pfN z),.i z]]else a7
def xlA (a1 a2:af)(a3:Int)(a4 a5:af)(z:Int):Int:=if xpB a1 a2 a3 a4 a5 (pfN z)=true then xpA a1 a2 a3 a4 a5 (pfN z)*16 else-1
def xaG (h:Bool)(a3:Int)(a8 a9:af)(aG aH t z:Int):Int:=if h=false\/aH=1000000\/90000<a3 then 5 else if inR t 0 (a9.length-1)=false then 1 else if inR z 1 1000=false then 2 else if aG<bO .add Za (lsI a8) z then 3 else 0
def xaO (h:Bool)(a3:Int)(a8 a9:af)(aG aH t z:Int):Bool:=decide (xaG h a3 a8 a9 aG aH t z=0)
def xaC (g:Bool)(a0 a1 a2:af)(a3:Int)(a4 a5 a6 a7 a9:af)(aE:Int)(aI:Bool)(aJ aK t z:Int):af:=if g=true then(if 0<=clsOf z then xmC a0 a1 a2 a3 a4 a5 a6 a9 aE aI aJ aK t (clsOf z)else xpC a0 a1 a2 a3 a4 a5 (pfN z))else a0
def xaU (g:Bool)(a0 a1 a2:af)(a3:Int)(a4 a5 a6 a7 a9:af)(aE:Int)(aI:Bool)(aJ aK t z:Int):af:=if g=true then(if 0<=clsOf z then xmU a0 a1 a2 a3 a4 a5 a6 a9 aE aI aJ aK t (clsOf z)else xpU a0 a1 a2 a3 a4 a5 (pfN z))else a1
def xaE (g:Bool)(a0 a1 a2:af)(a3:Int)(a4 a5 a6 a7 a9:af)(aE:Int)(aI:Bool)(aJ aK t z:Int):af:=if g=true then(if 0<=clsOf z then xmE a0 a1 a2 a3 a4 a5 a6 a9 aE aI aJ aK t (clsOf z)else xpE a0 a1 a2 a3 a4 a5 (pfN z))else a2
def xaK (g:Bool)(a0 a1 a2:af)(a3:Int)(a4 a5 a6 a7 a9:af)(aE:Int)(aI:Bool)(aJ aK t z:Int):Int:=if g=true then(if 0<=clsOf z then xmK a0 a1 a2 a3 a4 a5 a6 a9 aE aI aJ aK t (clsOf z)else xpK a1 a2 a3 a4 a5 (pfN z))else a3
def xaF (g:Bool)(a0 a1 a2:af)(a3:Int)(a4 a5 a6 a7 a9:af)(aE:Int)(aI:Bool)(aJ aK t z:Int):af:=if g=true then(if 0<=clsOf z then xmF a0 a1 a2 a3 a4 a5 a6 a9 aE aI aJ aK t (clsOf z)else xpF a1 a2 a3 a4 a5 (pfN z))else a5
def xaS (g:Bool)(a0 a1 a2:af)(a3:Int)(a4 a5 a6 a7 a9:af)(aE:Int)(aI:Bool)(aJ aK t z:Int):af:=if g=true then(if 0<=clsOf z then xmS a0 a1 a2 a3 a4 a5 a6 a9 aE aI aJ aK t (clsOf z)else a6)else a6
def xaL (g:Bool)(a0 a1 a2:af)(a3:Int)(a4 a5 a6 a7 a9:af)(aE:Int)(aI:Bool)(aJ aK t z:Int):af:=if g=true then(if 0<=clsOf z then a7 else xlL a1 a2 a3 a4 a5 a7 z)else a7
def xaX (g:Bool)(a0 a1 a2:af)(a3:Int)(a4 a5 a6 a7 a9:af)(aE:Int)(aI:Bool)(aJ aK t z:Int):af:=if g=true then(if 0<=clsOf z then xmX a0 a1 a2 a3 a4 a5 a6 a9 aE aI aJ aK t (clsOf z)else a9)else a9
def xaD (g:Bool)(a0 a1 a2:af)(a3:Int)(a4 a5 a6 a7 a9:af)(aE:Int)(aI:Bool)(aJ aK t z:Int):Int:=if g=true then(if 0<=clsOf z then xmD a0 a1 a2 a3 a4 a5 a6 a9 aE aI aJ aK t (clsOf z)else aE)else aE
def xaA (g:Bool)(a0 a1 a2:af)(a3:Int)(a4 a5 a6 a7 a9:af)(aE:Int)(aI:Bool)(aJ aK t z:Int):Int:=if g=true then(if 0<=clsOf z then xmA a0 a1 a2 a3 a4 a5 a6 a9 aE aI aJ aK t (clsOf z)else xlA a1 a2 a3 a4 a5 z)else-1
section
variable {g: Bool}
variable {a0 a1 a2: af} {a3: Int} {a4 a5 a6 a7 a8 a9 aA aB aD aL: af} {aC aE aF aG aH: Int} {aI: Bool} {aJ aK aM aN t k i z: Int}
theorem P4 (h:g=false):xaC g a0 a1 a2 a3 a4 a5 a6 a7 a9 aE aI aJ aK t z=a0/\xaU g a0 a1 a2 a3 a4 a5 a6 a7 a9 aE aI aJ aK t z=a1/\xaE g a0 a1 a2 a3 a4 a5 a6 a7 a9 aE aI aJ aK t z=a2/\xaK g a0 a1 a2 a3 a4 a5 a6 a7 a9 aE aI aJ aK t z=a3/\xaF g a0 a1 a2 a3 a4 a5 a6 a7 a9 aE aI aJ aK t z=a5/\xaS g a0 a1 a2 a3 a4 a5 a6 a7 a9 aE aI aJ aK t z=a6/\xaL g a0 a1 a2 a3 a4 a5 a6 a7 a9 aE aI aJ aK t z=a7/\xaX g a0 a1 a2 a3 a4 a5 a6 a7 a9 aE aI aJ aK t z=a9/\xaD g a0 a1 a2 a3 a4 a5 a6 a7 a9 aE aI aJ aK t z=aE/\xaA g a0 a1 a2 a3 a4 a5 a6 a7 a9 aE aI aJ aK t z= -1:=by
 refine⟨?_,?_,?_,?_,?_,?_,?_,?_,?_,?_⟩
 ·unfold xaC;rw[h];rfl
 ·unfold xaU;rw[h];rfl
 ·unfold xaE;rw[h];rfl
 ·unfold xaK;rw[h];rfl
 ·unfold xaF;rw[h];rfl
 ·unfold xaS;rw[h];rfl
 ·unfold xaL;rw[h];rfl
 ·unfold xaX;rw[h];rfl
 ·unfold xaD;rw[h];rfl
 ·unfold xaA;rw[h];rfl
theorem aba (h:g=true)(c:0<=clsOf z):xaC g a0 a1 a2 a3 a4 a5 a6 a7 a9 aE aI aJ aK t z=xmC a0 a1 a2 a3 a4 a5 a6 a9 aE aI aJ aK t (clsOf z)/\xaU g a0 a1 a2 a3 a4 a5 a6 a7 a9 aE aI aJ aK t z=xmU a0 a1 a2 a3 a4 a5 a6 a9 aE aI aJ aK t (clsOf z)/\xaE g a0 a1 a2 a3 a4 a5 a6 a7 a9 aE aI aJ aK t z=xmE a0 a1 a2 a3 a4 a5 a6 a9 aE aI aJ aK t (clsOf z)/\xaK g a0 a1 a2 a3 a4 a5 a6 a7 a9 aE aI aJ aK t z=xmK a0 a1 a2 a3 a4 a5 a6 a9 aE aI aJ aK t (clsOf z)/\xaF g a0 a1 a2 a3 a4 a5 a6 a7 a9 aE aI aJ aK t z=xmF a0 a1 a2 a3 a4 a5 a6 a9 aE aI aJ aK t (clsOf z)/\xaS g a0 a1 a2 a3 a4 a5 a6 a7 a9 aE aI aJ aK t z=xmS a0 a1 a2 a3 a4 a5 a6 a9 aE aI aJ aK t (clsOf z)/\xaL g a0 a1 a2 a3 a4 a5 a6 a7 a9 aE aI aJ aK t z=a7/\xaX g a0 a1 a2 a3 a4 a5 a6 a7 a9 aE aI aJ aK t z=xmX a0 a1 a2 a3 a4 a5 a6 a9 aE aI aJ aK t (clsOf z)/\xaD g a0 a1 a2 a3 a4 a5 a6 a7 a9 aE aI aJ aK t z=xmD a0 a1 a2 a3 a4 a5 a6 a9 aE aI aJ aK t (clsOf z)/\xaA g a0 a1 a2 a3 a4 a5 a6 a7 a9 aE aI aJ aK t z=xmA a0 a1 a2 a3 a4 a5 a6 a9 aE aI aJ aK t (clsOf z):=by
 refine⟨?_,?_,?_,?_,?_,?_,?_,?_,?_,?_⟩
 ·unfold xaC;rw[VR h,VR c]
 ·unfold xaU;rw[VR h,VR c]
 ·unfold xaE;rw[VR h,VR c]
 ·unfold xaK;rw[VR h,VR c]
 ·unfold xaF;rw[VR h,VR c]
 ·unfold xaS;rw[VR h,VR c]
 ·unfold xaL;rw[VR h,VR c]
 ·unfold xaX;rw[VR h,VR c]
 ·unfold xaD;rw[VR h,VR c]
 ·unfold xaA;rw[VR h,VR c]
theorem aa9 (h:g=true)(c:clsOf z<0):xaC g a0 a1 a2 a3 a4 a5 a6 a7 a9 aE aI aJ aK t z=xpC a0 a1 a2 a3 a4 a5 (pfN z)/\xaU g a0 a1 a2 a3 a4 a5 a6 a7 a9 aE aI aJ aK t z=xpU a0 a1 a2 a3 a4 a5 (pfN z)/\xaE g a0 a1 a2 a3 a4 a5 a6 a7 a9 aE aI aJ aK t z=xpE a0 a1 a2 a3 a4 a5 (pfN z)/\xaK g a0 a1 a2 a3 a4 a5 a6 a7 a9 aE aI aJ aK t z=xpK a1 a2 a3 a4 a5 (pfN z)/\xaF g a0 a1 a2 a3 a4 a5 a6 a7 a9 aE aI aJ aK t z=xpF a1 a2 a3 a4 a5 (pfN z)/\xaS g a0 a1 a2 a3 a4 a5 a6 a7 a9 aE aI aJ aK t z=a6/\xaL g a0 a1 a2 a3 a4 a5 a6 a7 a9 aE aI aJ aK t z=xlL a1 a2 a3 a4 a5 a7 z/\xaX g a0 a1 a2 a3 a4 a5 a6 a7 a9 aE aI aJ aK t z=a9/\xaD g a0 a1 a2 a3 a4 a5 a6 a7 a9 aE aI aJ aK t z=aE/\xaA g a0 a1 a2 a3 a4 a5 a6 a7 a9 aE aI aJ aK t z=xlA a1 a2 a3 a4 a5 z:=by
 refine⟨?_,?_,?_,?_,?_,?_,?_,?_,?_,?_⟩
 ·unfold xaC;rw[VR h,VT (by omega)]
 ·unfold xaU;rw[VR h,VT (by omega)]
 ·unfold xaE;rw[VR h,VT (by omega)]
 ·unfold xaK;rw[VR h,VT (by omega)]
 ·unfold xaF;rw[VR h,VT (by omega)]
 ·unfold xaS;rw[VR h,VT (by omega)]
 ·unfold xaL;rw[VR h,VT (by omega)]
 ·unfold xaX;rw[VR h,VT (by omega)]
 ·unfold xaD;rw[VR h,VT (by omega)]
 ·unfold xaA;rw[VR h,VT (by omega)]
end
def xaP (a8:af)(aH t z w:Int):af:=if 0<=w then inL a8 (GH a8 1 w) [[.i aH,.i w,.i z,.i t]]else a8
def xaN (aH w:Int):Int:=if 0<=w then aH+1 else aH
def xaR (c w:Int):Int:=if c≠0 then c else if w<0 then 4 else 0
end Go.V
namespace Go.V
theorem adM {A B:Prop}(b:Bool)(h1:b=true->A)(h2:b=false->B):A\/B:=by
 cases b with
 |true=>exact .inl (h1 rfl)
 |false=>exact .inr (h2 rfl)
theorem abX {ls:af}{k:Int}(h:ctB ls k=true):0<=ctA ls k/\ctA ls k<=511:=by
 have e:=(OB h).2;unfold ctB clB at h;simp only[Zc,VQ]at h;obtain⟨⟨r,ca⟩,l⟩:=h;have q:=bA.1 r;unfold caOk at ca;simp only[Zc]at ca;have a:=dL.1 ca.2.1 k q.1 (by omega);unfold Ox at a;rw[Zc]at a;have b:=dL.1 a.2 ((ax ls k 0).length-1) (by omega) (by omega);unfold Oy at b;rw[Zc]at b;rw[e];exact bA.1 b.1
theorem LP {es:af}{i:Int}{r:ay}{j:Nat}(i0:0<=i)(i1:i<=es.length):ah (inL es i [r]) i j=O8 (r.getD j .g):=by
 have h:(inL es i [r]).getD i.toNat []=r:=by
  unfold inL;rw[Zr,ZJ (by rw[Zk];omega),Zk,show i.toNat-min i.toNat es.length=0 by omega];rfl
 unfold ah;rw[h]
section
variable {a0 a1 a2: af} {a3: Int} {a4 a5 a6 a7 a8 a9 aA aB aD aL: af} {aC aE aF aG aH: Int} {aI: Bool} {aJ aK aM aN t k i z n p b w: Int} {g: Bool}
theorem JC (hc:si a0 a1 a2 a4 a5 a6 a7 a8 a9 aA aB aD aL)(km:oU a0 a1 a2):si (xpC a0 a1 a2 a3 a4 a5 n) (xpU a0 a1 a2 a3 a4 a5 n) (xpE a0 a1 a2 a3 a4 a5 n) a4 (xpF a1 a2 a3 a4 a5 n) a6 a7 a8 a9 aA aB aD aL:=by
 have m:=ahq (a3:=a3) (a4:=a4) (a5:=a5) (n:=n) km hc.r0 hc.r1 hc.r2;have f:=abj (a1:=a1) (a2:=a2) (a3:=a3) (a4:=a4) (n:=n) hc.r5;have c5:=hc.c5;rw[hc.r5.cnt rfl]at c5;exact {hc with r0:=m.2.1,r1:=m.2.2.1,r2:=m.2.2.2.1,r5:=f.1,c0:=ZM m.2.2.2.2.2.1 (by decide),c1:=ZM m.2.2.2.2.2.2.1 (by decide),c2:=ZM m.2.2.2.2.2.2.2 (by decide),c5:=by rw[f.1.cnt rfl];omega}
theorem TU (h:Rw [tI,tI,tI] a6)(l:a6.length<=1073741824)(hp: -9223372036854775808<=p/\p<=9223372036854775807)(hk: -9223372036854775808<=k/\k<=9223372036854775807)(hb: -9223372036854775808<=b/\b<=9223372036854775807):Rw [tI,tI,tI] (isL a6 p k b)/\(isL a6 p k b).length=a6.length+1:=by
 unfold isL;refine⟨LQ h (Rw.one (show cg [tI,tI,tI] [.i p,.i k,.i b]from⟨⟨rfl,hp⟩,⟨rfl,hk⟩,⟨rfl,hb⟩,trivial⟩)) (by unfold maxLen;simp only[Zp,Zs];omega),As⟩
theorem Q5 (hc:si a0 a1 a2 a4 a5 a6 a7 a8 a9 aA aB aD aL)(c6:am a6<=1000000000)(hp: -9223372036854775808<=p/\p<=9223372036854775807)(hk: -9223372036854775808<=k/\k<=9223372036854775807)(hb: -9223372036854775808<=b/\b<=9223372036854775807):si a0 a1 a2 a4 a5 (isL a6 p k b) a7 a8 a9 aA aB aD aL:=by
 have l:=aw (es:=a6);have s:=TU (p:=p) (k:=k) (b:=b) hc.r6 (by omega) hp hk hb;rw[hc.r6.cnt rfl]at c6;exact {hc with r6:=s.1,c6:=by rw[s.1.cnt rfl,s.2];omega}
theorem NN (h:xpB a1 a2 a3 a4 a5 1=true)(hk:inR k 0 3=true):spOk (ah (isL a6 (xpA a1 a2 a3 a4 a5 1) k 0) (isI a6 (xpA a1 a2 a3 a4 a5 1)) 0) (ah (isL a6 (xpA a1 a2 a3 a4 a5 1) k 0) (isI a6 (xpA a1 a2 a3 a4 a5 1)) 1) (ah (isL a6 (xpA a1 a2 a3 a4 a5 1) k 0) (isI a6 (xpA a1 a2 a3 a4 a5 1)) 2)=true:=by
 obtain⟨h1,h2,_⟩:=ae8 h;have q:=GB h1;have lb:=L2 (rs:=a6) (j:=0) (x:=xpA a1 a2 a3 a4 a5 1);unfold isL isI;rw[LP lb.1 lb.2,LP lb.1 lb.2,LP lb.1 lb.2];show spOk (xpA a1 a2 a3 a4 a5 1) k 0=true;unfold spOk;rw[h2,bA.2 ⟨q.1,by omega⟩,YF];rcases Lb hk with rfl|rfl|rfl|rfl<;>decide
theorem GC (h:xpB a1 a2 a3 a4 a5 n=true):0<=xpA a1 a2 a3 a4 a5 n/\xpA a1 a2 a3 a4 a5 n<=31/\xpA a1 a2 a3 a4 a5 n+n<=a2.length/\1<=n/\n<=32:=by
 obtain⟨h1,h2,_⟩:=ae8 h;have q:=GB h1;rw[h2];omega
theorem acV (h6:Rw [tI,tI,tI] a6):0<=isI a6 p/\isI a6 p<(isL a6 p k b).length:=by
 have lb:=L2 (rs:=a6) (j:=0) (x:=p);unfold isI isL;rw[As];simp only[Zp,Zs];omega
theorem NI (hc:si a0 a1 a2 a4 a5 a6 a7 a8 a9 aA aB aD aL)(i0:0<=i)(i1:i<a6.length)(hs:spOk (ah a6 i 0) (ah a6 i 1) (ah a6 i 2)=true)(hd:inR aE 0 1073741823=true){e:af}:si a0 a1 a2 a4 a5 (xcS e a6 aE i) a7 a8 a9 aA aB aD aL:=by
 have s:=abb (a2:=e) hc.r6 i0 i1 hs hd;have c6:=hc.c6;rw[hc.r6.cnt rfl]at c6;exact {hc with r6:=s.1,c6:=by rw[s.1.cnt rfl,s.2];exact c6}
theorem GA (hk:hpI a0 a1 a2 a3 a4 a5 a6 a7 a8 a9 aA aB aC aD aE aF aG aH aI aJ aK aL aM aN=true)(i0:0<=i)(i1:i<a6.length):spOk (ah a6 i 0) (ah a6 i 1) (ah a6 i 2)=true:=by
 have s:=(lyF (wC hk).l).s i.toNat (by omega)
 rwa [Zq i0]at s
theorem ahp {Q:Int->Bool}{m:Nat}(h:0<=cP Q m):cP Q m<m:=(lD h).1
theorem aeZ (hc:si a0 a1 a2 a4 a5 a6 a7 a8 a9 aA aB aD aL)(hk:hpI a0 a1 a2 a3 a4 a5 a6 a7 a8 a9 aA aB aC aD aE aF aG aH aI aJ aK aL aM aN=true)(c6:am a6<=1000000000)(c9:am a9<=300000000)(ht:inR t 0 (a9.length-1)=true)(kk:inR k 0 3=true):
 si (xmC a0 a1 a2 a3 a4 a5 a6 a9 aE aI aJ aK t k) (xmU a0 a1 a2 a3 a4 a5 a6 a9 aE aI aJ aK t k) (xmE a0 a1 a2 a3 a4 a5 a6 a9 aE aI aJ aK t k) a4 (xmF a0 a1 a2 a3 a4 a5 a6 a9 aE aI aJ aK t k) (xmS a0 a1 a2 a3 a4 a5 a6 a9 aE aI aJ aK t k) a7 a8 (xmX a0 a1 a2 a3 a4 a5 a6 a9 aE aI aJ aK t k) aA aB aD aL:=by
 have H:=wC hk;have km:=(kf H.k).1;have tr:=bA.1 ht;have kr:=bA.1 kk;cases c:ctB (ax a9 t 0) k with
 | true=>
   have q:=abe (a0:=a0) (a1:=a1) (a2:=a2) (a3:=a3) (a4:=a4) (a5:=a5) (a6:=a6) (aE:=aE) (aI:=aI) (aJ:=aJ) (aK:=aK) c;obtain⟨q1,q2,q3,_,q5,q6,q7,_⟩:=q;rw[q1,q2,q3,q5,q6,q7];have s:=Eo hc.r9 tr.1 (by omega);have l:=abY (k:=k) s;have e:=Ff (es:=a9) (n:=t.toNat) (e:=[.s 1 (ctL (ax a9 t 0) k)]);have f:dC [L.s 1 (ctL (ax a9 t 0) k)]=am (ctL (ax a9 t 0) k):=by simp only[dC,gS,am];omega
   have d:=oh (es:=a9) (i:=t) (j:=0);have c8:=hc.r9;refine {hc with r9:=Rw.set hc.r9 (show cg [.sl [.sl [tI]]] [.s 1 (ctL (ax a9 t 0) k)]from⟨⟨rfl,l.1⟩,trivial⟩) _,c9:= ?_};have lk:(ctL (ax a9 t 0) k).length=(ax a9 t 0).length:=by rw[(OB c).1,ZO]
   have y:=l.2;have x:am (ax a9 t 0)<=am a9:=oh;omega
 | false=>
   by_cases i:0<=Ic a2 a6 aI aJ aK k
   ·obtain⟨q1,q2,q3,_,q5,q6,q7,_⟩:=abf (a0:=a0) (a1:=a1) (a3:=a3) (a4:=a4) (a5:=a5) (aE:=aE) c i rfl;rw[q1,q2,q3,q5,q6,q7];have il:=ahp i;exact NI hc i il (GA hk i il) H.s
   ·cases d:xpB a1 a2 a3 a4 a5 1 with
    | false=>
      obtain⟨q1,q2,q3,_,q5,q6,q7,_⟩:=abg (a0:=a0) (aE:=aE) c (Xw.1 i) d;rw[q1,q2,q3,q5,q6,q7];exact JC hc km
    | true=>
      obtain⟨q1,q2,q3,_,q5,q6,q7,_⟩:=abh (a0:=a0) (aE:=aE) c (Xw.1 i) d;rw[q1,q2,q3,q5,q6,q7];have pg:=GC d;have h1:=Q5 (p:=xpA a1 a2 a3 a4 a5 1) (k:=k) (b:=0) (JC (a3:=a3) (n:=1) hc km) c6 (by omega) (by omega) (by omega);have ii:=acV (p:=xpA a1 a2 a3 a4 a5 1) (k:=k) (b:=0) hc.r6;exact NI h1 ii.1 ii.2 (NN d kk) H.s
theorem aeW (hc:si a0 a1 a2 a4 a5 a6 a7 a8 a9 aA aB aD aL)(km:oU a0 a1 a2)(c7:am a7<=1000000000)(hz: -9223372036854775808<=z/\z<=9223372036854775807):si (xpC a0 a1 a2 a3 a4 a5 (pfN z)) (xpU a0 a1 a2 a3 a4 a5 (pfN z)) (xpE a0 a1 a2 a3 a4 a5 (pfN z)) a4 (xpF a1 a2 a3 a4 a5 (pfN z)) a6 (xlL a1 a2 a3 a4 a5 a7 z) a8 a9 aA aB aD aL:=by
 have h:=JC (a3:=a3) (n:=pfN z) hc km;have l:=aw (es:=a7);unfold xlL;split
 ·rename_i b;have pg:=GC b;have b1: -9223372036854775808<=xpA a1 a2 a3 a4 a5 (pfN z)/\xpA a1 a2 a3 a4 a5 (pfN z)<=9223372036854775807:=by omega
  have b2: -9223372036854775808<=pfN z/\pfN z<=9223372036854775807:=by omega
  have w:=LQ (i:=GH a7 0 (xpA a1 a2 a3 a4 a5 (pfN z))) hc.r7 (Rw.one (show cg [tI,tI,tI] [.i (xpA a1 a2 a3 a4 a5 (pfN z)),.i (pfN z),.i z]from⟨⟨rfl,b1⟩,⟨rfl,b2⟩,⟨rfl,hz⟩,trivial⟩)) (by unfold maxLen;simp only[Zp,Zs];omega);rw[hc.r7.cnt rfl]at c7;exact {h with r7:=w,c7:=by rw[w.cnt rfl,As];simp only[Zp,Zs];omega}
 ·exact h
theorem NG (hc:si a0 a1 a2 a4 a5 a6 a7 a8 a9 aA aB aD aL)(c8:am a8<=1000000000)(hx: -9223372036854775808<=aH/\aH<=9223372036854775807)(hw: -9223372036854775808<=w/\w<=9223372036854775807)(hz: -9223372036854775808<=z/\z<=9223372036854775807)(ht: -9223372036854775808<=t/\t<=9223372036854775807):si a0 a1 a2 a4 a5 a6 a7 (xaP a8 aH t z w) a9 aA aB aD aL:=by
 have l:=aw (es:=a8);unfold xaP;split
 ·have r:=LQ (i:=GH a8 1 w) hc.r8 (Rw.one (show cg [tI,tI,tI,tI] [.i aH,.i w,.i z,.i t]from⟨⟨rfl,hx⟩,⟨rfl,hw⟩,⟨rfl,hz⟩,⟨rfl,ht⟩,trivial⟩)) (by unfold maxLen;simp only[Zp,Zs];omega);rw[hc.r8.cnt rfl]at c8;exact {hc with r8:=r,c8:=by rw[r.cnt rfl,As];simp only[Zp,Zs];omega}
 ·exact hc
theorem kB (c:0<=clsOf z):inR (clsOf z) 0 3=true:=by
 refine bA.2 ⟨c,?_⟩;unfold clsOf;repeat' split
 all_goals omega
theorem P6 (hk:hpI a0 a1 a2 a3 a4 a5 a6 a7 a8 a9 aA aB aC aD aE aF aG aH aI aJ aK aL aM aN=true)(kk:inR k 0 3=true):(xmB a0 a1 a2 a3 a4 a5 a6 a9 aE aI aJ aK t k=true/\0<=xmA a0 a1 a2 a3 a4 a5 a6 a9 aE aI aJ aK t k/\xmA a0 a1 a2 a3 a4 a5 a6 a9 aE aI aJ aK t k<=511)\/(xmB a0 a1 a2 a3 a4 a5 a6 a9 aE aI aJ aK t k=false/\xmA a0 a1 a2 a3 a4 a5 a6 a9 aE aI aJ aK t k= -1):=by
 have H:=wC hk;cases c:ctB (ax a9 t 0) k with
 | true=>
   obtain⟨_,_,_,_,_,_,_,_,q9,q10⟩:=abe (a0:=a0) (a1:=a1) (a2:=a2) (a3:=a3) (a4:=a4) (a5:=a5) (a6:=a6) (aE:=aE) (aI:=aI) (aJ:=aJ) (aK:=aK) c;rw[q9,q10];exact .inl ⟨rfl,abX c⟩
 | false=>
   by_cases i:0<=Ic a2 a6 aI aJ aK k
   ·obtain⟨_,_,_,_,_,_,_,_,q9,q10⟩:=abf (a0:=a0) (a1:=a1) (a3:=a3) (a4:=a4) (a5:=a5) (aE:=aE) c i rfl;rw[q9,q10];have il:=lD i;change Ic a2 a6 aI aJ aK k<a6.length/\EW a2 a6 aI aJ aK k (Ic a2 a6 aI aJ aK k)=true at il;have y:=il.2;unfold EW at y;simp only[Zc]at y;have n:¬ (qo a2 a6 (Ic a2 a6 aI aJ aK k)).length=0:=by have:=VU y.2.2;omega
    have X:=Gz (a2:=a2) (GA hk i il.1) H.s n;rw[(NL n).2.2.2];exact .inl ⟨rfl,X.a0,X.a1⟩
   ·cases d:xpB a1 a2 a3 a4 a5 1 with
    | false=>
      obtain⟨_,_,_,_,_,_,_,_,q9,q10⟩:=abg (a0:=a0) (aE:=aE) c (Xw.1 i) d;rw[q9,q10];exact .inr ⟨rfl,rfl⟩
    | true=>
      obtain⟨_,_,_,_,_,_,_,_,q9,q10⟩:=abh (a0:=a0) (aE:=aE) c (Xw.1 i) d;rw[q9,q10];by_cases n:(qo (xpE a0 a1 a2 a3 a4 a5 1) (isL a6 (xpA a1 a2 a3 a4 a5 1) k 0) (isI a6 (xpA a1 a2 a3 a4 a5 1))).length=0
      ·have q:=NJ (s:=aE) n;rw[q.1,q.2.2.2];exact .inr ⟨rfl,rfl⟩
      ·have q:=NL (s:=aE) n;have X:=Gz (NN d kk) H.s n;rw[q.1,q.2.2.2];exact .inl ⟨rfl,X.a0,X.a1⟩
theorem abc:(xpB a1 a2 a3 a4 a5 (pfN z)=true/\0<=xlA a1 a2 a3 a4 a5 z/\xlA a1 a2 a3 a4 a5 z<=511)\/(xpB a1 a2 a3 a4 a5 (pfN z)=false/\xlA a1 a2 a3 a4 a5 z= -1):=by
 unfold xlA;cases d:xpB a1 a2 a3 a4 a5 (pfN z)with
 |true=>have:=GC d;exact .inl ⟨rfl,by rw[VR rfl];omega,by rw[VR rfl];omega⟩
 |false=>exact .inr ⟨rfl,rfl⟩
theorem aeY (h:upto (bT (EW a2 a6 aI aJ aK k)) i)(i0:0<=i)(i1:i<a6.length)(e:ah a6 i 1=k)(f:bsB aI aJ aK (ah a6 i 0)=false)(x:xcB a2 a6 i=true):Ic a2 a6 aI aJ aK k=i:=
 eD h i0 i1 (by unfold EW;rw[wt e,f,x];rfl)
theorem R7 (h:upto (bT (EW a2 a6 aI aJ aK k)) i)(i1:(a6.length:Int)<=i):Ic a2 a6 aI aJ aK k<0:=by
 unfold Ic;rw[eE h i1];omega
theorem ae2 (h:upto (bT (EW a2 a6 aI aJ aK k)) i)(e:ah a6 i 1≠k):upto (bT (EW a2 a6 aI aJ aK k)) (i+1):=aV h (iD (by unfold EW;rw[wq e];rfl))
theorem ae3 (h:upto (bT (EW a2 a6 aI aJ aK k)) i)(f:bsB aI aJ aK (ah a6 i 0)=true):upto (bT (EW a2 a6 aI aJ aK k)) (i+1):=aV h (iD (by unfold EW;rw[f];simp))
theorem ae4 (h:upto (bT (EW a2 a6 aI aJ aK k)) i)(x:xcB a2 a6 i=false):upto (bT (EW a2 a6 aI aJ aK k)) (i+1):=aV h (iD (by unfold EW;rw[x];simp))
theorem abl (h:xsI a1 a2 a3 a4 a5 a6 k<0):xpB a1 a2 a3 a4 a5 1=false:=by
 cases c:xpB a1 a2 a3 a4 a5 1 with
 |false=>rfl
 | true=>
   unfold xsI isI at h;rw[VR c]at h;have:=L2 (rs:=a6) (j:=0) (x:=xpA a1 a2 a3 a4 a5 1);omega
theorem abm (h:0<=xsI a1 a2 a3 a4 a5 a6 k):xpB a1 a2 a3 a4 a5 1=true:=by
 cases c:xpB a1 a2 a3 a4 a5 1 with
 |true=>rfl
 | false=>
   unfold xsI at h;rw[c]at h;exact absurd (show(0:Int)<= -1 from h) (by omega)
theorem afe (c:xpB a1 a2 a3 a4 a5 1=true):xsI a1 a2 a3 a4 a5 a6 k=isI a6 (xpA a1 a2 a3 a4 a5 1)/\xsL a1 a2 a3 a4 a5 a6 k=isL a6 (xpA a1 a2 a3 a4 a5 1) k 0:=by
 unfold xsI xsL;rw[VR c,VR c];exact⟨rfl,rfl⟩
theorem aht (c:xpB a1 a2 a3 a4 a5 1=false):xsL a1 a2 a3 a4 a5 a6 k=a6:=by unfold xsL;rw[c];rfl
theorem aeV (hs:spOk (ah a6 i 0) (ah a6 i 1) (ah a6 i 2)=true)(hd:inR aE 0 1073741823=true)(x:xcB a2 a6 i=true):0<=xcA a2 a6 aE i:=by
 have n:¬ (qo a2 a6 i).length=0:=by have:=VU x;omega
 rw[(NL n).2.2.2];exact(Gz hs hd n).a0
theorem RV {x:af}(h:Rw [.sl [.sl [tI]]] a9)(t0:0<=t)(t1:t<a9.length):sH (.s 1 a9) [(t.toNat,0)] [.s 1 x]=a9.set t.toNat [.s 1 x]:=ny (by rw[h.eta t0 t1];rfl)
theorem abi (hc:si a0 a1 a2 a4 a5 a6 a7 a8 a9 aA aB aD aL)(km:oU a0 a1 a2)(c6:am a6<=1000000000)(kk:inR k 0 3=true)(hd:inR aE 0 1073741823=true)(c:xpB a1 a2 a3 a4 a5 1=true):
 si (xpC a0 a1 a2 a3 a4 a5 1) (xpU a0 a1 a2 a3 a4 a5 1) (xpE a0 a1 a2 a3 a4 a5 1) a4 (xpF a1 a2 a3 a4 a5 1) (isL a6 (xpA a1 a2 a3 a4 a5 1) k 0) a7 a8 a9 aA aB aD aL/\0<=isI a6 (xpA a1 a2 a3 a4 a5 1)/\isI a6 (xpA a1 a2 a3 a4 a5 1)<(isL a6 (xpA a1 a2 a3 a4 a5 1) k 0).length/\spOk (ah (isL a6 (xpA a1 a2 a3 a4 a5 1) k 0) (isI a6 (xpA a1 a2 a3 a4 a5 1)) 0) (ah (isL a6 (xpA a1 a2 a3 a4 a5 1) k 0) (isI a6 (xpA a1 a2 a3 a4 a5 1)) 1) (ah (isL a6 (xpA a1 a2 a3 a4 a5 1) k 0) (isI a6 (xpA a1 a2 a3 a4 a5 1)) 2)=true/\inR aE 0 1073741823=true:=by
 have pg:=GC c;have kr:=bA.1 kk;have ii:=acV (p:=xpA a1 a2 a3 a4 a5 1) (k:=k) (b:=0) hc.r6;exact⟨Q5 (JC hc km) c6 (by omega) (by omega) (by omega),ii.1,ii.2,NN c kk,hd⟩
end
end Go.V
namespace Go.V
section
variable {a0 a1 a2: af} {a3: Int} {a4 a5 a6 a7 a8 a9: af} {z: Int}
theorem adT (_: -9223372036854775808<=z)(_:z<=9223372036854775807): -9223372036854775808<=pfN z/\pfN z<=9223372036854775807:=by
 unfold pfN;split
 ·rename_i h;have:=bA.1 h;omega
 ·omega
theorem aeX (c:xpB a1 a2 a3 a4 a5 (pfN z)=true):xlL a1 a2 a3 a4 a5 a7 z=inL a7 (GH a7 0 (xpA a1 a2 a3 a4 a5 (pfN z))) [[.i (xpA a1 a2 a3 a4 a5 (pfN z)),.i (pfN z),.i z]]/\xlA a1 a2 a3 a4 a5 z=xpA a1 a2 a3 a4 a5 (pfN z)*16:=by
 unfold xlL xlA;rw[VR c,VR c];exact⟨rfl,rfl⟩
theorem abd (c:xpB a1 a2 a3 a4 a5 (pfN z)=false):xlL a1 a2 a3 a4 a5 a7 z=a7/\xlA a1 a2 a3 a4 a5 z= -1:=by
 unfold xlL xlA;rw[c];exact⟨rfl,rfl⟩
end
theorem Bl {h:Bool}{a3:Int}{a8 a9:af}{aG aH t z:Int}(e:h=false\/aH=1000000\/90000<a3):xaG h a3 a8 a9 aG aH t z=5:=by unfold xaG;rw[VR e]
theorem RX {h:Bool}{a3:Int}{a8 a9:af}{aG aH t z:Int}(e1:h=true)(e2:aH≠1000000)(e3:a3<=90000)(e4:inR t 0 (a9.length-1)=false):xaG h a3 a8 a9 aG aH t z=1:=by unfold xaG;rw[VT (by rintro(q|q|q);(rw[e1]at q;cases q);(exact e2 q);omega),VR e4]
theorem RY {h:Bool}{a3:Int}{a8 a9:af}{aG aH t z:Int}(e1:h=true)(e2:aH≠1000000)(e3:a3<=90000)(e4:inR t 0 (a9.length-1)=true)(e5:inR z 1 1000=false):xaG h a3 a8 a9 aG aH t z=2:=by unfold xaG;rw[VT (by rintro(q|q|q);(rw[e1]at q;cases q);(exact e2 q);omega),VT (by rw[e4];decide),VR e5]
theorem RZ {h:Bool}{a3:Int}{a8 a9:af}{aG aH t z:Int}(e1:h=true)(e2:aH≠1000000)(e3:a3<=90000)(e4:inR t 0 (a9.length-1)=true)(e5:inR z 1 1000=true)(e6:aG<bO .add Za (lsI a8) z):xaG h a3 a8 a9 aG aH t z=3:=by unfold xaG;rw[VT (by rintro(q|q|q);(rw[e1]at q;cases q);(exact e2 q);omega),VT (by rw[e4];decide),VT (by rw[e5];decide),VR e6]
theorem R0 {h:Bool}{a3:Int}{a8 a9:af}{aG aH t z:Int}(e1:h=true)(e2:aH≠1000000)(e3:a3<=90000)(e4:inR t 0 (a9.length-1)=true)(e5:inR z 1 1000=true)(e6:bO .add Za (lsI a8) z<=aG):xaG h a3 a8 a9 aG aH t z=0:=by unfold xaG;rw[VT (by rintro(q|q|q);(rw[e1]at q;cases q);(exact e2 q);omega),VT (by rw[e4];decide),VT (by rw[e5];decide),VT (by omega)]
theorem NF {h:Bool}{a3:Int}{a8 a9:af}{aG aH t z c:Int}(e:xaG h a3 a8 a9 aG aH t z=c)(n:c≠0):xaO h a3 a8 a9 aG aH t z=false:=VP (by rw[e];exact n)
theorem JB {h:Bool}{a3:Int}{a8 a9:af}{aG aH t z:Int}(e:xaG h a3 a8 a9 aG aH t z=0):xaO h a3 a8 a9 aG aH t z=true:=VO e
theorem aeU {h:Bool}{a3:Int}{a8 a9:af}{aG aH t z:Int}(e:xaO h a3 a8 a9 aG aH t z=true):h=true/\aH≠1000000/\a3<=90000/\inR t 0 (a9.length-1)=true/\inR z 1 1000=true:=by
 have q:xaG h a3 a8 a9 aG aH t z=0:=VU e;unfold xaG at q;split at q
 ·exact absurd q (by decide)
 rename_i n;split at q
 ·exact absurd q (by decide)
 rename_i n1;split at q
 ·exact absurd q (by decide)
 rename_i n2;refine⟨?_,fun e=>n (.inr (.inl e)),?_,by simpa using n1,by simpa using n2⟩
 ·cases h with
  |true=>rfl
  |false=>exact absurd (.inl rfl) n
 ·have:¬ 90000<a3:=fun e=>n (.inr (.inr e))
  omega
theorem R3 {c w:Int}(h:c=0)(n:w<0):xaR c w=4:=by unfold xaR;rw[VT (fun q=>q h),VR n]
theorem R2 {c w:Int}(h:c=0)(n:0<=w):xaR c w=0:=by unfold xaR;rw[VT (fun q=>q h),VT (by omega)]
theorem NH {a8:af}{aH t z w:Int}(n:w<0):xaP a8 aH t z w=a8/\xaN aH w=aH:=⟨VT (by omega),VT (by omega)⟩
theorem R1 {a8:af}{aH t z w:Int}(n:0<=w):xaP a8 aH t z w=inL a8 (GH a8 1 w) [[.i aH,.i w,.i z,.i t]]/\xaN aH w=aH+1:=⟨VR n,VR n⟩
section
variable {g: Bool}
variable {a0 a1 a2: af} {a3: Int} {a4 a5 a6 a7 a8 a9 aA aB aD aL: af} {aC aE aF aG aH: Int} {aI: Bool} {aJ aK aM aN t k i z: Int}
theorem R4 (hc:si a0 a1 a2 a4 a5 a6 a7 a8 a9 aA aB aD aL)(c6:am a6<=1000000000)(c7:am a7<=1000000000)(c8:am a8<=1000000000)(c9:am a9<=300000000)(ht: -9223372036854775808<=t/\t<=9223372036854775807)(hz: -9223372036854775808<=z/\z<=9223372036854775807)(e:g=xaO (hpI a0 a1 a2 a3 a4 a5 a6 a7 a8 a9 aA aB aC aD aE aF aG aH aI aJ aK aL aM aN) a3 a8 a9 aG aH t z):
 si (xaC g a0 a1 a2 a3 a4 a5 a6 a7 a9 aE aI aJ aK t z) (xaU g a0 a1 a2 a3 a4 a5 a6 a7 a9 aE aI aJ aK t z) (xaE g a0 a1 a2 a3 a4 a5 a6 a7 a9 aE aI aJ aK t z) a4 (xaF g a0 a1 a2 a3 a4 a5 a6 a7 a9 aE aI aJ aK t z) (xaS g a0 a1 a2 a3 a4 a5 a6 a7 a9 aE aI aJ aK t z) (xaL g a0 a1 a2 a3 a4 a5 a6 a7 a9 aE aI aJ aK t z) (xaP a8 aH t z (xaA g a0 a1 a2 a3 a4 a5 a6 a7 a9 aE aI aJ aK t z)) (xaX g a0 a1 a2 a3 a4 a5 a6 a7 a9 aE aI aJ aK t z) aA aB aD aL:=by
 cases g with
 | false=>
   obtain⟨q1,q2,q3,_,q5,q6,q7,q8,_,q10⟩:=P4 (g:=false) (a0:=a0) (a1:=a1) (a2:=a2) (a3:=a3) (a4:=a4) (a5:=a5) (a6:=a6) (a7:=a7) (a9:=a9) (aE:=aE) (aI:=aI) (aJ:=aJ) (aK:=aK) (t:=t) (z:=z) rfl;rw[q1,q2,q3,q5,q6,q7,q8,q10,(NH (by decide)).1];exact hc
 | true=>
   have y:=aeU e.symm;have H:=wC y.1;have xr:=bA.1 H.x;have km:=(kf H.k).1;by_cases c:0<=clsOf z
   ·obtain⟨q1,q2,q3,_,q5,q6,q7,q8,_,q10⟩:=aba (g:=true) (a0:=a0) (a1:=a1) (a2:=a2) (a3:=a3) (a4:=a4) (a5:=a5) (a6:=a6) (a7:=a7) (a9:=a9) (aE:=aE) (aI:=aI) (aJ:=aJ) (aK:=aK) (t:=t) rfl c;rw[q1,q2,q3,q5,q6,q7,q8,q10];have b:=P6 (t:=t) y.1 (kB c);exact NG (aeZ hc y.1 c6 c9 y.2.2.2.1 (kB c)) c8 (by omega) (by omega) hz ht
   ·obtain⟨q1,q2,q3,_,q5,q6,q7,q8,_,q10⟩:=aa9 (g:=true) (a0:=a0) (a1:=a1) (a2:=a2) (a3:=a3) (a4:=a4) (a5:=a5) (a6:=a6) (a7:=a7) (a9:=a9) (aE:=aE) (aI:=aI) (aJ:=aJ) (aK:=aK) (t:=t) rfl (Xw.1 c);rw[q1,q2,q3,q5,q6,q7,q8,q10];have b:=abc (a1:=a1) (a2:=a2) (a3:=a3) (a4:=a4) (a5:=a5) (z:=z);exact NG (aeW hc km c7 hz) c8 (by omega) (by omega) hz ht
theorem ae0 {w:Int}(hk:hpI a0 a1 a2 a3 a4 a5 a6 a7 a8 a9 aA aB aC aD aE aF aG aH aI aJ aK aL aM aN=true)(kk:inR k 0 3=true)(b:xmB a0 a1 a2 a3 a4 a5 a6 a9 aE aI aJ aK t k=false)(hw:xmA a0 a1 a2 a3 a4 a5 a6 a9 aE aI aJ aK t k=w):w<0:=by
 rcases P6 (t:=t) hk kk with q|q
 ·rw[b]at q;cases q.1
 ·omega
theorem ae5 {w:Int}(hk:hpI a0 a1 a2 a3 a4 a5 a6 a7 a8 a9 aA aB aC aD aE aF aG aH aI aJ aK aL aM aN=true)(kk:inR k 0 3=true)(b:xmB a0 a1 a2 a3 a4 a5 a6 a9 aE aI aJ aK t k=true)(hw:xmA a0 a1 a2 a3 a4 a5 a6 a9 aE aI aJ aK t k=w):0<=w:=by
 rcases P6 (t:=t) hk kk with q|q;omega
 ·rw[b]at q;cases q.1
theorem R5 {w:Int}(b:xpB a1 a2 a3 a4 a5 (pfN z)=false)(hw:xlA a1 a2 a3 a4 a5 z=w):w<0:=by
 have:=(abd (a7:=([]:af)) b).2;omega
theorem R6 {w:Int}(b:xpB a1 a2 a3 a4 a5 (pfN z)=true)(hw:xlA a1 a2 a3 a4 a5 z=w):0<=w:=by
 rcases abc (a1:=a1) (a2:=a2) (a3:=a3) (a4:=a4) (a5:=a5) (z:=z)with q|q;omega
 ·rw[b]at q;cases q.1
theorem P7 {w:Int}(hk:hpI a0 a1 a2 a3 a4 a5 a6 a7 a8 a9 aA aB aC aD aE aF aG aH aI aJ aK aL aM aN=true)(kk:inR k 0 3=true)(hw:xmA a0 a1 a2 a3 a4 a5 a6 a9 aE aI aJ aK t k=w)(h:w<0):w= -1:=by
 rcases P6 (t:=t) hk kk with q|q<;>omega
theorem P5 {w:Int}(hw:xlA a1 a2 a3 a4 a5 z=w)(h:w<0):w= -1:=by
 rcases abc (a1:=a1) (a2:=a2) (a3:=a3) (a4:=a4) (a5:=a5) (z:=z)with q|q<;>omega
end
end Go.V