/- Plain facts. -/
import Derived.Test.YtbedjnlfdopeeaaGreatW2
import Derived.Test.YtbedjnlfdopeeaaGreatW1
set_option linter.all false
open Go
open BitVec renaming ofInt->ZS,toNat_and->WY,ofInt_natCast->XN,toNat_ofNat->Xz,toInt_eq_toNat_of_lt->WZ,getLsbD_ofNat->W0
open Bool renaming and_eq_true->Zc,or_eq_true->ZT,and_false->Yb,true_and->Yy,not_eq_true->Y1,or_true->WW,false_or->WX,eq_iff_iff->Wk,not_eq_true'->YB,noConfusion->XA
open Int renaming mul_nonneg->Wd,mul_le_mul_of_nonneg_right->Xv,toNat_of_nonneg->Zt,add_mul->WP,ediv_nonneg->Wb,eq_ofNat_of_zero_le->Z5,mul_comm->We,le_refl->Yj,toNat_natCast->Zy,toNat->XL,mul_ediv_add_emod->W6
open IntKind renaming i64->Zp,wrap->YO,i64->Za
open IntWalk renaming i64_in->Xt
open List renaming length_map->YH,mem_append->Zf,length_append->Ze,append_assoc->Zm,length_cons->Zn,length_nil->Zr,mem_cons->Zl,mem_singleton->Z4,nodup_append->Zx,nodup_nil->ZJ,find?_eq_none->WQ,mem_range->Ye,mergeSort_perm->WR,getD_eq_getElem?_getD->Zo,take_append_drop->ZP,mem_map->ZM,getElem_mem->Xw,getElem?_eq_getElem->Zv,mem_iff_getElem->Wg,map_append->YP,take->Ya,drop->Yp,getElem?_eq_none->ZY,length_take->Zk,count_eq_zero->WT,take_length->Yu,drop_eq_getElem_cons->Xy,take_of_length_le->Yi,nodup_iff_count->WU,count_pos_iff->WV,mem_of_getElem?->Zw,not_mem_nil->YA,getLast?_append->Wh,getLast?_singleton->Wi,foldl_cons->ZK,foldl_append->YQ,foldl_nil->YR,replicate->ZU,length_set->ZE,getElem_of_mem->XJ,all_eq_false->W2,mem_of_mem_drop->YS,mem_cons_of_mem->XP,all_eq_true->Z9,eq_nil_of_length_eq_zero->Yw,length->Xe,drop_zero->Y2,drop_succ_cons->XQ,mem_cons_self->W5,mem_of_mem_take->XR,getElem?_append_left->Z8,getElem?_append_right->ZQ,length_drop->Zu,getElem?_take_of_lt->Y3,getElem?_set_self->Xf,set_set->Wm
open List.Nodup renaming length_le_of_subset->WS
open List.Pairwise renaming nil->VF,imp₂->VG
open Nat renaming zero_le->Zg,lt_trichotomy->XK,le_refl->Zd,le_trans->ZX,not_lt_zero->XM,sub_self->YT
open Option renaming getD_some->ZZ
open Option.some renaming inj->Yz,injEq->Yd
open Value renaming int->Zi
namespace Go.V
def Fo (sp:aa)(i:Int):Nat->List Int
 |0=>[]
 |n+1=>Fo sp i n++(if hsB (ab sp i 2) n then[aaI (ab sp i 0) (ab sp i 1) (ab sp i 2) n]else[])
def Ek (sp:aa):Nat->List Int
 |0=>[]
 |n+1=>Ek sp n++Fo sp n (slN (ab sp n 1)).toNat
def G9 (lg:aa):Nat->List Int
 |0=>[]
 |n+1=>G9 lg n++[ab lg n 0*16]
def iaA (sp lg:aa):List Int:=Ek sp sp.length++G9 lg lg.length
def iaL (sp lg:aa):aa:=if layOk sp lg then srtL (jo (iaA sp lg))else[]
theorem H4 {a b:Int}(h: -9223372036854775808<=a*b/\a*b<=9223372036854775807):bO .mul Za a b=a*b:=Xt _ h
theorem GH {l:aa}:(srtL l).length=l.length:=by unfold srtL;rw[cn,List.length_mergeSort];unfold qS;rw[YH]
def bdA (l:List Int):Prop:=∀ x∈l,-1<=x/\x<=1000
theorem IZ {a b:List Int}(h:bdA a)(g:bdA b):bdA (a++b):=fun x hx=>by
 rcases Zf.1 hx with q|q;exact h x q;exact g x q
theorem Q7 {x:Int}(h: -1<=x/\x<=1000):bdA [x]:=fun y hy=>by simp at hy;rw[hy];exact h
theorem agK {p k b s:Int}: -1<=aaI p k b s/\aaI p k b s<=1000:=by
 unfold aaI;by_cases h:aaB p k b s=true
 ·rw[VW h];unfold aaB at h;simp only[Zc]at h;have t:=ku h.1;have c:=mi t.2.2.1;have s1:=bH.1 h.2;have m0:0<=s*clsSz k:=Wd (by omega) (by omega);have m1:s*clsSz k<=slN k*clsSz k:=Xv (by omega) (by omega);omega
 ·rw[VX h];omega
theorem Ej {sp:aa}{i k:Int}(h:0<=k):Fo sp i (k+1).toNat=Fo sp i k.toNat++(if hsB (ab sp i 2) k then[aaI (ab sp i 0) (ab sp i 1) (ab sp i 2) k]else[]):=by
 rw[show(k+1).toNat=k.toNat+1 from by omega,Fo,Zt h]
theorem Mo {sp:aa}{i:Int}(h:0<=i):Ek sp (i+1).toNat=Ek sp i.toNat++Fo sp i (slN (ab sp i 1)).toNat:=by
 rw[show(i+1).toNat=i.toNat+1 from by omega,Ek,Zt h]
theorem HP {lg:aa}{i:Int}(h:0<=i):G9 lg (i+1).toNat=G9 lg i.toNat++[ab lg i 0*16]:=by
 rw[show(i+1).toNat=i.toNat+1 from by omega,G9,Zt h]
structure IaP (sp:aa)(i:Int)(o:aa):Prop where
 e:o=jo (Ek sp i.toNat)
 b:bdA (Ek sp i.toNat)
 l:(Ek sp i.toNat).length<=16*i.toNat
structure ON (sp:aa)(i k:Int)(o:aa):Prop where
 e:o=jo (Ek sp i.toNat++Fo sp i k.toNat)
 b:bdA (Ek sp i.toNat++Fo sp i k.toNat)
 l:(Ek sp i.toNat).length<=16*i.toNat
 k:(Fo sp i k.toNat).length<=k.toNat
structure QV (sp lg:aa)(j:Int)(o:aa):Prop where
 e:o=jo (Ek sp sp.length++G9 lg j.toNat)
 b:bdA (Ek sp sp.length++G9 lg j.toNat)
 l:(Ek sp sp.length++G9 lg j.toNat).length<=16*sp.length+j.toNat
theorem ahk {sp:aa}:IaP sp 0 []:=⟨rfl,(fun x hx=>by cases hx),Zg _⟩
theorem ahm {sp o:aa}{i:Int}(h:IaP sp i o):ON sp i 0 o:=
 ⟨by rw[h.e];simp[Fo],by simpa[Fo]using h.b,h.l,Zg _⟩
theorem aa6 {sp o:aa}{i k:Int}(h:ON sp i k o):o.length<=16*i.toNat+k.toNat:=by
 have l:=h.l;have m:=h.k;rw[h.e,cn,Ze];omega
theorem aa7 {sp o:aa}{i k:Int}(h:ON sp i k o)(k0:0<=k)(hh:hsB (ab sp i 2) k=true):ON sp i (k+1) (o++[[.i (aaI (ab sp i 0) (ab sp i 1) (ab sp i 2) k)]]):=by
 have m:=h.k;have e:=h.e;refine⟨?_,?_,h.l,?_⟩
 ·rw[Ej k0,VW hh, <-Zm,io, <-e];rfl
 ·rw[Ej k0,VW hh, <-Zm];exact IZ h.b (Q7 agK)
 ·rw[Ej k0,VW hh,Ze,Zn,Zr];omega
theorem adE {sp o:aa}{i k:Int}(h:ON sp i k o)(k0:0<=k)(hh:hsB (ab sp i 2) k=false):ON sp i (k+1) o:=by
 have m:=h.k;have e:=h.e;have u:Fo sp i (k+1).toNat=Fo sp i k.toNat:=by rw[Ej k0,hh];simp
 refine⟨?_,?_,h.l,?_⟩
 ·rw[u];exact e
 ·rw[u];exact h.b
 ·rw[u];omega
theorem aid {sp lg:aa}{i:Int}(hl:layOk sp lg=true)(h0:0<=i)(h1:i<sp.length):0<=slN (ab sp i 1)/\slN (ab sp i 1)<=16:=by
 have t:=ku ((MH hl).1 i h0 h1);have c:=mi t.2.2.1;omega
theorem aa5 {sp o:aa}{i k:Int}(h:ON sp i k o)(i0:0<=i)(k1:k<=slN (ab sp i 1))(k2:slN (ab sp i 1)<=k)(hs:0<=slN (ab sp i 1)/\slN (ab sp i 1)<=16):IaP sp (i+1) o:=by
 have ek:k=slN (ab sp i 1):=by omega
 have e:=h.e;have b:=h.b;have l:=h.l;have m:=h.k;rw[ek, <-Mo i0]at e b;rw[ek]at m;refine⟨e,b,?_⟩;rw[Mo i0,Ze];omega
theorem ahn {sp lg o:aa}{i:Int}(h:IaP sp i o)(h1:i<=sp.length)(h2:(sp.length:Int)<=i):QV sp lg 0 o:=by
 have ei:i.toNat=sp.length:=by omega
 have e:=h.e;have b:=h.b;have l:=h.l;rw[ei]at e b l;exact⟨by rw[e];simp[G9],by simpa[G9]using b,by simpa[G9]using l⟩
theorem Mr {sp lg o:aa}{j:Int}(h:QV sp lg j o):o.length<=16*sp.length+j.toNat:=by
 have l:=h.l;rw[h.e,cn];exact l
theorem aht {sp lg:aa}{j:Int}(hl:layOk sp lg=true)(h0:0<=j)(h1:j<lg.length):0<=ab lg j 0/\ab lg j 0<=32:=by
 have t:=kn ((MH hl).2.1 j h0 h1);have b:=lL t.1;omega
theorem adG {sp lg o:aa}{j:Int}(h:QV sp lg j o)(j0:0<=j)(hb:0<=ab lg j 0/\ab lg j 0<=32):QV sp lg (j+1) (o++[[.i (ab lg j 0*16)]]):=by
 have e:=h.e;have l:=h.l;refine⟨?_,?_,?_⟩
 ·rw[HP j0, <-Zm,io, <-e];rfl
 ·rw[HP j0, <-Zm];exact IZ h.b (Q7 (by omega))
 ·rw[HP j0, <-Zm,Ze,Zn,Zr];omega
theorem adF {sp lg o:aa}{j:Int}(h:QV sp lg j o)(h1:sp.length<=1073741824)(h2:j<=1073741824):Rw [tI] o/\o.length<=70368744177664:=by
 have l:=Mr h;refine⟨?_,by omega⟩;have e:=h.e;have l2:=h.l;rw[e];exact vT (fun x hx=>by have:=h.b x hx;omega) (by omega)
theorem aa8 {sp lg o:aa}{j:Int}(h:QV sp lg j o)(j1:j<=lg.length)(j2:(lg.length:Int)<=j)(hl:layOk sp lg=true):srtL o=iaL sp lg:=by
 have ej:j.toNat=lg.length:=by omega
 have e:=h.e;rw[ej]at e;unfold iaL iaA;rw[VW hl, <-e]
theorem ahl {sp lg:aa}(hl:layOk sp lg=false):([]:aa)=iaL sp lg:=by unfold iaL;rw[hl];rfl
end Go.V
namespace Go.V
theorem yZ:∀ {a b:List Int},a.Pairwise (· < ·)->b.Pairwise (· < ·)->(∀ x,x∈a↔x∈b)->a=b
 |[],[],_,_,_=>rfl
 |[],y::b,_,_,h=>by have:=(h y).2 (by simp);simp at this
 |x::a,[],_,_,h=>by have:=(h x).1 (by simp);simp at this
 | x::a,y::b,ha,hb,h=>by
   rw[List.pairwise_cons]at ha hb;have e:x=y:=by
    rcases Zl.1 ((h x).1 (by simp))with q|q;exact q
    ·rcases Zl.1 ((h y).2 (by simp))with r|r;exact r.symm
     ·have:=hb.1 x q;have:=ha.1 y r;omega
   subst e;rw[yZ ha.2 hb.2 (fun z=>?_)]
   constructor
   ·intro m;rcases Zl.1 ((h z).1 (by simp[m]))with q|q
    ·have:=ha.1 z m;omega
    ·exact q
   ·intro m;rcases Zl.1 ((h z).2 (by simp[m]))with q|q
    ·have:=hb.1 z m;omega
    ·exact q
theorem pB {sp:aa}{x:Int}:∀ {n:Nat},x∈oG sp n↔∃ i:Nat,i<n/\ab sp i 0=x
 |0=>by simp[oG]
 | n+1=>by
   rw[oG,Zf,pB,Z4]
   constructor
   ·rintro(⟨i,h,e⟩|rfl);exact⟨i,by omega,e⟩;exact⟨n,by omega,rfl⟩
   ·rintro⟨i,h,e⟩;by_cases c:i=n
    ·subst c;exact .inr e.symm
    ·exact .inl ⟨i,by omega,e⟩
theorem EB {p x:Int}:∀ {n:Nat},x∈rJ p n↔p<=x/\x<p+n
 |0=>⟨(fun h=>by cases h),(fun h=>absurd h (by omega))⟩
 | n+1=>by
   rw[rJ,Zf,EB,Z4];omega
theorem rG {lg:aa}{x:Int}:∀ {n:Nat},x∈oF lg n↔∃ j:Nat,j<n/\ab lg j 0<=x/\x<ab lg j 0+(ab lg j 1).toNat
 |0=>by simp[oF]
 | n+1=>by
   rw[oF,Zf,rG,EB]
   constructor
   ·rintro(⟨i,h,e⟩|h);exact⟨i,by omega,e⟩;exact⟨n,by omega,h⟩
   ·rintro⟨i,h,e⟩;by_cases c:i=n
    ·subst c;exact .inr e
    ·exact .inl ⟨i,by omega,e⟩
theorem Ob {sp:aa}:∀ {n:Nat},(oG sp n).Nodup->∀ i i':Nat,i<i'->i'<n->ab sp i 0≠ab sp i' 0
 |0,_,i,i',_,h=>by omega
 | n+1,hn,i,i',h1,h2=>by
   rw[oG,Zx]at hn;by_cases c:i'=n
   ·subst c;exact hn.2.2 _ (pB.2 ⟨i,h1,rfl⟩) _ (by simp)
   ·exact Ob hn.1 i i' h1 (by omega)
theorem MN {lg:aa}:∀ {n:Nat},(oF lg n).Nodup->∀ (j j':Nat) (x:Int),j<j'->j'<n->ab lg j 0<=x->x<ab lg j 0+(ab lg j 1).toNat->ab lg j' 0<=x->x<ab lg j' 0+(ab lg j' 1).toNat->False
 |0,_,j,j',x,_,h,_,_,_,_=>by omega
 | n+1,hn,j,j',x,h1,h2,a,b,c,d=>by
   rw[oF,Zx]at hn;by_cases e:j'=n
   ·subst e;exact hn.2.2 x (rG.2 ⟨j,h1,a,b⟩) x (EB.2 ⟨c,d⟩) rfl
   ·exact MN hn.1 j j' x h1 (by omega) a b c d
structure QX (sp lg:aa):Prop where
 s:∀ i:Nat,i<sp.length->spOk (ab sp i 0) (ab sp i 1) (ab sp i 2)=true
 l:∀ j:Nat,j<lg.length->lgOk (ab lg j 0) (ab lg j 1) (ab lg j 2)=true
 ss:∀ i i':Nat,i<sp.length->i'<sp.length->ab sp i 0=ab sp i' 0->i=i'
 sl:∀ i j:Nat,i<sp.length->j<lg.length->ab lg j 0<=ab sp i 0->ab sp i 0<ab lg j 0+ab lg j 1->False
 ll:∀ (j j':Nat) (x:Int),j<lg.length->j'<lg.length->ab lg j 0<=x->x<ab lg j 0+ab lg j 1->ab lg j' 0<=x->x<ab lg j' 0+ab lg j' 1->j=j'
theorem MW {sp lg:aa}(h:layOk sp lg=true):QX sp lg:=by
 obtain⟨h1,h2,h3⟩:=MH h;unfold yJ at h3;rw[Zx]at h3;have n0:∀ j:Nat,j<lg.length->((ab lg j 1).toNat:Int)=ab lg j 1:=fun j hj=>by
  have t:=kn (h2 j (by omega) (by omega));have b:=lL t.1;omega
 refine⟨fun i hi=>h1 i (by omega) (by omega),fun j hj=>h2 j (by omega) (by omega),fun i i' a b e=>?_,fun i j a b c d=>?_,fun j j' x a b c d e f=>?_⟩
 ·rcases XK i i' with q|q|q;exact absurd e (Ob h3.1 i i' q b);exact q;exact absurd e.symm (Ob h3.1 i' i q a)
 ·exact h3.2.2 _ (pB.2 ⟨i,a,rfl⟩) _ (rG.2 ⟨j,b,c,by rw[n0 j b];exact d⟩) rfl
 ·rcases XK j j' with q|q|q;exact(MN h3.2.1 j j' x q b c (by rw[n0 j a];exact d) e (by rw[n0 j' b];exact f)).elim;exact q;exact(MN h3.2.1 j' j x q a e (by rw[n0 j' b];exact f) c (by rw[n0 j a];exact d)).elim
theorem qt {p k b s:Int}(h:spOk p k b=true)(h0:0<=s)(h1:s<slN k):aaI p k b s=p*16+s*clsSz k/\0<=s*clsSz k/\s*clsSz k+clsSz k<=16/\1<=clsSz k:=by
 have t:=ku h;have c:=mi t.2.2.1;have a:aaB p k b s=true:=by unfold aaB;rw[h,bH.2 ⟨h0,by omega⟩];rfl
 have m0:0<=s*clsSz k:=Wd h0 (by omega);have m1:(s+1)*clsSz k<=slN k*clsSz k:=Xv (by omega) (by omega);rw[WP]at m1;unfold aaI;rw[VW a];exact⟨rfl,m0,by omega,by omega⟩
theorem yH {sp:aa}{i x:Int}:∀ {n:Nat},x∈Fo sp i n↔∃ k:Nat,k<n/\hsB (ab sp i 2) k=true/\x=aaI (ab sp i 0) (ab sp i 1) (ab sp i 2) k
 |0=>by simp[Fo]
 | n+1=>by
   rw[Fo,Zf,yH]
   constructor
   ·rintro(⟨k,h,e⟩|h);exact⟨k,by omega,e⟩
    ·by_cases c:hsB (ab sp i 2) n=true
     ·rw[VW c,Z4]at h;exact⟨n,by omega,c,h⟩
     ·rw[VX c]at h;simp at h
   ·rintro⟨k,h,c,e⟩;by_cases q:k=n
    ·subst q;rw[VW c];exact .inr (by simp[e])
    ·exact .inl ⟨k,by omega,c,e⟩
theorem yI {sp:aa}{x:Int}:∀ {n:Nat},x∈Ek sp n↔∃ i k:Nat,i<n/\k<(slN (ab sp i 1)).toNat/\hsB (ab sp i 2) k=true/\x=aaI (ab sp i 0) (ab sp i 1) (ab sp i 2) k
 |0=>by simp[Ek]
 | n+1=>by
   rw[Ek,Zf,yI,yH]
   constructor
   ·rintro(⟨i,k,h,e⟩|⟨k,h⟩);exact⟨i,k,by omega,e⟩;exact⟨n,k,by omega,h⟩
   ·rintro⟨i,k,h,e⟩;by_cases q:i=n
    ·subst q;exact .inr ⟨k,e⟩
    ·exact .inl ⟨i,k,by omega,e⟩
theorem yG {lg:aa}{x:Int}:∀ {n:Nat},x∈G9 lg n↔∃ j:Nat,j<n/\x=ab lg j 0*16
 |0=>by simp[G9]
 | n+1=>by
   rw[G9,Zf,yG,Z4]
   constructor
   ·rintro(⟨i,h,e⟩|h);exact⟨i,by omega,e⟩;exact⟨n,by omega,h⟩
   ·rintro⟨i,h,e⟩;by_cases q:i=n
    ·subst q;exact .inr e
    ·exact .inl ⟨i,by omega,e⟩
theorem HQ {sp:aa}{i:Nat}(h:spOk (ab sp i 0) (ab sp i 1) (ab sp i 2)=true):∀ {n:Nat},n<=(slN (ab sp i 1)).toNat->(Fo sp i n).Nodup
 |0,_=>ZJ
 | n+1,hn=>by
   rw[Fo];by_cases c:hsB (ab sp i 2) n=true
   ·rw[VW c];refine nD (HQ h (by omega)) (fun m=>?_);obtain⟨k,k1,_,k3⟩:=yH.1 m;have a:=qt (s:=(n:Int)) h (by omega) (by omega);have b:=qt (s:=(k:Int)) h (by omega) (by omega);have q:((k:Int)+1)*clsSz (ab sp i 1)<=(n:Int)*clsSz (ab sp i 1):=Xv (by omega) (by omega);rw[WP]at q;omega
   ·rw[VX c,List.append_nil];exact HQ h (by omega)
theorem Mn {sp lg:aa}(F:QX sp lg):∀ {n:Nat},n<=sp.length->(Ek sp n).Nodup
 |0,_=>ZJ
 | n+1,hn=>by
   rw[Ek,Zx];refine⟨Mn F (by omega),HQ (F.s n (by omega)) (Zd _),fun x hx y hy e=>?_⟩;subst e;obtain⟨i,k,i1,k1,_,e1⟩:=yI.1 hx;obtain⟨k',k2,_,e2⟩:=yH.1 hy;have a:=qt (s:=(k:Int)) (F.s i (by omega)) (by omega) (by omega);have b:=qt (s:=(k':Int)) (F.s n (by omega)) (by omega) (by omega);have:=F.ss i n (by omega) (by omega) (by omega);omega
theorem Mm {sp lg:aa}(F:QX sp lg):∀ {n:Nat},n<=lg.length->(G9 lg n).Nodup
 |0,_=>ZJ
 | n+1,hn=>by
   rw[G9];refine nD (Mm F (by omega)) (fun m=>?_);obtain⟨j,j1,e⟩:=yG.1 m;have t:=kn (F.l j (by omega));have b:=lL t.1;have t':=kn (F.l n (by omega));have b':=lL t'.1;have:=F.ll j n (ab lg j 0) (by omega) (by omega) (by omega) (by omega) (by omega) (by omega);omega
theorem aa4 {sp lg:aa}(F:QX sp lg):(iaA sp lg).Nodup:=by
 unfold iaA;rw[Zx];refine⟨Mn F (Zd _),Mm F (Zd _),fun x hx y hy e=>?_⟩;subst e;obtain⟨i,k,i1,k1,_,e1⟩:=yI.1 hx;obtain⟨j,j1,e2⟩:=yG.1 hy;have a:=qt (s:=(k:Int)) (F.s i (by omega)) (by omega) (by omega);have t:=kn (F.l j (by omega));have b:=lL t.1;exact F.sl i j i1 j1 (by omega) (by omega)
end Go.V
namespace Go.V
theorem fM {p:Int->Bool}{n:Nat}(h:0<=dy p n):dy p n<n/\p (dy p n)=true:=by
 refine⟨by rcases t6 (p:=p) (n:=n)with q|q<;>omega,?_⟩;unfold dy at h ⊢;split at h
 ·rename_i j e;have q:=List.find?_some e;exact q
 ·omega
theorem qQ {p:Int->Bool}{n i:Nat}(h:i<n)(hp:p i=true):0<=dy p n:=by
 unfold dy;split;omega
 ·rename_i e;rw[WQ]at e;exact absurd hp (e i (Ye.2 h))
theorem Be {sp:aa}{a i:Int}:BI sp a i=true↔Fq (ab sp i 0) (ab sp i 1) (ab sp i 2) a=true:=by
 unfold BI;rw[VV]
 constructor
 ·intro h;cases c:Fq (ab sp i 0) (ab sp i 1) (ab sp i 2) a with
  |true=>rfl
  |false=>rw[(Dg c).1]at h;omega
 ·intro h;obtain⟨h1,h2,h3⟩:=sX.1 h;have cb:=mi (ku h1).2.2.1;rw[(vU h).1];exact Wb (by omega) (by omega)
def lvP (sp lg:aa)(x:Int):Prop:=(∃ i k:Nat,i<sp.length/\k<(slN (ab sp i 1)).toNat/\hsB (ab sp i 2) k=true/\x=aaI (ab sp i 0) (ab sp i 1) (ab sp i 2) k)\/∃ j:Nat,j<lg.length/\x=ab lg j 0*16
theorem JD {sp lg:aa}{x:Int}:x∈iaA sp lg↔lvP sp lg x:=by
 unfold iaA lvP;rw[Zf,yI,yG]
theorem aaw {sp lg:aa}{a:Int}(h:0<=hD sp a):dnK sp lg a=(if hsB (ab sp (hD sp a) 2) (yP sp a (hD sp a))then 1 else 2)/\dnO sp lg a=Qv sp a (hD sp a):=by
 unfold dnK dnO;rw[VW h,VW h];exact⟨rfl,rfl⟩
theorem aav {sp lg:aa}{a:Int}(h:¬ 0<=hD sp a)(g:0<=ni lg a):dnK sp lg a=3/\dnO sp lg a=loA lg a (ni lg a):=by
 unfold dnK dnO;rw[VX h,VX h,VW g,VW g];exact⟨rfl,rfl⟩
theorem agX {sp lg:aa}{a:Int}(h:¬ 0<=hD sp a)(g:¬ 0<=ni lg a):dnK sp lg a=0/\dnO sp lg a=0:=by
 unfold dnK dnO;rw[VX h,VX h,VX g,VX g];exact⟨rfl,rfl⟩
theorem JA {sp lg:aa}{a:Int}(hl:layOk sp lg=true):yi sp lg a=true↔dnO sp lg a=0/\(dnK sp lg a=1\/dnK sp lg a=3):=by
 unfold yi dzO dzK;rw[VW hl,VW hl];simp only[Zc,ZT,VV]
theorem Sn {sp lg:aa}{x:Int}(F:QX sp lg)(hl:layOk sp lg=true)(h:yi sp lg x=true):lvP sp lg x:=by
 obtain⟨h1,h2⟩:=(JA hl).1 h;by_cases c:0<=hD sp x
 ·obtain⟨d1,d2⟩:=aaw (lg:=lg) c;obtain⟨b,q⟩:=fM c;change hD sp x<sp.length at b;change BI sp x (hD sp x)=true at q;rw[d1]at h2;rw[d2]at h1;generalize hF:hD sp x=f at*;obtain⟨f,rfl⟩:=Z5 c;have bf:f<sp.length:=by omega
  have q':=Be.1 q;obtain⟨a1,a2,a3⟩:=sX.1 q';obtain⟨e1,e2⟩:=vU q';have cb:=mi (ku a1).2.2.1;have hh:hsB (ab sp f 2) (yP sp x f)=true:=by
   cases c:hsB (ab sp f 2) (yP sp x f)with
   |true=>rfl
   |false=>rw[c]at h2;simp at h2
  unfold Qv at h1;rw[e2]at h1;unfold yP at hh;rw[e1]at hh;have dv:clsSz (ab sp f 1)*((x-ab sp f 0*16)/clsSz (ab sp f 1))=x-ab sp f 0*16:=Int.mul_ediv_cancel_of_emod_eq_zero h1;have nn:0<=(x-ab sp f 0*16)/clsSz (ab sp f 1):=Wb (by omega) (by omega);generalize hs:(x-ab sp f 0*16)/clsSz (ab sp f 1)=s at*;have lt:s<slN (ab sp f 1):=by
   by_cases w:s<slN (ab sp f 1);exact w
   ·have m:slN (ab sp f 1)*clsSz (ab sp f 1)<=s*clsSz (ab sp f 1):=Xv (by omega) (by omega);rw[We s]at m;omega
  obtain⟨s,rfl⟩:=Z5 nn;have ae:=qt a1 nn lt;refine .inl ⟨f,s,bf,by omega,hh,?_⟩;have ae1:=ae.1;rw[We (s:Int)]at ae1;show x=aaI (ab sp f 0) (ab sp f 1) (ab sp f 2) s;rw[ae1];omega
 ·by_cases g:0<=ni lg x
  ·obtain⟨d1,d2⟩:=aav c g;obtain⟨b,q⟩:=fM g;change ni lg x<lg.length at b;change BG lg x (ni lg x)=true at q;rw[d2]at h1;generalize hF:ni lg x=f at*;obtain⟨f,rfl⟩:=Z5 g;refine .inr ⟨f,by omega,?_⟩;unfold loA loI at h1;unfold BG at q;rw[VW q]at h1;show x=ab lg f 0*16;omega
  ·obtain⟨d1,d2⟩:=agX c g;rw[d1]at h2;omega
theorem RN {sp lg:aa}{x:Int}(h:0<=hD sp x):∃ f:Nat,hD sp x=f/\f<sp.length/\Fq (ab sp f 0) (ab sp f 1) (ab sp f 2) x=true:=by
 obtain⟨b,q⟩:=fM h;obtain⟨f,e⟩:=Z5 h;refine⟨f,e,?_,?_⟩
 ·have:hD sp x<sp.length:=b;rw[e]at this;exact Int.ofNat_lt.1 this
 ·have:BI sp x (hD sp x)=true:=q;rw[e]at this;exact Be.1 this
theorem aee {sp lg:aa}{x:Int}(F:QX sp lg)(hl:layOk sp lg=true)(h:lvP sp lg x):yi sp lg x=true:=by
 rw[JA hl];rcases h with⟨i,k,i1,k1,hh,e⟩|⟨j,j1,e⟩
 ·have a1:=F.s i i1;have cb:=mi (ku a1).2.2.1;have ae:=qt (s:=(k:Int)) a1 (by omega) (by omega);have sb:Fq (ab sp i 0) (ab sp i 1) (ab sp i 2) x=true:=sX.2 ⟨a1,by omega,by omega⟩;have c:0<=hD sp x:=qQ i1 (Be.2 sb);obtain⟨f,e1,f1,f2⟩:=RN (lg:=lg) c;obtain⟨_,g2,g3⟩:=sX.1 f2;have:f=i:=F.ss f i f1 i1 (by omega);subst this;obtain⟨d1,d2⟩:=aaw (lg:=lg) c;rw[d1,d2,e1];obtain⟨y1,y2⟩:=vU sb;have xe:x-ab sp f 0*16=k*clsSz (ab sp f 1):=by omega
  unfold yP Qv;rw[y1,y2,xe,Int.mul_ediv_cancel _ (by omega),VW hh];exact⟨Int.mul_emod_left _ _,.inl rfl⟩
 ·have t:=kn (F.l j j1);have b:=lL t.1;have r:=bH.1 t.1;have c:¬ 0<=hD sp x:=fun c=>by
   obtain⟨f,e1,f1,f2⟩:=RN (lg:=lg) c;obtain⟨_,g2,g3⟩:=sX.1 f2;exact F.sl f j f1 j1 (by omega) (by omega)
  have lb:lhB (ab lg j 0) (ab lg j 1) (ab lg j 2) x=true:=abn.2 ⟨F.l j j1,by omega,by omega⟩;have g:0<=ni lg x:=qQ j1 (show BG lg x j=true from lb);obtain⟨d1,d2⟩:=aav c g;obtain⟨b1,q⟩:=fM g;change ni lg x<lg.length at b1;change BG lg x (ni lg x)=true at q;rw[d1,d2];generalize hF:ni lg x=f at*;obtain⟨f,rfl⟩:=Z5 g;have f1:f<lg.length:=by omega
  have q':lhB (ab lg f 0) (ab lg f 1) (ab lg f 2) x=true:=q;obtain⟨_,u1,u2⟩:=abn.1 q';have t2:=kn (F.l f f1);have b2:=lL t2.1;have:f=j:=F.ll f j (ab lg j 0) f1 j1 (by omega) (by omega) (by omega) (by omega);subst this;refine⟨?_,.inr rfl⟩;show loI (ab lg f 0) (ab lg f 1) (ab lg f 2) x=0;unfold loI;rw[VW lb];omega
def Sk (sp lg:aa):Nat->List Int
 |0=>[]
 |n+1=>Sk sp lg n++(if yi sp lg n then[(n:Int)]else[])
theorem AQ {sp lg:aa}:∀ n:Nat,OE sp lg n=jo (Sk sp lg n)
 |0=>rfl
 | n+1=>by
   rw[OE,Sk,io,AQ n];by_cases c:yi sp lg n=true
   ·rw[VW c,VW c];rfl
   ·rw[VX c,VX c];rfl
theorem uo {sp lg:aa}{x:Int}:∀ {n:Nat},x∈Sk sp lg n↔0<=x/\x<n/\yi sp lg x=true
 |0=>⟨(fun h=>by cases h),(fun h=>absurd h.2.1 (by omega))⟩
 | n+1=>by
   rw[Sk,Zf,uo]
   constructor
   ·rintro(h|h);exact⟨h.1,by omega,h.2.2⟩
    ·by_cases c:yi sp lg n=true
     ·rw[VW c,Z4]at h;subst h;exact⟨by omega,by omega,c⟩
     ·rw[VX c]at h;cases h
   ·rintro⟨h1,h2,h3⟩;by_cases q:x=n
    ·subst q;rw[VW h3];exact .inr (by simp)
    ·exact .inl ⟨h1,by omega,h3⟩
theorem Ij {sp lg:aa}:∀ n:Nat,(Sk sp lg n).Pairwise (· < ·)
 |0=>VF
 | n+1=>by
   rw[Sk,List.pairwise_append];refine⟨Ij n,?_,fun a ha b hb=>?_⟩
   ·by_cases c:yi sp lg n=true
    ·rw[VW c];simp
    ·rw[VX c];simp
   ·have m:=uo.1 ha;by_cases c:yi sp lg n=true
    ·rw[VW c,Z4]at hb;omega
    ·rw[VX c]at hb;cases hb
theorem Qb {l:List Int}(h:l.Nodup):(l.mergeSort fun x y=>decide (x<=y)).Pairwise (· < ·):=by
 have p:=List.pairwise_mergeSort (le:=fun x y:Int=>decide (x<=y)) (fun a b c h1 h2=>by simp only[VV]at*;omega) (fun a b=>by simp only[ZT,VV];omega) l;have n:(l.mergeSort fun x y=>decide (x<=y)).Nodup:=(WR l _).nodup_iff.2 h;refine VG (R:=fun a b=>decide (a<=b)=true) (S:=(· ≠ ·)) (T:=(· < ·)) (fun a b h1 h2=>?_) p n;simp only[VV]at h1;omega
theorem PX {sp lg:aa}:iaL sp lg=laL sp lg:=by
 unfold iaL laL;by_cases hl:layOk sp lg=true
 ·rw[VW hl,VW hl];have F:=MW hl;unfold srtL;rw[HS,AQ];refine congrArg jo (yZ (Qb (aa4 F)) (Ij 512) (fun x=>?_));rw[(WR _ _).mem_iff,JD,uo]
  constructor
  ·intro h;have v:=aee F hl h;refine⟨?_,?_,v⟩
   ·rcases h with⟨i,k,i1,k1,_,e⟩|⟨j,j1,e⟩
    ·have ae:=qt (s:=(k:Int)) (F.s i i1) (by omega) (by omega);have t:=ku (F.s i i1);omega
    ·have t:=kn (F.l j j1);omega
   ·rcases h with⟨i,k,i1,k1,_,e⟩|⟨j,j1,e⟩
    ·have ae:=qt (s:=(k:Int)) (F.s i i1) (by omega) (by omega);have t:=ku (F.s i i1);omega
    ·have t:=kn (F.l j j1);have b:=lL t.1;omega
  ·rintro⟨_,_,h⟩;exact Sn F hl h
 ·rw[VX hl,VX hl]
end Go.V
namespace Go.V
def yg (qs:aa)(a j:Int):Bool:=eqB (ab qs j 0) a
def qtI (qs:aa)(a:Int):Int:=dy (yg qs a) qs.length
def qtB (qs:aa)(a:Int):Bool:=decide (0<=qtI qs a)
theorem abT {qs:aa}{a i:Int}(h:upto (cZ (yg qs a)) i)(h0:0<=i)(h1:i<qs.length)(e:ab qs i 0=a):qtB qs a=true:=by
 unfold qtB qtI;rw[dM h h0 h1 (tW e)];exact VT h0
theorem afh {qs:aa}{a i:Int}(h:upto (cZ (yg qs a)) i)(h1:(qs.length:Int)<=i):qtB qs a=false:=by
 unfold qtB qtI;rw[eY h h1];rfl
end Go.V
namespace Go.V
structure TV (ls:aa):Prop where
 w:Rw [.sl [tI]] ls
 l:ls.length<=1099511627776
 n:∀ i:Int,(aw ls i 0).length<=1099511627776
theorem TV.el {ls:aa}(h:TV ls){i:Int}(h0:0<=i)(h1:i<ls.length):Rw [tI] (aw ls i 0)/\(aw ls i 0).length<=1099511627776:=
 ⟨Rw.sub (fs:=[.sl [tI]]) h.w (by omega) rfl,h.n i⟩
end Go.V
namespace Go.V
def KN (b:aa)(i k:Int):Bool:=inR (ab (aw b i 0) k 0) 0 ((b.length:Int)-1)&&decide (0<=ab (aw b i 0) k 1)
def Lk (x:aa)(i k:Int):Bool:=decide (0<=ab (aw x i 0) k 0)
def rOk (b x:aa)(i:Int):Bool:=cI (KN b i) (aw b i 0).length&&cI (Lk x i) (aw x i 0).length
def P2 (b x:aa):Nat->Int
 |0=>0
 |n+1=>P2 b x n+((aw b n 0).length+(aw x n 0).length)
def mailOk (b x:aa):Bool:=inR b.length 1 4&&(decide (x.length=b.length)&&(cI (rOk b x) b.length&&decide (P2 b x b.length<=30)))
structure K5 (b x:aa):Prop where
 bw:Rw [.sl [tI,tI]] b
 xw:Rw [.sl [tI]] x
 bl:b.length<=1099511627776
 xl:x.length<=1099511627776
 bn:∀ i:Int,(aw b i 0).length<=1099511627776
 xn:∀ i:Int,(aw x i 0).length<=1099511627776
theorem SA {b x:aa}(h:K5 b x):∀ n:Nat,0<=P2 b x n/\P2 b x n<=2199023255552*n
 |0=>⟨Yj _,Yj _⟩
 | n+1=>by
   have q:=SA h n;have p1:=h.bn n;have p2:=h.xn n;rw[P2];omega
structure OU (b x:aa)(i t:Int):Prop where
 ok:upto (rOk b x) i
 t:t=P2 b x i.toNat
theorem ahA {b x:aa}:OU b x 0 0:=⟨bK,rfl⟩
theorem aen {b x:aa}{i t:Int}(N:K5 b x)(h:OU b x i t)(i0:0<=i)(i1:i<=4):0<=t/\t<=8796093022208:=by
 have q:=SA N i.toNat;have e:=h.t;omega
theorem aeo {b x:aa}{i t k j:Int}(h:OU b x i t)(i0:0<=i)(hp:upto (KN b i) k)(k1:((aw b i 0).length:Int)<=k)(ha:upto (Lk x i) j)(j1:((aw x i 0).length:Int)<=j):OU b x (i+1) (t+((aw b i 0).length+(aw x i 0).length)):=by
 refine⟨aZ h.ok ?_,?_⟩
 ·unfold rOk;rw[bN hp k1,bN ha j1];rfl
 ·rw[show(i+1).toNat=i.toNat+1 from by omega,P2, <-h.t,Zt i0]
theorem abA {b x:aa}(h:inR b.length 1 4=false):mailOk b x=false:=by unfold mailOk;rw[h];rfl
theorem abB {b x:aa}(h:(x.length:Int)≠b.length):mailOk b x=false:=by
 unfold mailOk;rw[VU (p:=x.length=b.length) (by omega)];simp
theorem Sw {b x:aa}{i:Int}(i0:0<=i)(i1:i<b.length)(h:rOk b x i=false):mailOk b x=false:=by
 unfold mailOk;rw[bX i0 i1 h];simp
theorem M6 {b x:aa}{i k:Int}(i0:0<=i)(i1:i<b.length)(k0:0<=k)(k1:k<(aw b i 0).length)(h:KN b i k=false):mailOk b x=false:=
 Sw i0 i1 (by unfold rOk;rw[bX k0 k1 h];rfl)
theorem abC {b x:aa}{i k:Int}(i0:0<=i)(i1:i<b.length)(k0:0<=k)(k1:k<(aw x i 0).length)(h:Lk x i k=false):mailOk b x=false:=
 Sw i0 i1 (by unfold rOk;rw[bX k0 k1 h,Yb])
theorem abz {b x:aa}{i t:Int}(h:OU b x i t)(h1:inR b.length 1 4=true)(h2:(x.length:Int)=b.length)(i1:i<=b.length)(i2:(b.length:Int)<=i):mailOk b x=decide (t<=30):=by
 have e:i.toNat=b.length:=by omega
 have q:=h.t;rw[e]at q;unfold mailOk;rw[h1,VT (p:=x.length=b.length) (by omega),bN h.ok i2, <-q];rfl
theorem aeK {b:aa}{i k:Int}(h:inR (ab (aw b i 0) k 0) 0 ((b.length:Int)-1)=false):KN b i k=false:=by unfold KN;rw[h];rfl
theorem aeL {b:aa}{i k:Int}(h:ab (aw b i 0) k 1<0):KN b i k=false:=by unfold KN;rw[VU (by omega),Yb]
theorem aeM {b:aa}{i k:Int}(h:inR (ab (aw b i 0) k 0) 0 ((b.length:Int)-1)=true)(g:0<=ab (aw b i 0) k 1):KN b i k=true:=by unfold KN;rw[h,VT g];rfl
theorem agJ {x:aa}{i k:Int}(h:ab (aw x i 0) k 0<0):Lk x i k=false:=by unfold Lk;rw[VU (by omega)]
theorem acq {x:aa}{i k:Int}(h:0<=ab (aw x i 0) k 0):Lk x i k=true:=by unfold Lk;rw[VT h]
end Go.V
namespace Go.V
def RG (b:aa)(i:Int):Nat->aa
 |0=>[]
 |n+1=>RG b i n++[[.i (ab (aw b i 0) n 1)]]
def LY (b:aa):Nat->aa
 |0=>[]
 |n+1=>LY b n++RG b n (aw b n 0).length
def OD (x:aa):Nat->aa
 |0=>[]
 |n+1=>OD x n++aw x n 0
def ifL (b x:aa):aa:=if mailOk b x then LY b b.length++OD x x.length else[]
theorem abD {b x:aa}(h:mailOk b x=true):b.length<=4/\x.length=b.length:=by
 unfold mailOk at h;simp only[Zc,VV,bH]at h;omega
structure QO (b:aa)(i:Int)(o:aa):Prop where
 e:o=LY b i.toNat
 l:o.length<=1099511627776*i.toNat
structure QP (b:aa)(i k:Int)(o:aa):Prop where
 e:o=LY b i.toNat++RG b i k.toNat
 l:o.length<=1099511627776*i.toNat+k.toNat
structure QR (b x:aa)(j:Int)(o:aa):Prop where
 e:o=LY b b.length++OD x j.toNat
 l:o.length<=1099511627776*b.length+1099511627776*j.toNat
theorem ag1 {b:aa}:QO b 0 []:=⟨rfl,Zg _⟩
theorem ag6 {b o:aa}{i:Int}(h:QO b i o):QP b i 0 o:=⟨by rw[h.e];simp[RG],by have:=h.l;omega⟩
theorem acV {b o:aa}{i k:Int}(h:QP b i k o)(k0:0<=k):QP b i (k+1) (o++[[.i (ab (aw b i 0) k 1)]]):=by
 have l:=h.l;have e:=h.e;refine⟨?_,?_⟩
 ·rw[show(k+1).toNat=k.toNat+1 from by omega,RG,Zt k0, <-Zm, <-e]
 ·rw[Ze,Zn,Zr];omega
theorem aaK {b o:aa}{i k:Int}(h:QP b i k o)(i0:0<=i)(hn:(aw b i 0).length<=1099511627776)(k1:k<=((aw b i 0).length:Int))(k2:((aw b i 0).length:Int)<=k):QO b (i+1) o:=by
 have l:=h.l;have e:=h.e;have ek:k.toNat=(aw b i 0).length:=by omega
 refine⟨?_,by omega⟩;rw[show(i+1).toNat=i.toNat+1 from by omega,LY,Zt i0, <-ek];exact e
theorem ag7 {b x o:aa}{i:Int}(h:QO b i o)(i1:i<=b.length)(i2:(b.length:Int)<=i):QR b x 0 o:=by
 have l:=h.l;have e:=h.e;have ei:i.toNat=b.length:=by omega
 rw[ei]at e l;exact⟨by rw[e];simp[OD],by omega⟩
theorem ac4 {b x o:aa}{j:Int}(h:QR b x j o)(j0:0<=j)(hn:(aw x j 0).length<=1099511627776):QR b x (j+1) (o++aw x j 0):=by
 have l:=h.l;have e:=h.e;refine⟨?_,?_⟩
 ·rw[show(j+1).toNat=j.toNat+1 from by omega,OD,Zt j0, <-Zm, <-e]
 ·rw[Ze];omega
theorem aaP {b x o:aa}{j:Int}(h:QR b x j o)(hm:mailOk b x=true)(j1:j<=x.length)(j2:(x.length:Int)<=j):o=ifL b x:=by
 have e:=h.e;rw[show j.toNat=x.length from by omega]at e;unfold ifL;rw[VW hm];exact e
theorem aho {b x:aa}(hm:mailOk b x=false):([]:aa)=ifL b x:=by unfold ifL;rw[hm];rfl
end Go.V
namespace Go.V
structure NsC (cs:aa):Prop where
 w:Rw [.sl [.sl [tI]]] cs
 l:cs.length<=1099511627776
 n:∀ i:Int,0<=i->i<cs.length->TV (aw cs i 0)
end Go.V
namespace Go.V
theorem CE:∀ {fs:List Ty} {e:ay} {j:Nat},cp fs e->fs[j]?=some tI->∃ n,e[j]?=some (.i n)/\ -9223372036854775808<=n/\n<=9223372036854775807
 |[],_,j,_,h=>by simp at h
 |_::_,[],j,h,_=>h.elim
 | t::ts,l::ls,0,h,e=>by
   simp at e;subst e;have h1:=h.1;cases l with
   | v x=>cases x with
     |int k n=>simp only[dF]at h1;exact⟨n,by simp[h1.1],vD h1.2⟩
     |_=>simp[dF]at h1
   |_=>simp[dF]at h1
 | t::ts,l::ls,j+1,h,e=>by
   simp at e;obtain⟨n,h1,h2⟩:=CE h.2 e;exact⟨n,by simpa using h1,h2⟩
theorem AD {fs:List Ty}{es:aa}{i:Int}{j:Nat}(h:Rw fs es)(hj:fs[j]?=some tI)(h1:i.toNat<es.length): -9223372036854775808<=ab es i j/\ab es i j<=9223372036854775807:=by
 obtain⟨n,e,b⟩:=CE (h.at h1) hj;unfold ab;rw[Zo (l:=es.getD i.toNat []),e];exact b
theorem afu {x:Int}(h: -9223372036854775808<=x/\x<=9223372036854775807):Rw [tI] [[.i x]]:=Rw.one (fs:=[tI]) ⟨⟨rfl,h⟩,trivial⟩
def obR (os:aa)(f:Nat):Nat->aa
 |0=>[]
 |n+1=>obR os f n++[[.i (ab os n f)]]
def clR (ls:aa):Nat->aa
 |0=>[]
 |n+1=>clR ls n++aw ls n 0
def ccR (cs:aa):Nat->aa
 |0=>[]
 |n+1=>ccR cs n++clR (aw cs n 0) (aw cs n 0).length
theorem AF {es:aa}{n j:Nat}(h:n<es.length):ak (aw es n j)<=cU (es.getD n []):=by
 unfold aw;rw[Zy];generalize es.getD n []=r;cases e:r[j]? with
 |none=>rw[Zo,e];exact Zg _
 | some l=>
   rw[Zo,e];have q:=I5 e;cases l with
   |s sz es=>exact q
   |_=>exact Zg _
theorem pd {es:aa}{n:Nat}(h:n<es.length):bL (es.take (n+1))=bL (es.take n)+cU (es.getD n []):=by
 rw[fI (d:=[]) h,fK];simp[bL]
theorem FN {es:aa}{n:Nat}:bL (es.take n)<=bL es:=by
 conv=>rhs;rw[<-ZP n es,fK]
 omega
theorem t7 {b:aa}{i:Int}:∀ n,(RG b i n).length=n
 |0=>rfl
 |n+1=>by rw[RG,Ze,t7 n];rfl
theorem Nb {b x:aa}:∀ n:Nat,(((LY b n).length+(OD x n).length:Nat):Int)=P2 b x n
 |0=>rfl
 | n+1=>by
   have q:=Nb (b:=b) (x:=x) n;rw[P2,LY,OD,Ze,Ze,t7, <-q];omega
theorem HR {b x:aa}:(ifL b x).length<=30:=by
 unfold ifL;by_cases c:mailOk b x=true
 ·rw[VW c,Ze];have t:=abD c;unfold mailOk at c;simp only[Zc,VV]at c;have q:=Nb (b:=b) (x:=x) b.length;rw[t.2];omega
 ·rw[VX c];exact Zg _
theorem L4 {b x:aa}{i:Int}(h:K5 b x)(i0:0<=i)(i1:i<b.length):∀ n,n<=(aw b i 0).length->Rw [tI] (RG b i n)
 |0,_=>Rw.nil
 | n+1,hn=>Rw.append (L4 h i0 i1 n (by omega)) (afu (AD (fs:=[tI,tI]) (Rw.sub (fs:=[.sl [tI,tI]]) h.bw (by omega) rfl) rfl (by omega))) (by
    have:=h.bn i;rw[t7];unfold maxLen;simp only[Zn,Zr];omega)
theorem LZ {b x:aa}(h:K5 b x)(hb:b.length<=4):∀ n,n<=b.length->Rw [tI] (LY b n)/\(LY b n).length<=n*1099511627776
 |0,_=>⟨Rw.nil,Zg _⟩
 | n+1,hn=>by
   obtain⟨q1,q2⟩:=LZ h hb n (by omega);have l:=h.bn n;refine⟨Rw.append q1 (L4 h (by omega) (by omega) _ (Zd _)) (by rw[t7];unfold maxLen;omega),?_⟩;rw[LY,Ze,t7];omega
theorem L9 {b x:aa}(h:K5 b x)(hb:x.length<=4):∀ n,n<=x.length->Rw [tI] (OD x n)/\(OD x n).length<=n*1099511627776
 |0,_=>⟨Rw.nil,Zg _⟩
 | n+1,hn=>by
   obtain⟨q1,q2⟩:=L9 h hb n (by omega);have l:=h.xn n;refine⟨Rw.append q1 (Rw.sub (fs:=[.sl [tI]]) h.xw (by omega) rfl) (by unfold maxLen;omega),?_⟩;rw[OD,Ze];omega
theorem Mt {b x:aa}(h:K5 b x):Rw [tI] (ifL b x):=by
 unfold ifL;by_cases c:mailOk b x=true
 ·rw[VW c];have t:=abD c;obtain⟨q1,l1⟩:=LZ h t.1 b.length (Zd _);obtain⟨q2,l2⟩:=L9 h (by omega) x.length (Zd _);exact Rw.append q1 q2 (by unfold maxLen;omega)
 ·rw[VX c];exact Rw.nil
structure OV (sp lg os cs b x qs:aa):Prop where
 sw:Rw [tI,tI,tI] sp
 lw:Rw [tI,tI,tI] lg
 ow:Rw [tI,tI,tI,tI] os
 cw:Rw [.sl [.sl [tI]]] cs
 qw:Rw [tI,tI,tI] qs
 m:K5 b x
 c:NsC cs
 sl:sp.length<=1073741824
 ll:lg.length<=1073741824
 ol:os.length<=1073741824
 ql:qs.length<=1073741824
 cl:ak cs<=1073741824
structure O1P (os:aa)(i:Int)(o:aa):Prop where
 e:o=obR os 1 i.toNat
structure O2P (os cs:aa)(i:Int)(o:aa):Prop where
 e:o=obR os 1 os.length++ccR cs i.toNat
structure O3P (os cs:aa)(i k:Int)(o:aa):Prop where
 e:o=obR os 1 os.length++ccR cs i.toNat++clR (aw cs i 0) k.toNat
structure O4P (os cs qs:aa)(j:Int)(o:aa):Prop where
 e:o=obR os 1 os.length++ccR cs cs.length++obR qs 0 j.toNat
section
variable {sp lg os cs b x qs o: aa} {i k j: Int}
end
def PG (e:ay):Int:=PW (e.getD 0 .g)
theorem CV {l:aa}{a:Int}:hasB l a=true↔a∈l.map PG:=by
 rw[Jh,ZM]
 constructor
 ·rintro⟨k,hk,e⟩;refine⟨l[k],Xw _,?_⟩;rw[<-e];unfold ab PG;rw[Zy,Zo (l:=l),Zv hk];rfl
 ·rintro⟨e,he,q⟩;obtain⟨k,hk,rfl⟩:=Wg.1 he;refine⟨k,hk,?_⟩;rw[<-q];unfold ab PG;rw[Zy,Zo (l:=l),Zv hk];rfl
theorem PE {l m:aa}{a:Int}:hasB (l++m) a=(hasB l a||hasB m a):=by
 refine gW ?_;rw[ZT,CV,CV,CV,YP,Zf]
theorem PF {x a:Int}:hasB [[.i x]] a=true↔x=a:=by
 rw[CV];show a∈[x]↔x=a;rw[Z4];exact⟨Eq.symm,Eq.symm⟩
theorem CN {p:Int->Bool}{n:Nat}:0<=dy p n↔∃ k:Nat,k<n/\p k=true:=by
 constructor
 ·intro h;obtain⟨h1,h2⟩:=fM h;obtain⟨k,e⟩:=Z5 h;rw[e]at h1 h2;exact⟨k,by omega,h2⟩
 ·rintro⟨k,h1,h2⟩;exact qQ h1 h2
def flN (p:Int->Bool)(l:aa):Nat->aa
 |0=>[]
 |n+1=>flN p l n++(if p (ab l n 0)then[[.i (ab l n 0)]]else[])
structure aij (p:Int->Bool)(l:aa)(i:Int)(o:aa):Prop where
 e:o=flN p l i.toNat
 l:o.length<=i.toNat
section
variable {p: Int -> Bool} {l o: aa} {i: Int}
end
theorem MF {sp lg:aa}:(laL sp lg).length<=512:=by
 have k:∀ n,(OE sp lg n).length<=n:=by
  intro n
  induction n with
  |zero=>exact Zd _
  |succ n ih=>rw[OE,Ze];split<;>simp<;>omega
 unfold laL;split;exact k 512;exact Zg _
theorem adZ {sp lg:aa}:Rw [tI] (laL sp lg):=by
 unfold laL;by_cases c:layOk sp lg=true
 ·rw[VW c,AQ];refine vT (fun x hx=>?_) ?_
  ·have:=uo.1 hx;omega
  ·have q:=MF (sp:=sp) (lg:=lg);unfold laL at q;rw[VW c,AQ,cn]at q;omega
 ·rw[VX c];exact Rw.nil
theorem Da {l:aa}{i:Int}(h:Rw [tI] l)(h0:0<=i)(h1:i<l.length):∃ rec o,bV (L.s 1 l) [(i.toNat,0)]=some (rec,o)/\o+[L.v (Zi Zp 0)].length<=rec.length/\Ya [L.v (Zi Zp 0)].length (Yp o rec)=mN ah (L.s 1 l) [(i.toNat,0)] 0 [L.v (Zi Zp 0)]:=
 fV (z0:=[.i 0]) (z:=[.i 0]) h.wf (by omega) rfl (by decide)
theorem jT {es:aa}{i:Int}{j:Nat}:ak (aw es i j)<=ak es:=by
 by_cases c:i.toNat<es.length
 ·have q:=AF (j:=j) c;rw[show aw es (i.toNat:Nat) j=aw es i j from by unfold aw;rw[Zy]]at q;have d:=pd c;have e:=FN (es:=es) (n:=i.toNat+1);unfold ak at q ⊢;omega
 ·have e:aw es i j=[]:=by
   unfold aw;rw[Zo (l:=es),ZY (by omega)];simp[K7]
  rw[e];exact Zg _
theorem abI {ls:aa}(h:Rw [.sl [tI]] ls)(hc:ak ls<=1073741824):TV ls:=by
 refine⟨h,by unfold ak at hc;omega,fun i=>?_⟩;have:=jT (es:=ls) (i:=i) (j:=0);unfold ak at this hc;omega
theorem abH {cs:aa}(h:Rw [.sl [.sl [tI]]] cs)(hc:ak cs<=1073741824):NsC cs:=by
 refine⟨h,by unfold ak at hc;omega,fun i i0 i1=>abI (Rw.sub (fs:=[.sl [.sl [tI]]]) h (by omega) rfl) ?_⟩;exact ZX jT hc
theorem H8 {b x:aa}(hb:Rw [.sl [tI,tI]] b)(hx:Rw [.sl [tI]] x)(cb:ak b<=1073741824)(cx:ak x<=1073741824):K5 b x:=by
 refine⟨hb,hx,by unfold ak at cb;omega,by unfold ak at cx;omega,fun i=>?_,fun i=>?_⟩
 ·have:=jT (es:=b) (i:=i) (j:=0);unfold ak at this cb;omega
 ·have:=jT (es:=x) (i:=i) (j:=0);unfold ak at this cx;omega
end Go.V
namespace Go.V
theorem Cr {i:Int}(h:0<=i)(h1:i<=9223372036854775807):bO .sub Za i 1=i-1:=dG (by omega)
theorem Bh {es:aa}{i:Int}:sc es (XL 0) (Kt i 0)=es.take i.toNat:=by simp[sc,Kt]
theorem cmp_eq {a b:Int}:dA .eql a b=decide (a=b):=by unfold dA;by_cases c:a=b<;>simp[c]
theorem D6 {a b:Int}:dA .neq a b=decide (a≠b):=by unfold dA;by_cases c:a=b<;>simp[c]
def rngIn (n a l:Int):Bool:=inR l 1 n&&inR a 0 (n-l)
def vO (n:Int)(rs:aa)(i:Int):Bool:=rngIn n (ab rs i 0) (ab rs i 1)&& !(decide (0<i)&&decide (ab rs i 0<=bO .add Za (ab rs (i-1) 0) (ab rs (i-1) 1)))
def rgOk (n:Int)(rs:aa):Bool:=cI (vO n rs) rs.length&&inR n 1 32
section
variable {n i: Int} {rs: aa}
theorem abV (i0:0<=i)(i1:i<rs.length)(h:rngIn n (ab rs i 0) (ab rs i 1)=false):rgOk n rs=false:=by
 unfold rgOk;rw[bX i0 i1 (by unfold vO;rw[h];rfl)];rfl
theorem abW (i0:0<=i)(i1:i<rs.length)(h:0<i)(g:ab rs i 0<=bO .add Za (ab rs (i-1) 0) (ab rs (i-1) 1)):rgOk n rs=false:=by
 unfold rgOk;rw[bX i0 i1 (by unfold vO;rw[VT h,VT g];simp)];rfl
theorem Qh (h:rngIn n (ab rs i 0) (ab rs i 1)=true)(g:i<=0):vO n rs i=true:=by
 unfold vO;rw[h,VU (by omega)];rfl
theorem Qi (h:rngIn n (ab rs i 0) (ab rs i 1)=true)(g:bO .add Za (ab rs (i-1) 0) (ab rs (i-1) 1)<ab rs i 0):vO n rs i=true:=by
 unfold vO;rw[h,VU (p:=ab rs i 0<=_) (by omega)];simp
theorem abU (h:upto (vO n rs) i)(g:(rs.length:Int)<=i):inR n 1 32=rgOk n rs:=by unfold rgOk;rw[bN h g];rfl
end
def uf (rs:aa)(p j:Int):Bool:=decide (ab rs j 0<=p)&&decide (p<bO .add Za (ab rs j 0) (ab rs j 1))
def rhI (rs:aa)(p:Int):Int:=dy (uf rs p) rs.length
def rhB (rs:aa)(p:Int):Bool:=decide (0<=rhI rs p)
def rh1 (a l p:Int):Bool:=decide (a<=p)&&decide (p<bO .add Za a l)
theorem abX {rs:aa}{p i:Int}(h:upto (cZ (uf rs p)) i)(h0:0<=i)(h1:i<rs.length)(a:ab rs i 0<=p)(b:p<bO .add Za (ab rs i 0) (ab rs i 1)):rhB rs p=true:=by
 unfold rhB rhI;rw[dM h h0 h1 (by unfold uf;rw[VT a,VT b];rfl)];exact VT h0
theorem afn {rs:aa}{p i:Int}(h:upto (cZ (uf rs p)) i)(h1:(rs.length:Int)<=i):rhB rs p=false:=by
 unfold rhB rhI;rw[eY h h1];rfl
theorem afl {rs:aa}{p i:Int}(a:p<ab rs i 0):cZ (uf rs p) i=true:=by unfold cZ uf;rw[VU (by omega)];rfl
theorem afm {rs:aa}{p i:Int}(b:bO .add Za (ab rs i 0) (ab rs i 1)<=p):cZ (uf rs p) i=true:=by unfold cZ uf;rw[VU (p:=p<_) (by omega)];simp
def mshB (p1 k1 b1 p2 k2 b2:Int):Bool:=spOk p1 k1 b1&&(spOk p2 k2 b2&&(decide (k1=k2)&&(decide (p1≠p2)&&decide (bO .and Za b1 b2=0))))
def OG (qs:aa):Nat->Int
 |0=>0
 |n+1=>OG qs n+clsSz (ab qs n 1)
def qcI (qs:aa):Int:=OG qs qs.length
theorem I3 {k:Int}:0<=clsSz k/\clsSz k<=8:=by
 unfold clsSz;repeat' split
 all_goals omega
theorem SY {qs:aa}:∀ n:Nat,0<=OG qs n/\OG qs n<=8*n
 |0=>⟨Yj _,Yj _⟩
 |n+1=>by have q:=SY (qs:=qs) n;have c:=I3 (k:=ab qs n 1);rw[OG];omega
structure OW (qs:aa)(i t:Int):Prop where
 e:t=OG qs i.toNat
theorem ahG {qs:aa}:OW qs 0 0:=⟨rfl⟩
theorem ahH {qs:aa}{i t:Int}(h:OW qs i t)(i0:0<=i):0<=t/\t<=8*i:=by have q:=SY (qs:=qs) i.toNat;rw[<-h.e]at q;omega
theorem ae8 {qs:aa}{i t:Int}(h:OW qs i t)(i0:0<=i)(i1:i<=1099511627776):OW qs (i+1) (bO .add Za t (clsSz (ab qs i 1))):=by
 have b:=ahH h i0;have c:=I3 (k:=ab qs i 1);refine⟨?_⟩;rw[show bO .add Za t (clsSz (ab qs i 1))=t+clsSz (ab qs i 1)from bz (by omega),show(i+1).toNat=i.toNat+1 from by omega,OG, <-h.e,Zt i0]
theorem abR {qs:aa}{i t:Int}(h:OW qs i t)(i1:i<=qs.length)(i2:(qs.length:Int)<=i):t=qcI qs:=by unfold qcI;rw[h.e,show i.toNat=qs.length from by omega]
def stlOk (b:aa)(a c s:Int):Bool:=inR c 0 3&&(decide (0<=a)&&(decide (0<=s)&&(!qtB b a&&(decide (b.length=0)||decide (ab b (b.length-1:Int) 2<=s)))))
def EQ (qs:aa)(i:Int):Bool:=stlOk (qs.take i.toNat) (ab qs i 0) (ab qs i 1) (ab qs i 2)
def quarOk (rm:Int)(qs:aa):Bool:=cI (EQ qs) qs.length&&(inR rm 0 500&&decide (qcI qs<=rm))
def staB (a c s:Int):Bool:=inR c 0 3&&(decide (0<=a)&&decide (0<=s))
theorem yD {es:aa}{n:Nat}{i:Int}{j:Nat}(h:i.toNat<n):ab (es.take n) i j=ab es i j:=by
 unfold ab;rw[Zo (l:=es.take n),List.getElem?_take,VW h,Zo (l:=es)]
section
variable {rm i: Int} {qs: aa}
theorem JZ (i0:0<=i)(i1:i<qs.length)(h:EQ qs i=false):quarOk rm qs=false:=by unfold quarOk;rw[bX i0 i1 h];rfl
theorem NI (h:upto (EQ qs) i)(g:(qs.length:Int)<=i):quarOk rm qs=(inR rm 0 500&&decide (qcI qs<=rm)):=by unfold quarOk;rw[bN h g];rfl
theorem aeY (h:staB (ab qs i 0) (ab qs i 1) (ab qs i 2)=false):EQ qs i=false:=by
 unfold EQ stlOk;unfold staB at h
 revert h
 cases inR (ab qs i 1) 0 3<;>cases decide (0<=ab qs i 0)<;>cases decide (0<=ab qs i 2)<;>simp
theorem JV (i0:0<i)(i1:i<qs.length):(decide ((qs.take i.toNat).length=0)||decide (ab (qs.take i.toNat) ((qs.take i.toNat).length-1:Int) 2<=ab qs i 2))=decide (ab qs (i-1) 2<=ab qs i 2):=by
 have e:(qs.take i.toNat).length=i.toNat:=by rw[Zk];omega
 rw[e,yD (by omega),VU (p:=i.toNat=0) (by omega),show((i.toNat:Nat):Int)-1=i-1 from by omega];rfl
theorem aeZ (i0:0<i)(i1:i<qs.length)(h:ab qs i 2<ab qs (i-1) 2):EQ qs i=false:=by
 unfold EQ stlOk;rw[JV i0 i1,VU (p:=ab qs (i-1) 2<=ab qs i 2) (by omega)];simp
theorem ae0 (h:qtB (qs.take i.toNat) (ab qs i 0)=true):EQ qs i=false:=by unfold EQ stlOk;rw[h];simp
theorem ae2 (h:staB (ab qs i 0) (ab qs i 1) (ab qs i 2)=true)(g:qtB (qs.take i.toNat) (ab qs i 0)=false)(i0:0<=i)(z:i<=0):EQ qs i=true:=by
 unfold EQ stlOk;unfold staB at h;simp only[Zc]at h;have e:i=0:=by omega
 subst e;rw[h.1,h.2.1,h.2.2,g];rfl
theorem ae3 (h:staB (ab qs i 0) (ab qs i 1) (ab qs i 2)=true)(g:qtB (qs.take i.toNat) (ab qs i 0)=false)(i0:0<i)(i1:i<qs.length)(z:ab qs (i-1) 2<=ab qs i 2):EQ qs i=true:=by
 unfold EQ stlOk;unfold staB at h;simp only[Zc]at h;rw[JV i0 i1,h.1,h.2.1,h.2.2,g,VT z];rfl
end
def yw (ls:aa)(i:Int):Nat->List Int
 |0=>[]
 |n+1=>yw ls i n++[ab (aw ls i 0) n 0]
def yy (ls:aa):Nat->List Int
 |0=>[]
 |n+1=>yy ls n++yw ls n (aw ls n 0).length
def Rb (ls:aa)(i k:Int):Bool:=inR (ab (aw ls i 0) k 0) 0 511&&decide (bO .rem Za (ab (aw ls i 0) k 0) (clsSz i)=0)
def Ra (ls:aa)(i:Int):Bool:=decide ((aw ls i 0).length<=8)&&cI (Rb ls i) (aw ls i 0).length
def caOk (ls:aa):Bool:=decide (ls.length=4)&&(cI (Ra ls) 4&&decide ((yy ls 4).Nodup))
theorem yx {ls:aa}{i:Int}:∀ n,(yw ls i n).length=n
 |0=>rfl
 |n+1=>by rw[yw,Ze,yx n];rfl
theorem I0 {ls:aa}{i:Int}:∀ (m n:Nat),n<=m->∃ r,yw ls i m=yw ls i n++r
 |0,n,h=>⟨[],by rw[show n=0 from by omega];rfl⟩
 | m+1,n,h=>by
   by_cases c:n=m+1
   ·subst c;exact⟨[],by simp⟩
   ·obtain⟨r,e⟩:=I0 (ls:=ls) (i:=i) m n (by omega);exact⟨r++[ab (aw ls i 0) m 0],by rw[yw,e,Zm]⟩
theorem I1 {ls:aa}:∀ (m n:Nat),n<=m->∃ r,yy ls m=yy ls n++r
 |0,n,h=>⟨[],by rw[show n=0 from by omega];rfl⟩
 | m+1,n,h=>by
   by_cases c:n=m+1
   ·subst c;exact⟨[],by simp⟩
   ·obtain⟨r,e⟩:=I1 (ls:=ls) m n (by omega);exact⟨r++yw ls m (aw ls m 0).length,by rw[yy,e,Zm]⟩
theorem An {ls:aa}{i k:Int}(h:0<=k):yw ls i (k+1).toNat=yw ls i k.toNat++[ab (aw ls i 0) k 0]:=by
 rw[show(k+1).toNat=k.toNat+1 from by omega,yw,Zt h]
theorem Ao {ls:aa}{i:Int}(h:0<=i):yy ls (i+1).toNat=yy ls i.toNat++yw ls i (aw ls i 0).length:=by
 rw[show(i+1).toNat=i.toNat+1 from by omega,yy,Zt h]
structure TM (ls:aa)(i:Int):Prop where
 ok:upto (Ra ls) i
 nd:(yy ls i.toNat).Nodup
 l:i<=4
 b:∀ x∈yy ls i.toNat,0<=x/\x<=511
 n:(yy ls i.toNat).length<=8*i.toNat
structure CbP (ls:aa)(i k:Int):Prop where
 ok:upto (Ra ls) i
 nd:(yy ls i.toNat++yw ls i k.toNat).Nodup
 l:i<=3
 s:(aw ls i 0).length<=8
 bk:upto (Rb ls i) k
 b:∀ x∈yy ls i.toNat++yw ls i k.toNat,0<=x/\x<=511
 n:(yy ls i.toNat).length<=8*i.toNat
section
variable {ls: aa} {i k: Int}
theorem acw:TM ls 0:=⟨bK,ZJ,by omega,(fun x hx=>by cases hx),Zg _⟩
theorem acz (h:TM ls i)(i0:0<=i)(c:inR i 0 3=true)(s:(aw ls i 0).length<=8):CbP ls i 0:=
 ⟨h.ok,by simpa[yw]using h.nd,(bH.1 c).2,s,bK,by simpa[yw]using h.b,h.n⟩
theorem Ri (h:CbP ls i k)(k0:0<=k)(h1:inR (ab (aw ls i 0) k 0) 0 511=true)(h2:bO .rem Za (ab (aw ls i 0) k 0) (clsSz i)=0)(h3:ab (aw ls i 0) k 0∉yy ls i.toNat++yw ls i k.toNat):CbP ls i (k+1):=by
 refine⟨h.ok,?_,h.l,h.s,aZ h.bk (by unfold Rb;rw[h1,VT h2];rfl),?_,h.n⟩
 ·rw[An k0, <-Zm];exact nD h.nd h3
 ·rw[An k0, <-Zm];intro x hx;rcases Zf.1 hx with q|q;exact h.b x q
  ·simp at q;subst q;exact bH.1 h1
theorem Re (h:CbP ls i k)(i0:0<=i)(k1:k<=((aw ls i 0).length:Int))(k2:((aw ls i 0).length:Int)<=k):TM ls (i+1):=by
 have e:k.toNat=(aw ls i 0).length:=by omega
 have nd:=h.nd;have b:=h.b;have n:=h.n;have s:=h.s;have l:=h.l;rw[e, <-Ao i0]at nd b;refine⟨aZ h.ok (by unfold Ra;rw[VT h.s,bN h.bk k2];rfl),nd,by omega,b,?_⟩;rw[Ao i0,Ze,yx];omega
theorem D3 (h:(ls.length:Int)≠4):caOk ls=false:=by unfold caOk;rw[VU (by omega)];rfl
theorem Rc (i0:0<=i)(l:i<=3)(h:Ra ls i=false):caOk ls=false:=by unfold caOk;rw[bX (n:=4) i0 (by omega) h];simp
theorem LD (i0:0<=i)(h:8<(aw ls i 0).length)(l:i<=3):caOk ls=false:=Rc i0 l (by unfold Ra;rw[VU (by omega)];rfl)
theorem D4 (i0:0<=i)(l:i<=3)(k0:0<=k)(k1:k<(aw ls i 0).length)(h:Rb ls i k=false):caOk ls=false:=Rc i0 l (by unfold Ra;rw[bX k0 k1 h,Yb])
theorem Rf (h:inR (ab (aw ls i 0) k 0) 0 511=false):Rb ls i k=false:=by unfold Rb;rw[h];rfl
theorem Rh (h:bO .rem Za (ab (aw ls i 0) k 0) (clsSz i)≠0):Rb ls i k=false:=by unfold Rb;rw[VU h,Yb]
theorem LC (i0:0<=i)(l:i<=3)(k0:0<=k)(k1:k<(aw ls i 0).length)(h:ab (aw ls i 0) k 0∈yy ls i.toNat++yw ls i k.toNat):caOk ls=false:=by
 obtain⟨r,e⟩:=I1 (ls:=ls) 4 (i+1).toNat (by omega);obtain⟨r2,e2⟩:=I0 (ls:=ls) (i:=i) (aw ls i 0).length (k+1).toNat (by omega);rw[Ao i0,e2,An k0]at e;have:¬ (yy ls 4).Nodup:=dup (a:=yy ls i.toNat++yw ls i k.toNat) (b:=r2++r) (x:=ab (aw ls i 0) k 0) (by rw[e];simp only[Zm];rfl) h;unfold caOk;rw[VU this];simp
theorem LE (h:TM ls i)(h1:(ls.length:Int)=4)(i2:4<=i):caOk ls=true:=by
 have l:=h.l;have e:i=4:=by omega
 subst e;unfold caOk;rw[VT (by omega),bN h.ok (by omega),VT (p:=(yy ls 4).Nodup) h.nd];rfl
theorem aai (h:TM ls i)(i1:i<=ls.length)(i2:(ls.length:Int)<=i):decide ((ls.length:Int)=4)=caOk ls:=by
 by_cases c:(ls.length:Int)=4
 ·rw[LE h c (by omega)];exact VT c
 ·rw[D3 c];exact VU c
end
structure ScP (ls:aa)(i:Int)(o:aa):Prop where
 p:TM ls i
 e:o=jo (yy ls i.toNat)
structure Q3 (ls:aa)(i k:Int)(o:aa):Prop where
 p:CbP ls i k
 e:o=jo (yy ls i.toNat++yw ls i k.toNat)
structure Hc (ls:aa)(i:Int)(es:aa):Prop where
 p:TM ls i
 s:sf es (yy ls i.toNat)
structure Hd (ls:aa)(i k:Int)(es:aa):Prop where
 p:CbP ls i k
 s:sf es (yy ls i.toNat++yw ls i k.toNat)
section
variable {ls o es: aa} {i k: Int}
theorem ah7:ScP ls 0 []:=⟨acw,rfl⟩
theorem ah9 (h:ScP ls i o)(i0:0<=i)(i1:i<4)(s:(aw ls i 0).length<=8):Q3 ls i 0 o:=⟨acz h.p i0 (bH.2 (by omega)) s,by rw[h.e];simp[yw]⟩
theorem afI (h:Q3 ls i k o)(k0:0<=k)(h1:inR (ab (aw ls i 0) k 0) 0 511=true)(h2:bO .rem Za (ab (aw ls i 0) k 0) (clsSz i)=0)(h3:hasB o (ab (aw ls i 0) k 0)=false):Q3 ls i (k+1) (o++[[.i (ab (aw ls i 0) k 0)]]):=by
 have e:=h.e;rw[e]at h3;refine⟨Ri h.p k0 h1 h2 (yE h3),?_⟩;rw[An k0, <-Zm,io, <-e];rfl
theorem afG (h:Q3 ls i k o)(i0:0<=i)(k1:k<=((aw ls i 0).length:Int))(k2:((aw ls i 0).length:Int)<=k):ScP ls (i+1) o:=
 ⟨Re h.p i0 k1 k2,by rw[Ao i0,h.e,show k.toNat=(aw ls i 0).length from by omega]⟩
theorem ab5 (h:Q3 ls i k o)(i0:0<=i)(k0:0<=k)(k1:k<(aw ls i 0).length)(h3:hasB o (ab (aw ls i 0) k 0)=true):caOk ls=false:=by
 rw[h.e,rD]at h3;exact LC i0 h.p.l k0 k1 h3
theorem ab6 (h:Q3 ls i k o)(k0:0<=k):o.length<=40+k.toNat/\Rw [tI] o:=by
 have n:=h.p.n;have l:=h.p.l;have s:=h.p.s;have q:o.length<=40+k.toNat:=by rw[h.e,cn,Ze,yx];omega
 refine⟨q,?_⟩;rw[h.e];have nd:=h.p.nd;refine vT (fun x hx=>by have:=h.p.b x hx;omega) ?_;rw[<-cn, <-h.e];have bd:k.toNat<=512\/512<k.toNat:=by omega
 rcases bd with bd|bd;omega
 ·exfalso;have c:=WS (l₁:=yy ls i.toNat++yw ls i k.toNat) (l₂:=(List.range 512).map fun j:Nat=>(j:Int)) nd (fun x hx=>by
   have b:=h.p.b x hx;rw[ZM];exact⟨x.toNat,Ye.2 (by omega),by omega⟩)
  rw[Ze,yx,YH,List.length_range]at c;omega
theorem adH:Hc ls 0 []:=⟨acw,Is⟩
theorem adJ (h:Hc ls i es)(i0:0<=i)(c:inR i 0 3=true)(s:(aw ls i 0).length<=8):Hd ls i 0 es:=⟨acz h.p i0 c s,by simpa[yw]using h.s⟩
theorem aba (h:Hd ls i k es)(k0:0<=k)(h1:inR (ab (aw ls i 0) k 0) 0 511=true)(h2:bO .rem Za (ab (aw ls i 0) k 0) (clsSz i)=0)(h3:mgbI es (ab (aw ls i 0) k 0)=false):Hd ls i (k+1) (oY es (ab (aw ls i 0) k 0) (.v (.bool true))):=by
 refine⟨Ri h.p k0 h1 h2 (fun m=>by rw[(h.s.at_ _).2 m]at h3;cases h3),?_⟩;rw[An k0, <-Zm];exact yO h.s
theorem aa9 (h:Hd ls i k es)(i0:0<=i)(k1:k<=((aw ls i 0).length:Int))(k2:((aw ls i 0).length:Int)<=k):Hc ls (i+1) es:=
 ⟨Re h.p i0 k1 k2,by have s:=h.s;rw[show k.toNat=(aw ls i 0).length from by omega]at s;rw[Ao i0];exact s⟩
theorem PN (h:Hd ls i k es)(i0:0<=i)(k0:0<=k)(k1:k<(aw ls i 0).length)(h3:mgbI es (ab (aw ls i 0) k 0)=true):caOk ls=false:=LC i0 h.p.l k0 k1 ((h.s.at_ _).1 h3)
theorem PL (h:Hc ls i es)(i0:0<=i)(s:8<(aw ls i 0).length)(i1:i<ls.length):caOk ls=false:=by
 by_cases c:(ls.length:Int)=4;exact LD i0 s (by omega);exact D3 c
theorem PM (h:Hc ls i es)(i0:0<=i)(c:inR i 0 3=false)(i1:i<ls.length):caOk ls=false:=by
 have:=AJ.1 c;exact D3 (by omega)
end
def K9 (cs:aa)(i:Int):Bool:=inR (ab cs i 0) 0 15&& !(decide (0<i)&&decide (ab cs i 0<=ab cs (i-1) 0))
def plOk (k m:Int)(cs:aa):Bool:=cI (K9 cs) cs.length&&(inR k 0 31&&(inR m 0 31&&decide (k≠m)))
def jbOk (k m:Int)(cs:aa)(ph nx:Int):Bool:=plOk k m cs&&(inR ph 0 5&&inR nx 0 cs.length)
section
variable {k m i: Int} {cs: aa}
theorem NB (i0:0<=i)(i1:i<cs.length)(h:inR (ab cs i 0) 0 15=false):plOk k m cs=false:=by
 unfold plOk;rw[bX i0 i1 (by unfold K9;rw[h];rfl)];rfl
theorem NC (i0:0<=i)(i1:i<cs.length)(h:0<i)(g:ab cs i 0<=ab cs (i-1) 0):plOk k m cs=false:=by
 unfold plOk;rw[bX i0 i1 (by unfold K9;rw[VT h,VT g];simp)];rfl
theorem JQ (h:inR (ab cs i 0) 0 15=true)(g:i<=0):K9 cs i=true:=by unfold K9;rw[h,VU (by omega)];rfl
theorem JR (h:inR (ab cs i 0) 0 15=true)(g:ab cs (i-1) 0<ab cs i 0):K9 cs i=true:=by
 unfold K9;rw[h,VU (p:=ab cs i 0<=_) (by omega)];simp
theorem EK (h:upto (K9 cs) i)(g:(cs.length:Int)<=i):plOk k m cs=(inR k 0 31&&(inR m 0 31&&decide (k≠m))):=by unfold plOk;rw[bN h g];rfl
end
end Go.V
namespace Go.V
theorem Rt {sp lg:aa}{a:Int}(h:layOk sp lg=true):dzK sp lg a=dnK sp lg a:=by unfold dzK;rw[VW h]
theorem Ru {sp lg:aa}{a:Int}(h:layOk sp lg=true):dzI sp lg a=dnI sp lg a:=by unfold dzI;rw[VW h]
theorem Rv {sp lg:aa}{a:Int}(h:layOk sp lg=true):dzO sp lg a=dnO sp lg a:=by unfold dzO;rw[VW h]
theorem FU {sp lg:aa}{a:Int}(h:dnK sp lg a=1):0<=dnI sp lg a/\dnI sp lg a<sp.length:=by
 unfold dnK at h;by_cases c:0<=hD sp a
 ·unfold dnI;rw[VW c];rcases t6 (p:=BI sp a) (n:=sp.length)with q|q
  ·have:hD sp a= -1:=q;omega
  ·exact q
 ·rw[VX c]at h;by_cases d:0<=ni lg a
  ·rw[VW d]at h;omega
  ·rw[VX d]at h;omega
theorem LO {sp lg:aa}{a:Int}(h:dnK sp lg a=3):0<=dnI sp lg a/\dnI sp lg a<lg.length:=by
 unfold dnK at h;by_cases c:0<=hD sp a
 ·rw[VW c]at h;split at h<;>omega
 ·rw[VX c]at h;by_cases d:0<=ni lg a
  ·unfold dnI;rw[VX c,VW d];rcases t6 (p:=BG lg a) (n:=lg.length)with q|q
   ·have:ni lg a= -1:=q;omega
   ·exact q
  ·rw[VX d]at h;omega
def HT (os:aa)(x j:Int):Bool:=eqB (ab os j 0) x
def oiI (os:aa)(x:Int):Int:=dy (HT os x) os.length
def oiB (os:aa)(x:Int):Bool:=decide (0<=oiI os x)
def okO (sp lg:aa)(a s:Int):Bool:=decide (dnO sp lg a=0)&&((decide (dnK sp lg a=1)&&decide (ab sp (dnI sp lg a) 1=clsOf s))||(decide (dnK sp lg a=3)&&decide (ab lg (dnI sp lg a) 2=s)))
def BH (sp lg os cs:aa)(nx i:Int):Bool:=
 !(decide (0<i)&&decide (ab os i 1<=ab os (i-1) 1))&&(inR (ab os i 0) 1 (bO .sub Za nx 1)&&(inR (ab os i 3) 0 (cs.length-1:Int)&&(!oiB (os.take i.toNat) (ab os i 0)&&okO sp lg (ab os i 1) (ab os i 2))))
def objOk (sp lg os cs:aa)(nx:Int):Bool:=cI (BH sp lg os cs nx) os.length
section
variable {sp lg os cs: aa} {nx i k: Int}
theorem qj (i0:0<=i)(i1:i<os.length)(h:BH sp lg os cs nx i=false):objOk sp lg os cs nx=false:=bX i0 i1 h
theorem Nl (h:upto (BH sp lg os cs nx) i)(g:(os.length:Int)<=i):objOk sp lg os cs nx=true:=bN h g
theorem SB (h:0<i)(g:ab os i 1<=ab os (i-1) 1):BH sp lg os cs nx i=false:=by unfold BH;rw[VT h,VT g];rfl
theorem SC (h:inR (ab os i 0) 1 (bO .sub Za nx 1)=false):BH sp lg os cs nx i=false:=by unfold BH;rw[h];simp
theorem SD (h:inR (ab os i 3) 0 (cs.length-1:Int)=false):BH sp lg os cs nx i=false:=by unfold BH;rw[h];simp
theorem SE (h:oiB (os.take i.toNat) (ab os i 0)=true):BH sp lg os cs nx i=false:=by unfold BH;rw[h];simp
theorem JJ (h:okO sp lg (ab os i 1) (ab os i 2)=false):BH sp lg os cs nx i=false:=by unfold BH;rw[h];simp
theorem P7 (h1:i<=0\/ab os (i-1) 1<ab os i 1)(h2:inR (ab os i 0) 1 (bO .sub Za nx 1)=true)(h3:inR (ab os i 3) 0 (cs.length-1:Int)=true)(h4:oiB (os.take i.toNat) (ab os i 0)=false)(h5:okO sp lg (ab os i 1) (ab os i 2)=true):BH sp lg os cs nx i=true:=by
 unfold BH;rw[h2,h3,h4,h5];rcases h1 with h|h
 ·rw[VU (p:=0<i) (by omega)];rfl
 ·rw[VU (p:=ab os i 1<=ab os (i-1) 1) (by omega)];simp
theorem SG {a s:Int}(h:dnO sp lg a≠0):okO sp lg a s=false:=by unfold okO;rw[VU h];rfl
theorem aeF {a s:Int}(h1:dnK sp lg a≠1\/ab sp (dnI sp lg a) 1≠clsOf s)(h2:dnK sp lg a≠3\/ab lg (dnI sp lg a) 2≠s):okO sp lg a s=false:=by
 unfold okO;rcases h1 with h|h<;>rcases h2 with g|g<;>simp[h,g]
theorem SH {a s:Int}(h0:dnO sp lg a=0)(h1:dnK sp lg a=1)(h2:ab sp (dnI sp lg a) 1=clsOf s):okO sp lg a s=true:=by unfold okO;rw[VT h0,VT h1,VT h2];rfl
theorem SI {a s:Int}(h0:dnO sp lg a=0)(h1:dnK sp lg a=3)(h2:ab lg (dnI sp lg a) 2=s):okO sp lg a s=true:=by unfold okO;rw[VT h0,VT h1,VT h2];simp
theorem abK (k0:0<=k)(k1:k<i)(i1:i<os.length)(h:ab os k 0=ab os i 0):oiB (os.take i.toNat) (ab os i 0)=true:=by
 unfold oiB oiI;rw[VV,CN];refine⟨k.toNat,by rw[Zk];omega,?_⟩;unfold HT;rw[Zt k0,yD (by omega)];exact tW h
theorem aeD {x:Int}(h:upto (fun j=> !eqB (ab os j 0) x) k)(k1:i<=k)(i0:0<=i):oiB (os.take i.toNat) x=false:=by
 unfold oiB oiI;refine VU (fun c=>?_);obtain⟨m,m1,m2⟩:=CN.1 c;rw[Zk]at m1;have q:=h m (by omega) (by omega);unfold HT at m2;rw[yD (by omega)]at m2;simp only at q;rw[m2]at q;cases q
end
end Go.V
namespace Go.V
def WfI (es:aa):Prop:=∀ e∈es,∃ k b:Int,e=[.i k,.i b]
theorem wC {k b:Int}{es:aa}{n:Int}:fb ([.i k,.i b]::es) n=if k=n then some (0,.int Za b)else(fb es n).map fun p=>(p.1+1,p.2):=rfl
theorem qW {k b:Int}{es:aa}{n:Int}:jX ([.i k,.i b]::es) n=if k=n then b else jX es n:=by
 unfold jX;rw[wC];by_cases c:k=n
 ·rw[VW c,VW c]
 ·rw[VX c,VX c];cases fb es n with
  |none=>rfl
  |some p=>obtain⟨j,v⟩:=p;cases v<;>rfl
theorem Nc {k b x:Int}{es:aa}{n:Int}:oY ([.i k,.i b]::es) n (.i x)=if k=n then[.i n,.i x]::es else[.i k,.i b]::oY es n (.i x):=by
 unfold oY;rw[wC];by_cases c:k=n
 ·rw[VW c,VW c];rfl
 ·rw[VX c,VX c];cases fb es n with
  |none=>rfl
  |some p=>rfl
theorem aet {x n:Int}:∀ {es:aa},WfI es->WfI (oY es n (.i x))/\∀ m,jX (oY es n (.i x)) m=if m=n then x else jX es m
 | [],_=>by
   refine⟨fun e he=>?_,fun m=>?_⟩
   ·have:e=[.i n,.i x]:=by simpa[oY,fb]using he
    exact⟨n,x,this⟩
   ·show jX [[.i n,.i x]] m=_;rw[qW];by_cases c:m=n
    ·rw[VW c.symm,VW c]
    ·rw[VX (fun e=>c e.symm),VX c]
 | e::es,h=>by
   obtain⟨k,b,rfl⟩:=h e (by simp);have h':WfI es:=fun e he=>h e (by simp[he])
   obtain⟨a1,a2⟩:=aet (x:=x) (n:=n) h';rw[Nc];by_cases c:k=n
   ·rw[VW c];refine⟨fun e he=>?_,fun m=>?_⟩
    ·rcases Zl.1 he with rfl|he;exact⟨n,x,rfl⟩;exact h' e he
    ·rw[qW,qW];by_cases d:m=n
     ·rw[VW d.symm,VW d]
     ·rw[VX (fun e=>d e.symm),VX d,VX (fun e=>d (by rw[<-e,c]))]
   ·rw[VX c];refine⟨fun e he=>?_,fun m=>?_⟩
    ·rcases Zl.1 he with rfl|he;exact⟨k,b,rfl⟩;exact a1 e he
    ·rw[qW,qW,a2 m];by_cases d:k=m
     ·rw[VW d,VW d,VX (fun e=>c (d.trans e))]
     ·rw[VX d,VX d]
def huI (es:aa)(a:Int):aa:=oY es a (.i (bO .add Za (jX es a) 1))
structure Ds (es:aa)(l:List Int):Prop where
 wf:WfI es
 c:∀ m,jX es m=(l.count m:Int)
theorem agN:Ds [] []:=⟨(fun e he=>by cases he),fun m=>rfl⟩
theorem I4 {es:aa}{l:List Int}{a:Int}(h:Ds es l)(hl:l.length<=1099511627776):Ds (huI es a) (l++[a]):=by
 have q:=aet (x:=bO .add Za (jX es a) 1) (n:=a) h.wf;refine⟨q.1,fun m=>?_⟩;show jX (oY es a _) m=_;have b:l.count a<=l.length:=List.count_le_length;have e:=h.c a;rw[q.2 m,List.count_append,show bO .add Za (jX es a) 1=jX es a+1 from bz (by omega)];by_cases c:m=a
 ·subst c;rw[VW rfl,e];simp
 ·rw[VX c,h.c m];have:[a].count m=0:=WT.2 (by simpa using c);rw[this];rfl
def mO (l:aa)(f:Nat):Nat->List Int
 |0=>[]
 |n+1=>mO l f n++[ab l n f]
def Cm (ls:aa):Nat->List Int
 |0=>[]
 |n+1=>Cm ls n++mO (aw ls n 0) 0 (aw ls n 0).length
def uN (cs:aa):Nat->List Int
 |0=>[]
 |n+1=>uN cs n++Cm (aw cs n 0) (aw cs n 0).length
theorem d5 {l:aa}{f:Nat}:∀ n,(mO l f n).length=n
 |0=>rfl
 |n+1=>by rw[mO,Ze,d5 n];rfl
theorem qU {l:aa}{f:Nat}{i:Int}(h:0<=i):mO l f (i+1).toNat=mO l f i.toNat++[ab l i f]:=by
 rw[show(i+1).toNat=i.toNat+1 from by omega,mO,Zt h]
theorem LK {l:aa}{i:Int}(h:0<=i):Cm l (i+1).toNat=Cm l i.toNat++mO (aw l i 0) 0 (aw l i 0).length:=by
 rw[show(i+1).toNat=i.toNat+1 from by omega,Cm,Zt h]
theorem LH {l:aa}{i:Int}(h:0<=i):uN l (i+1).toNat=uN l i.toNat++Cm (aw l i 0) (aw l i 0).length:=by
 rw[show(i+1).toNat=i.toNat+1 from by omega,uN,Zt h]
theorem rF {l:aa}{f:Nat}{x:Int}:∀ {n},x∈mO l f n↔∃ k:Nat,k<n/\x=ab l k f
 |0=>⟨(fun h=>by cases h),fun⟨k,h,_⟩=>absurd h (XM _)⟩
 | n+1=>by
   rw[mO,Zf,rF,Z4]
   constructor
   ·rintro(⟨k,h,e⟩|e);exact⟨k,by omega,e⟩;exact⟨n,by omega,e⟩
   ·rintro⟨k,h,e⟩;by_cases c:k=n
    ·subst c;exact .inr e
    ·exact .inl ⟨k,by omega,e⟩
theorem EA {ls:aa}{x:Int}:∀ {n},x∈Cm ls n↔∃ k:Nat,k<n/\x∈mO (aw ls k 0) 0 (aw ls k 0).length
 |0=>⟨(fun h=>by cases h),fun⟨k,h,_⟩=>absurd h (XM _)⟩
 | n+1=>by
   rw[Cm,Zf,EA]
   constructor
   ·rintro(⟨k,h,e⟩|e);exact⟨k,by omega,e⟩;exact⟨n,by omega,e⟩
   ·rintro⟨k,h,e⟩;by_cases c:k=n
    ·subst c;exact .inr e
    ·exact .inl ⟨k,by omega,e⟩
theorem Ez {cs:aa}{x:Int}:∀ {n},x∈uN cs n↔∃ k:Nat,k<n/\x∈Cm (aw cs k 0) (aw cs k 0).length
 |0=>⟨(fun h=>by cases h),fun⟨k,h,_⟩=>absurd h (XM _)⟩
 | n+1=>by
   rw[uN,Zf,Ez]
   constructor
   ·rintro(⟨k,h,e⟩|e);exact⟨k,by omega,e⟩;exact⟨n,by omega,e⟩
   ·rintro⟨k,h,e⟩;by_cases c:k=n
    ·subst c;exact .inr e
    ·exact .inl ⟨k,by omega,e⟩
theorem D5 {ls:aa}:∀ n,n<=ls.length->(Cm ls n).length<=bL (ls.take n)
 |0,_=>Zg _
 | n+1,h=>by
   have q:=D5 n (by omega:n<=ls.length);have c:=AF (es:=ls) (n:=n) (j:=0) (by omega);unfold ak at c;rw[Cm,Ze,d5,pd (by omega)];omega
theorem nA {cs:aa}:∀ n,n<=cs.length->(uN cs n).length<=bL (cs.take n)
 |0,_=>Zg _
 | n+1,h=>by
   have q:=nA n (by omega:n<=cs.length);have c:=AF (es:=cs) (n:=n) (j:=0) (by omega);have d:=D5 (ls:=aw cs n 0) (aw cs n 0).length (Zd _);rw[Yu]at d;unfold ak at c;rw[uN,Ze,pd (by omega)];omega
theorem Pj {cs:aa}{i k:Int}(i0:0<=i)(i1:i<cs.length)(k1:k<=(aw cs i 0).length):(uN cs i.toNat++Cm (aw cs i 0) k.toNat).length+bL ((aw cs i 0).drop k.toNat)<=bL cs:=by
 have q:=nA (cs:=cs) i.toNat (by omega);have c:=FN (es:=cs) (n:=i.toNat+1);have d:=pd (es:=cs) (n:=i.toNat) (by omega);have e:=AF (es:=cs) (n:=i.toNat) (j:=0) (by omega);rw[Zt i0]at e;have f:=D5 (ls:=aw cs i 0) k.toNat (by omega);have g:bL (aw cs i 0)=bL ((aw cs i 0).take k.toNat)+bL ((aw cs i 0).drop k.toNat):=by rw[<-fK,ZP]
 rw[Ze];unfold ak at e;omega
theorem I2 {cs:aa}{i k j:Int}(i0:0<=i)(i1:i<cs.length)(k0:0<=k)(k1:k<(aw cs i 0).length)(j0:0<=j)(j1:j<=(aw (aw cs i 0) k 0).length):(uN cs i.toNat++Cm (aw cs i 0) k.toNat++mO (aw (aw cs i 0) k 0) 0 j.toNat).length<=bL cs:=by
 have q:=Pj i0 i1 (by omega:k<=(aw cs i 0).length);have e:=AF (es:=aw cs i 0) (n:=k.toNat) (j:=0) (by omega);rw[Zt k0]at e;have d:cU ((aw cs i 0).getD k.toNat [])<=bL ((aw cs i 0).drop k.toNat):=by
  rw[Xy (by omega)];rw[Zo,Zv (by omega)];simp[bL]
 rw[Ze,d5];unfold ak at e;omega
def hlB (sp lg:aa)(a k:Int):Bool:=decide (dnK sp lg a=1)&&(decide (dnO sp lg a=0)&&(decide (k<0)||decide (ab sp (dnI sp lg a) 1=k)))
def jA (sp lg l:aa)(k j:Int):Bool:=hlB sp lg (ab l j 0) k
def kA (sp lg ls:aa)(k:Int):Bool:=cI (jA sp lg (aw ls k 0) k) (aw ls k 0).length
def iA (sp lg cs:aa)(i:Int):Bool:=cI (kA sp lg (aw cs i 0)) (aw cs i 0).length
def qA (sp lg qs:aa)(i:Int):Bool:=hlB sp lg (ab qs i 0) (ab qs i 1)
def sA (qs:aa)(c i:Int):Bool:=decide (ab qs i 2<=c)
def Il (sp lg qs:aa)(c i:Int):Bool:=qA sp lg qs i&&sA qs c i
def PH (os cs qs fl:aa):List Int:=uN cs cs.length++mO qs 0 qs.length++mO fl 0 fl.length++mO os 1 os.length
def HM (os cs qs fl:aa):List Int:=mO os 1 os.length++uN cs cs.length++mO qs 0 qs.length++mO fl 0 fl.length
def Q9 (l:List Int)(lv:aa)(i:Int):Bool:=decide (l.count (ab lv i 0)=1)
def hoI (sp lg os cs b x qs:aa)(c:Int):Bool:=cI (iA sp lg cs) cs.length&&(cI (Il sp lg qs c) qs.length&&(cI (jA sp lg (ifL b x) (-1)) (ifL b x).length&&cI (Q9 (PH os cs qs (ifL b x)) (laL sp lg)) (laL sp lg).length))
def hoS (sp lg os cs b x qs:aa):Bool:=cI (iA sp lg cs) cs.length&&(cI (qA sp lg qs) qs.length&&(cI (jA sp lg (ifL b x) (-1)) (ifL b x).length&&(decide ((HM os cs qs (ifL b x)).Nodup)&&decide ((HM os cs qs (ifL b x)).length=(laL sp lg).length))))
section
variable {sp lg os cs b x qs fl es: aa} {i k j c: Int}
theorem adD (k0:0<=k)(k1:k<(aw cs i 0).length)(j0:0<=j)(j1:j<(aw (aw cs i 0) k 0).length)(h:hlB sp lg (ab (aw (aw cs i 0) k 0) j 0) k=false):iA sp lg cs i=false:=
 bX k0 k1 (bX (p:=jA sp lg (aw (aw cs i 0) k 0) k) j0 j1 h)
theorem aaU (i0:0<=i)(i1:i<cs.length)(h:iA sp lg cs i=false):hoI sp lg os cs b x qs c=false:=by unfold hoI;rw[bX i0 i1 h];rfl
theorem Mh (i0:0<=i)(i1:i<qs.length)(h:Il sp lg qs c i=false):hoI sp lg os cs b x qs c=false:=by unfold hoI;rw[bX i0 i1 h];simp
theorem aaV (i0:0<=i)(i1:i<(ifL b x).length)(h:hlB sp lg (ab (ifL b x) i 0) (-1)=false):hoI sp lg os cs b x qs c=false:=by unfold hoI;rw[bX (p:=jA sp lg (ifL b x) (-1)) i0 i1 h];simp
theorem aaW (i0:0<=i)(i1:i<(laL sp lg).length)(h:Q9 (PH os cs qs (ifL b x)) (laL sp lg) i=false):hoI sp lg os cs b x qs c=false:=by unfold hoI;rw[bX i0 i1 h];simp
theorem aaX (i0:0<=i)(i1:i<cs.length)(h:iA sp lg cs i=false):hoS sp lg os cs b x qs=false:=by unfold hoS;rw[bX i0 i1 h];rfl
theorem aaY (i0:0<=i)(i1:i<qs.length)(h:qA sp lg qs i=false):hoS sp lg os cs b x qs=false:=by unfold hoS;rw[bX i0 i1 h];simp
theorem aaZ (i0:0<=i)(i1:i<(ifL b x).length)(h:hlB sp lg (ab (ifL b x) i 0) (-1)=false):hoS sp lg os cs b x qs=false:=by unfold hoS;rw[bX (p:=jA sp lg (ifL b x) (-1)) i0 i1 h];simp
theorem aff (h:hlB sp lg (ab qs i 0) (ab qs i 1)=false):Il sp lg qs c i=false:=by unfold Il qA;rw[h];rfl
theorem afg (h:c<ab qs i 2):Il sp lg qs c i=false:=by unfold Il sA;rw[VU (by omega),Yb]
theorem ahP (h:hlB sp lg (ab qs i 0) (ab qs i 1)=true)(g:ab qs i 2<=c):Il sp lg qs c i=true:=by unfold Il qA sA;rw[h,VT g];rfl
structure HiP (sp lg cs:aa)(i:Int)(es:aa):Prop where
 ok:upto (iA sp lg cs) i
 c:Ds es (uN cs i.toNat)
structure HkP (sp lg cs:aa)(i k:Int)(es:aa):Prop where
 ok:upto (iA sp lg cs) i
 ok2:upto (kA sp lg (aw cs i 0)) k
 c:Ds es (uN cs i.toNat++Cm (aw cs i 0) k.toNat)
structure HjP (sp lg cs:aa)(i k j:Int)(es:aa):Prop where
 ok:upto (iA sp lg cs) i
 ok2:upto (kA sp lg (aw cs i 0)) k
 ok3:upto (jA sp lg (aw (aw cs i 0) k 0) k) j
 c:Ds es (uN cs i.toNat++Cm (aw cs i 0) k.toNat++mO (aw (aw cs i 0) k 0) 0 j.toNat)
structure HqP (sp lg cs qs:aa)(t j:Int)(es:aa):Prop where
 ok:cI (iA sp lg cs) cs.length=true
 ok2:upto (Il sp lg qs t) j
 c:Ds es (uN cs cs.length++mO qs 0 j.toNat)
structure HfP (sp lg cs qs fl:aa)(t j:Int)(es:aa):Prop where
 ok:cI (iA sp lg cs) cs.length=true
 ok2:cI (Il sp lg qs t) qs.length=true
 ok3:upto (jA sp lg fl (-1)) j
 c:Ds es (uN cs cs.length++mO qs 0 qs.length++mO fl 0 j.toNat)
structure TO (sp lg os cs qs fl:aa)(t j:Int)(es:aa):Prop where
 ok:cI (iA sp lg cs) cs.length=true
 ok2:cI (Il sp lg qs t) qs.length=true
 ok3:cI (jA sp lg fl (-1)) fl.length=true
 c:Ds es (uN cs cs.length++mO qs 0 qs.length++mO fl 0 fl.length++mO os 1 j.toNat)
theorem aha:HiP sp lg cs 0 []:=⟨bK,agN⟩
theorem ahc (h:HiP sp lg cs i es):HkP sp lg cs i 0 es:=⟨h.ok,bK,by simpa[Cm]using h.c⟩
theorem ahb (h:HkP sp lg cs i k es):HjP sp lg cs i k 0 es:=⟨h.ok,h.ok2,bK,by simpa[mO]using h.c⟩
theorem ac9 (h:HjP sp lg cs i k j es)(i0:0<=i)(i1:i<cs.length)(k0:0<=k)(k1:k<(aw cs i 0).length)(j0:0<=j)(j1:j<(aw (aw cs i 0) k 0).length)(hc:ak cs<=1073741824)(hh:hlB sp lg (ab (aw (aw cs i 0) k 0) j 0) k=true):
 HjP sp lg cs i k (j+1) (huI es (ab (aw (aw cs i 0) k 0) j 0)):=by
 have l:=I2 (cs:=cs) i0 i1 k0 k1 j0 (by omega);unfold ak at hc;exact⟨h.ok,h.ok2,aZ h.ok3 hh,by rw[qU j0, <-Zm];exact I4 h.c (by omega)⟩
theorem ada (h:HjP sp lg cs i k j es)(k0:0<=k)(j1:j<=((aw (aw cs i 0) k 0).length:Int))(j2:((aw (aw cs i 0) k 0).length:Int)<=j):HkP sp lg cs i (k+1) es:=by
 refine⟨h.ok,aZ h.ok2 (bN h.ok3 j2),?_⟩;have c:=h.c;rw[show j.toNat=(aw (aw cs i 0) k 0).length from by omega,Zm, <-LK k0]at c;exact c
theorem ac8 (h:HkP sp lg cs i k es)(i0:0<=i)(k1:k<=((aw cs i 0).length:Int))(k2:((aw cs i 0).length:Int)<=k):HiP sp lg cs (i+1) es:=by
 refine⟨aZ h.ok (bN h.ok2 k2),?_⟩;have c:=h.c;rw[show k.toNat=(aw cs i 0).length from by omega, <-LH i0]at c;exact c
theorem ahj (h:HiP sp lg cs i es)(i1:i<=cs.length)(i2:(cs.length:Int)<=i):HqP sp lg cs qs c 0 es:=
 ⟨bN h.ok i2,bK,by have c:=h.c;rw[show i.toNat=cs.length from by omega]at c;simpa[mO]using c⟩
theorem adu (h:HqP sp lg cs qs c j es)(j0:0<=j)(j1:j<qs.length)(hc:ak cs<=1073741824)(hq:qs.length<=1073741824)(hh:Il sp lg qs c j=true):HqP sp lg cs qs c (j+1) (huI es (ab qs j 0)):=by
 have l:=nA (cs:=cs) cs.length (Zd _);rw[Yu]at l;unfold ak at hc;refine⟨h.ok,aZ h.ok2 hh,?_⟩;rw[qU j0, <-Zm];refine I4 h.c ?_;rw[Ze,d5];omega
theorem ag9 (h:HqP sp lg cs qs c i es)(i1:i<=qs.length)(i2:(qs.length:Int)<=i):HfP sp lg cs qs fl c 0 es:=
 ⟨h.ok,bN h.ok2 i2,bK,by have c:=h.c;rw[show i.toNat=qs.length from by omega]at c;simpa[mO]using c⟩
theorem ac7 (h:HfP sp lg cs qs fl c j es)(j0:0<=j)(j1:j<fl.length)(hc:ak cs<=1073741824)(hq:qs.length<=1073741824)(hf:fl.length<=30)(hh:hlB sp lg (ab fl j 0) (-1)=true):HfP sp lg cs qs fl c (j+1) (huI es (ab fl j 0)):=by
 have l:=nA (cs:=cs) cs.length (Zd _);rw[Yu]at l;unfold ak at hc;refine⟨h.ok,h.ok2,aZ h.ok3 hh,?_⟩;rw[qU j0, <-Zm];refine I4 h.c ?_;rw[Ze,Ze,d5,d5];omega
theorem ahf (h:HfP sp lg cs qs fl c i es)(i1:i<=fl.length)(i2:(fl.length:Int)<=i):TO sp lg os cs qs fl c 0 es:=
 ⟨h.ok,h.ok2,bN h.ok3 i2,by have c:=h.c;rw[show i.toNat=fl.length from by omega]at c;simpa[mO]using c⟩
theorem ade (h:TO sp lg os cs qs fl c j es)(j0:0<=j)(j1:j<os.length)(hc:ak cs<=1073741824)(hq:qs.length<=1073741824)(ho:os.length<=1073741824)(hf:fl.length<=30):TO sp lg os cs qs fl c (j+1) (huI es (ab os j 1)):=by
 have l:=nA (cs:=cs) cs.length (Zd _);rw[Yu]at l;unfold ak at hc;refine⟨h.ok,h.ok2,h.ok3,?_⟩;rw[qU j0, <-Zm];refine I4 h.c ?_;rw[Ze,Ze,Ze,d5,d5,d5];omega
structure QS (sp lg os cs qs fl:aa)(t i:Int)(es:aa):Prop where
 p:TO sp lg os cs qs fl t os.length es
 ok:upto (Q9 (PH os cs qs fl) (laL sp lg)) i
theorem ahd (h:TO sp lg os cs qs fl c i es)(i1:i<=os.length)(i2:(os.length:Int)<=i):QS sp lg os cs qs fl c 0 es:=⟨by rw[show(os.length:Int)=i from by omega];exact h,bK⟩
theorem adb (h:QS sp lg os cs qs fl c i es)(m:Int):jX es m=((PH os cs qs fl).count m:Int):=by
 have q:=h.p.c.c m;rw[Zy]at q;exact q
theorem adc (h:QS sp lg os cs qs fl c i es)(e:jX es (ab (laL sp lg) i 0)=1):QS sp lg os cs qs fl c (i+1) es:=
 ⟨h.p,aZ h.ok (by unfold Q9;rw[adb h]at e;exact VT (by omega))⟩
theorem ahe (h:QS sp lg os cs qs (ifL b x) c i es)(i0:0<=i)(i1:i<(laL sp lg).length)(e:jX es (ab (laL sp lg) i 0)≠1):hoI sp lg os cs b x qs c=false:=
 aaW i0 i1 (by unfold Q9;rw[adb h]at e;exact VU (by omega))
theorem aaT (h:QS sp lg os cs qs (ifL b x) c i es)(i2:((laL sp lg).length:Int)<=i):hoI sp lg os cs b x qs c=true:=by
 unfold hoI;rw[h.p.ok,h.p.ok2,h.p.ok3,bN h.ok i2];rfl
end
end Go.V
namespace Go.V
structure T7 (os:aa)(i:Int)(o:aa):Prop where
 e:o=jo (mO os 1 i.toNat)
structure S2P (sp lg os cs:aa)(i:Int)(o:aa):Prop where
 ok:upto (iA sp lg cs) i
 e:o=jo (mO os 1 os.length++uN cs i.toNat)
structure S3P (sp lg os cs:aa)(i k:Int)(o:aa):Prop where
 ok:upto (iA sp lg cs) i
 ok2:upto (kA sp lg (aw cs i 0)) k
 e:o=jo (mO os 1 os.length++(uN cs i.toNat++Cm (aw cs i 0) k.toNat))
structure T8 (sp lg os cs:aa)(i k j:Int)(o:aa):Prop where
 ok:upto (iA sp lg cs) i
 ok2:upto (kA sp lg (aw cs i 0)) k
 ok3:upto (jA sp lg (aw (aw cs i 0) k 0) k) j
 e:o=jo (mO os 1 os.length++(uN cs i.toNat++Cm (aw cs i 0) k.toNat++mO (aw (aw cs i 0) k 0) 0 j.toNat))
structure T9 (sp lg os cs qs:aa)(j:Int)(o:aa):Prop where
 ok:cI (iA sp lg cs) cs.length=true
 ok2:upto (qA sp lg qs) j
 e:o=jo (mO os 1 os.length++uN cs cs.length++mO qs 0 j.toNat)
structure S6P (sp lg os cs qs fl:aa)(j:Int)(o:aa):Prop where
 ok:cI (iA sp lg cs) cs.length=true
 ok2:cI (qA sp lg qs) qs.length=true
 ok3:upto (jA sp lg fl (-1)) j
 e:o=jo (mO os 1 os.length++uN cs cs.length++mO qs 0 qs.length++mO fl 0 j.toNat)
structure OY (sp lg os cs qs fl:aa)(j:Int)(o:aa):Prop where
 ok:cI (iA sp lg cs) cs.length=true
 ok2:cI (qA sp lg qs) qs.length=true
 ok3:cI (jA sp lg fl (-1)) fl.length=true
 e:o=jo (HM os cs qs fl)
 nd:((HM os cs qs fl).take j.toNat).Nodup
section
variable {sp lg os cs b x qs fl o: aa} {i k j: Int}
theorem ahU:T7 os 0 []:=⟨rfl⟩
theorem ahV (h:T7 os i o):o.length=i.toNat:=by rw[h.e,cn,d5]
theorem afv (h:T7 os i o)(i0:0<=i):T7 os (i+1) (o++[[.i (ab os i 1)]]):=⟨by rw[qU i0,io, <-h.e];rfl⟩
theorem ahW (h:T7 os i o)(i1:i<=os.length)(i2:(os.length:Int)<=i):S2P sp lg os cs 0 o:=⟨bK,by rw[h.e,show i.toNat=os.length from by omega];simp[uN]⟩
theorem ahX (h:S2P sp lg os cs i o):S3P sp lg os cs i 0 o:=⟨h.ok,bK,by rw[h.e];simp[Cm]⟩
theorem ahY (h:S3P sp lg os cs i k o):T8 sp lg os cs i k 0 o:=⟨h.ok,h.ok2,bK,by rw[h.e];simp[mO]⟩
theorem ahZ (h:T8 sp lg os cs i k j o)(i0:0<=i)(i1:i<cs.length)(k0:0<=k)(k1:k<(aw cs i 0).length)(j0:0<=j)(j1:j<=(aw (aw cs i 0) k 0).length)(hc:ak cs<=1073741824)(ho:os.length<=1073741824):o.length<=2147483648:=by
 have l:=I2 (cs:=cs) i0 i1 k0 k1 j0 j1;unfold ak at hc;rw[h.e,cn,Ze,d5];omega
theorem afy (h:T8 sp lg os cs i k j o)(j0:0<=j)(hh:hlB sp lg (ab (aw (aw cs i 0) k 0) j 0) k=true):T8 sp lg os cs i k (j+1) (o++[[.i (ab (aw (aw cs i 0) k 0) j 0)]]):=
 ⟨h.ok,h.ok2,aZ h.ok3 hh,by rw[qU j0, <-Zm (uN cs i.toNat++Cm (aw cs i 0) k.toNat), <-Zm (mO os 1 os.length),io, <-h.e];rfl⟩
theorem afx (h:T8 sp lg os cs i k j o)(k0:0<=k)(j1:j<=((aw (aw cs i 0) k 0).length:Int))(j2:((aw (aw cs i 0) k 0).length:Int)<=j):S3P sp lg os cs i (k+1) o:=by
 refine⟨h.ok,aZ h.ok2 (bN h.ok3 j2),?_⟩;rw[h.e,show j.toNat=(aw (aw cs i 0) k 0).length from by omega,Zm (uN cs i.toNat), <-LK k0]
theorem afw (h:S3P sp lg os cs i k o)(i0:0<=i)(k1:k<=((aw cs i 0).length:Int))(k2:((aw cs i 0).length:Int)<=k):S2P sp lg os cs (i+1) o:=by
 refine⟨aZ h.ok (bN h.ok2 k2),?_⟩;rw[h.e,show k.toNat=(aw cs i 0).length from by omega, <-LH i0]
theorem ah0 (h:S2P sp lg os cs i o)(i1:i<=cs.length)(i2:(cs.length:Int)<=i):T9 sp lg os cs qs 0 o:=⟨bN h.ok i2,bK,by rw[h.e,show i.toNat=cs.length from by omega];simp[mO]⟩
theorem ah1 (h:T9 sp lg os cs qs j o)(j1:j<=qs.length)(hc:ak cs<=1073741824)(ho:os.length<=1073741824)(hq:qs.length<=1073741824):o.length<=4294967296:=by
 have l:=nA (cs:=cs) cs.length (Zd _);rw[Yu]at l;unfold ak at hc;rw[h.e,cn,Ze,Ze,d5,d5];omega
theorem afz (h:T9 sp lg os cs qs j o)(j0:0<=j)(hh:hlB sp lg (ab qs j 0) (ab qs j 1)=true):T9 sp lg os cs qs (j+1) (o++[[.i (ab qs j 0)]]):=
 ⟨h.ok,aZ h.ok2 hh,by rw[qU j0, <-Zm,io, <-h.e];rfl⟩
theorem ah2 (h:T9 sp lg os cs qs i o)(i1:i<=qs.length)(i2:(qs.length:Int)<=i):S6P sp lg os cs qs fl 0 o:=⟨h.ok,bN h.ok2 i2,bK,by rw[h.e,show i.toNat=qs.length from by omega];simp[mO]⟩
theorem ah3 (h:S6P sp lg os cs qs fl j o)(j1:j<=fl.length)(hc:ak cs<=1073741824)(ho:os.length<=1073741824)(hq:qs.length<=1073741824)(hf:fl.length<=30):o.length<=4294967400:=by
 have l:=nA (cs:=cs) cs.length (Zd _);rw[Yu]at l;unfold ak at hc;rw[h.e,cn,Ze,Ze,Ze,d5,d5,d5];omega
theorem afA (h:S6P sp lg os cs qs fl j o)(j0:0<=j)(hh:hlB sp lg (ab fl j 0) (-1)=true):S6P sp lg os cs qs fl (j+1) (o++[[.i (ab fl j 0)]]):=
 ⟨h.ok,h.ok2,aZ h.ok3 hh,by rw[qU j0, <-Zm,io, <-h.e];rfl⟩
theorem ah4 (h:S6P sp lg os cs qs fl i o)(i1:i<=fl.length)(i2:(fl.length:Int)<=i):OY sp lg os cs qs fl 0 o:=
 ⟨h.ok,h.ok2,bN h.ok3 i2,by rw[h.e,show i.toNat=fl.length from by omega];rfl,ZJ⟩
theorem afB (h:OY sp lg os cs qs fl j o)(hc:ak cs<=1073741824)(ho:os.length<=1073741824)(hq:qs.length<=1073741824)(hf:fl.length<=30):o.length<=4294967400:=by
 have l:=nA (cs:=cs) cs.length (Zd _);rw[Yu]at l;unfold ak at hc;rw[h.e,cn];unfold HM;rw[Ze,Ze,Ze,d5,d5,d5];omega
theorem GC {l:List Int}{n:Nat}:(jo l).take n=jo (l.take n):=by unfold jo;rw[List.map_take]
theorem EU {l:List Int}{i:Int}(h0:0<=i)(h:i<(jo l).length):∃ x,l[i.toNat]?=some x/\ab (jo l) i 0=x:=by
 rw[cn]at h;have q:=vS (l:=l) (k:=i.toNat) (by omega);rw[Zt h0]at q;exact⟨_,Zv (by omega),q⟩
theorem afD (h:OY sp lg os cs qs fl j o)(j0:0<=j)(j1:j<o.length)(hh:hasB (o.take j.toNat) (ab o j 0)=false):OY sp lg os cs qs fl (j+1) o:=by
 refine⟨h.ok,h.ok2,h.ok3,h.e,?_⟩;have e:=h.e;rw[e]at j1 hh;obtain⟨v,q1,q2⟩:=EU j0 j1;rw[GC,q2]at hh;have nm:=yE hh;rw[show(j+1).toNat=j.toNat+1 from by omega,List.take_succ,q1];exact nD h.nd nm
theorem ah5 (h:OY sp lg os cs qs (ifL b x) j o)(j0:0<=j)(j1:j<o.length)(hh:hasB (o.take j.toNat) (ab o j 0)=true):hoS sp lg os cs b x qs=false:=by
 have e:=h.e;rw[e]at j1 hh;obtain⟨v,q1,q2⟩:=EU j0 j1;rw[GC,q2,rD]at hh;have:¬ (HM os cs qs (ifL b x)).Nodup:=fun nd=>by
  have lt:j.toNat<(HM os cs qs (ifL b x)).length:=by rw[cn]at j1;omega
  have sp:=ZP j.toNat (HM os cs qs (ifL b x));rw[Xy lt]at sp;have gv:(HM os cs qs (ifL b x))[j.toNat]=v:=by rw[Zv lt]at q1;exact Yz q1
  rw[gv]at sp;exact dup sp.symm hh nd
 unfold hoS;rw[VU this];simp
theorem ab4 (h:OY sp lg os cs qs (ifL b x) j o)(j2:(o.length:Int)<=j):decide ((o.length:Int)=(laL sp lg).length)=hoS sp lg os cs b x qs:=by
 have e:=h.e;have nd:=h.nd;have l:(HM os cs qs (ifL b x)).length=o.length:=by rw[e,cn]
 rw[Yi (by omega)]at nd;unfold hoS;rw[h.ok,h.ok2,h.ok3,VT nd,l];simp only[Yy];exact gW (by rw[VV,VV];omega)
def inI (l:List Int):Prop:=∀ v∈l,-9223372036854775808<=v/\v<=9223372036854775807
theorem El {l m:List Int}(h:inI l)(g:inI m):inI (l++m):=fun v hv=>by
 rcases Zf.1 hv with q|q;exact h v q;exact g v q
theorem Em {fs:List Ty}{l:aa}{f:Nat}(h:Rw fs l)(hf:fs[f]?=some tI):inI (mO l f l.length):=fun v hv=>by
 obtain⟨n,n1,rfl⟩:=rF.1 hv;exact AD h hf (by omega)
theorem abf {ls:aa}(h:Rw [.sl [tI]] ls):inI (Cm ls ls.length):=fun v hv=>by
 obtain⟨n,n1,q⟩:=EA.1 hv;exact Em (fs:=[tI]) (Rw.sub (fs:=[.sl [tI]]) h (by omega) rfl) rfl v q
theorem abe {cs:aa}(h:Rw [.sl [.sl [tI]]] cs):inI (uN cs cs.length):=fun v hv=>by
 obtain⟨n,n1,q⟩:=Ez.1 hv;exact abf (Rw.sub (fs:=[.sl [.sl [tI]]]) h (by omega) rfl) v q
theorem afC (N:OV sp lg os cs b x qs)(h:OY sp lg os cs qs (ifL b x) j o)(n:Nat):Rw [tI] (o.take n):=by
 have l:=afB h N.cl N.ol N.ql HR;refine Rw.take ?_ n;rw[h.e]at l ⊢;rw[cn]at l;refine vT ?_ (by omega);unfold HM;exact El (El (El (Em N.ow rfl) (abe N.cw)) (Em N.qw rfl)) (Em (Mt N.m) rfl)
theorem Mf {a k:Int}(hl:layOk sp lg=true)(h:hlB sp lg a k=true):yi sp lg a=true:=by
 unfold hlB at h;simp only[Zc,VV]at h;exact(JA hl).2 ⟨h.2.1,.inl h.1⟩
theorem aeG {a s:Int}(hl:layOk sp lg=true)(h:okO sp lg a s=true):yi sp lg a=true:=by
 unfold okO at h;simp only[Zc,ZT,VV]at h;exact(JA hl).2 ⟨h.1,h.2.elim (fun q=>.inl q.1) (fun q=>.inr q.1)⟩
def lvI (sp lg:aa):List Int:=Sk sp lg 512
theorem adY (hl:layOk sp lg=true):laL sp lg=jo (lvI sp lg):=by unfold laL lvI;rw[VW hl,AQ]
theorem P0 (hl:layOk sp lg=true){a:Int}:a∈lvI sp lg↔yi sp lg a=true:=by
 unfold lvI;rw[uo]
 constructor;exact fun h=>h.2.2
 ·intro h;have F:=MW hl;have v:=Sn F hl h;have r:a∈iaA sp lg:=JD.2 v;refine⟨?_,?_,h⟩
  ·rcases v with⟨i,k,i1,k1,_,e⟩|⟨j,j1,e⟩
   ·have ae:=qt (s:=(k:Int)) (F.s i i1) (by omega) (by omega);have t:=ku (F.s i i1);omega
   ·have t:=kn (F.l j j1);omega
  ·rcases v with⟨i,k,i1,k1,_,e⟩|⟨j,j1,e⟩
   ·have ae:=qt (s:=(k:Int)) (F.s i i1) (by omega) (by omega);have t:=ku (F.s i i1);omega
   ·have t:=kn (F.l j j1);have b:=lL t.1;omega
theorem abF:(lvI sp lg).Nodup:=(Ij 512).imp (fun h=>by omega)
theorem JO:(PH os cs qs fl).Perm (HM os cs qs fl):=by
 unfold PH HM;have q:=List.perm_append_comm (l₁:=uN cs cs.length++mO qs 0 qs.length++mO fl 0 fl.length) (l₂:=mO os 1 os.length);refine q.trans ?_;rw[Zm,Zm,Zm]
theorem Nk {l m:List Int}(hm:m.Nodup)(hs:∀ v∈l,v∈m):(∀ v∈m,l.count v=1)↔l.Nodup/\l.length=m.length:=by
 constructor
 ·intro h;have nd:l.Nodup:=WU.2 (fun v=>by
   by_cases c:v∈l
   ·rw[h v (hs v c)];exact Zd _
   ·rw[WT.2 c];omega)
  refine⟨nd,?_⟩;have p:l.Perm m:=by
   rw[List.perm_ext_iff_of_nodup nd hm];intro v;refine⟨hs v,fun hv=>?_⟩;have:=h v hv;exact WV.1 (by omega)
  exact p.length_eq
 ·rintro⟨nd,len⟩ v hv;have hv':v∈l:=by
   by_cases c:v∈l;exact c
   ·exfalso;have q:=WS (l₁:=v::l) (l₂:=m) (List.nodup_cons.2 ⟨c,nd⟩) (fun y hy=>by
     rcases Zl.1 hy with rfl|hy;exact hv
     ·exact hs y hy)
    rw[Zn]at q;omega
  have p1:=WU.1 nd v;have p2:=WV.2 hv';omega
theorem dR {p:Int->Bool}{n:Nat}(h:cI p n=true):∀ k:Nat,k<n->p k=true:=fun k hk=>dh.1 h k (by omega) (by omega)
theorem Qd {c:Int}:cI (Il sp lg qs c) qs.length=(cI (qA sp lg qs) qs.length&&cI (sA qs c) qs.length):=by
 refine gW ?_;rw[Zc,dh,dh,dh];unfold upto Il
 constructor
 ·intro h;refine⟨fun j h0 h1=>?_,fun j h0 h1=>?_⟩
  ·have:=h j h0 h1;rw[Zc]at this;exact this.1
  ·have:=h j h0 h1;rw[Zc]at this;exact this.2
 ·rintro⟨h,g⟩ j h0 h1;rw[h j h0 h1,g j h0 h1];rfl
theorem Mi {nx c:Int}(hl:layOk sp lg=true)(ho:objOk sp lg os cs nx=true):hoI sp lg os cs b x qs c=(hoS sp lg os cs b x qs&&cI (sA qs c) qs.length):=by
 unfold hoI hoS;rw[Qd];by_cases h1:cI (iA sp lg cs) cs.length=true
 case neg=>rw[Y1]at h1;rw[h1];rfl
 by_cases h2:cI (qA sp lg qs) qs.length=true
 case neg=>rw[Y1]at h2;rw[h2];simp
 by_cases h3:cI (jA sp lg (ifL b x) (-1)) (ifL b x).length=true
 case neg=>rw[Y1]at h3;rw[h3];simp
 have sub:∀ v∈PH os cs qs (ifL b x),v∈lvI sp lg:=by
  intro v hv;rw[P0 hl];unfold PH at hv;rw[Zf,Zf,Zf]at hv;rcases hv with((hv|hv)|hv)|hv
  ·obtain⟨i,i1,hv⟩:=Ez.1 hv;obtain⟨k,k1,hv⟩:=EA.1 hv;obtain⟨j,j1,rfl⟩:=rF.1 hv;have q1:=dR h1 i i1;have q2:=dR q1 k k1;have q3:=dR q2 j j1;exact Mf hl q3
  ·obtain⟨j,j1,rfl⟩:=rF.1 hv;exact Mf hl (dR h2 j j1)
  ·obtain⟨j,j1,rfl⟩:=rF.1 hv;exact Mf hl (dR h3 j j1)
  ·obtain⟨j,j1,rfl⟩:=rF.1 hv;have q:=dR ho j j1;unfold BH at q;simp only[Zc]at q;exact aeG hl q.2.2.2.2
 have key:=Nk abF sub;have e1:cI (Q9 (PH os cs qs (ifL b x)) (laL sp lg)) (laL sp lg).length=(decide (HM os cs qs (ifL b x)).Nodup&&decide ((HM os cs qs (ifL b x)).length=(laL sp lg).length)):=by
  refine gW ?_;rw[Zc,VV,VV, <-JO.nodup_iff, <-JO.length_eq,adY hl,cn, <-key]
  constructor
  ·intro h v hv;obtain⟨n,n1,rfl⟩:=Wg.1 hv;have q:=dR h n n1;unfold Q9 at q;rw[vS n1,VV]at q;exact q
  ·intro h;rw[dh];intro j h0 h1;have n1:j.toNat<(lvI sp lg).length:=by omega
   have q:=vS n1;rw[Zt h0]at q;unfold Q9;rw[q,VV];exact h _ (Xw n1)
 rw[h1,h2,h3,e1];simp only[Yy];exact Bool.and_comm _ _
end
end Go.V
namespace Go.V
theorem Jr {n:Int}:∀ {es:aa},WfB es->∀ m,m∈py (oY es n (.v (.bool true)))↔m∈py es\/m=n
 | [],_,m=>by
   show m∈py [[.i n,.v (.bool true)]]↔_;simp[py,kOf]
 | e::es,h,m=>by
   obtain⟨k,b,rfl⟩:=h e (by simp);have h':WfB es:=fun e he=>h e (by simp[he])
   have ih:=Jr (n:=n) h' m;rw[JF];by_cases c:k=n
   ·rw[VW c];subst c;show m∈k::py es↔m∈k::py es\/m=k;simp only[Zl]
    constructor;exact fun h=>.inl h
    ·rintro(h|h);exact h;exact .inl h
   ·rw[VX c];show m∈k::py (oY es n (.v (.bool true)))↔m∈k::py es\/m=n;simp only[Zl,ih,or_assoc]
structure yT (es:aa)(l:List Int):Prop where
 s:sf es l
 k:∀ m,m∈py es↔m∈l
theorem aeI:yT [] []:=⟨Is,fun m=>Iff.rfl⟩
theorem Nq {es:aa}{l:List Int}{n:Int}(h:yT es l):yT (oY es n (.v (.bool true))) (l++[n]):=
 ⟨yO h.s,fun m=>by rw[Jr h.s.wf,h.k,Zf,Z4]⟩
def yN (sp:aa)(i:Int):Bool:= !(decide (0<i)&&decide (ab sp i 0<=ab sp (i-1) 0))
def RE (es:aa)(p:Int):Bool:=decide ((fpg es p).length=1)
def C4 (es lg:aa)(i:Int):Bool:=yN lg i&&cI (fun k=>RE es (ab lg i 0+k)) (ab lg i 1).toNat
def ownB (sp lg:aa)(p:Int):Bool:=decide (p∈yJ sp lg)
def mapB (es:aa)(p:Int):Bool:=decide (peM es p≠0)
def Cn (es fr sp lg:aa)(p:Int):Bool:=(mapB es p==ownB sp lg p)&& !(rhB fr p==ownB sp lg p)
def Nh (es sp lg:aa):Bool:=decide (∀ p∈yJ sp lg,p<es.length)
def yj (sp:aa)(i j:Int):Bool:=mshB (ab sp i 0) (ab sp i 1) (ab sp i 2) (ab sp j 0) (ab sp j 1) (ab sp j 2)
def KH (es sp:aa)(i j:Int):Bool:= !decide (peF es (ab sp i 0)=peF es (ab sp j 0))||yj sp i j
def M2 (es sp:aa)(i:Int):Bool:=cI (KH es sp i) i.toNat
def MX (es sp:aa)(i k:Int):Bool:=decide (spI sp (ab (fpg es (ab sp i 0)) k 0)=i)||(decide (0<=spI sp (ab (fpg es (ab sp i 0)) k 0))&&yj sp i (spI sp (ab (fpg es (ab sp i 0)) k 0)))
def msA (es sp:aa)(i:Int):Bool:=cI (MX es sp i) (fpg es (ab sp i 0)).length
def pgI (es fr sp lg:aa):Bool:=cI (yN sp) sp.length&&(cI (C4 es lg) lg.length&&(cI (Cn es fr sp lg) es.length&&(Nh es sp lg&&cI (M2 es sp) sp.length)))
def pgS (es fr sp lg:aa):Bool:=cI (yN sp) sp.length&&(cI (C4 es lg) lg.length&&(Nh es sp lg&&cI (Cn es fr sp lg) es.length))
def smS (es sp:aa):Bool:=cI (msA es sp) sp.length
section
variable {es fr sp lg m: aa} {i j k p: Int} {vs: List Int}
theorem Kb (h:0<i)(g:ab sp i 0<=ab sp (i-1) 0):yN sp i=false:=by unfold yN;rw[VT h,VT g];rfl
theorem Kc (h:i<=0):yN sp i=true:=by unfold yN;rw[VU (by omega)];rfl
theorem Kd (h:ab sp (i-1) 0<ab sp i 0):yN sp i=true:=by unfold yN;rw[VU (p:=ab sp i 0<=_) (by omega)];simp
theorem aeO (i0:0<=i)(i1:i<sp.length)(h:yN sp i=false):pgI es fr sp lg=false:=by unfold pgI;rw[bX i0 i1 h];rfl
theorem SN (i0:0<=i)(i1:i<lg.length)(h:C4 es lg i=false):pgI es fr sp lg=false:=by unfold pgI;rw[bX i0 i1 h];simp
theorem SO (i0:0<=i)(i1:i<es.length)(h:Cn es fr sp lg i=false):pgI es fr sp lg=false:=by unfold pgI;rw[bX i0 i1 h];simp
theorem aeP (h:Nh es sp lg=false):pgI es fr sp lg=false:=by unfold pgI;rw[h];simp
theorem aeQ (i0:0<=i)(i1:i<sp.length)(h:M2 es sp i=false):pgI es fr sp lg=false:=by unfold pgI;rw[bX i0 i1 h];simp
theorem ahD {a b c d:Int}(h1:upto (yN sp) a)(g1:(sp.length:Int)<=a)(h2:upto (C4 es lg) b)(g2:(lg.length:Int)<=b)(h3:upto (Cn es fr sp lg) c)(g3:(es.length:Int)<=c)(h4:Nh es sp lg=true)(h5:upto (M2 es sp) d)(g5:(sp.length:Int)<=d):pgI es fr sp lg=true:=by
 unfold pgI;rw[bN h1 g1,bN h2 g2,bN h3 g3,h4,bN h5 g5];rfl
theorem aeW (i0:0<=i)(i1:i<sp.length)(h:yN sp i=false):pgS es fr sp lg=false:=by unfold pgS;rw[bX i0 i1 h];rfl
theorem SP (i0:0<=i)(i1:i<lg.length)(h:C4 es lg i=false):pgS es fr sp lg=false:=by unfold pgS;rw[bX i0 i1 h];simp
theorem SQ (i0:0<=i)(i1:i<es.length)(h:Cn es fr sp lg i=false):pgS es fr sp lg=false:=by unfold pgS;rw[bX i0 i1 h];simp
theorem aeX (h:Nh es sp lg=false):pgS es fr sp lg=false:=by unfold pgS;rw[h];simp
theorem ahF {a b c:Int}(h1:upto (yN sp) a)(g1:(sp.length:Int)<=a)(h2:upto (C4 es lg) b)(g2:(lg.length:Int)<=b)(h3:upto (Cn es fr sp lg) c)(g3:(es.length:Int)<=c)(h4:Nh es sp lg=true):pgS es fr sp lg=true:=by
 unfold pgS;rw[bN h1 g1,bN h2 g2,bN h3 g3,h4];rfl
theorem Sf (h:yN lg i=false):C4 es lg i=false:=by unfold C4;rw[h];rfl
theorem Sg (k0:0<=k)(k1:k<ab lg i 1)(h:(fpg es (ab lg i 0+k)).length≠1):C4 es lg i=false:=by
 unfold C4;rw[bX (i:=k) (n:=(ab lg i 1).toNat) k0 (by omega) (show RE es (ab lg i 0+k)=false from VU h),Yb]
theorem ad2 (h:yN lg i=true)(g:upto (fun k=>RE es (ab lg i 0+k)) k)(k1:ab lg i 1<=k)(n0:0<=ab lg i 1):C4 es lg i=true:=by
 unfold C4;rw[h,bN g (by omega)];rfl
theorem RF (g:upto (fun k=>RE es (ab lg i 0+k)) k)(h:(fpg es (ab lg i 0+k)).length=1):upto (fun k=>RE es (ab lg i 0+k)) (k+1):=aZ g (VT h)
structure PlP (es sp lg:aa)(j:Int)(m:aa):Prop where
 ok:upto (C4 es lg) j
 o:yT m (oG sp sp.length++oF lg j.toNat)
structure PkP (es sp lg:aa)(j k:Int)(m:aa):Prop where
 ok:upto (C4 es lg) j
 h:yN lg j=true
 g:upto (fun k=>RE es (ab lg j 0+k)) k
 o:yT m (oG sp sp.length++oF lg j.toNat++rJ (ab lg j 0) k.toNat)
theorem ahE (h:yT m (oG sp i.toNat))(i1:i<=sp.length)(i2:(sp.length:Int)<=i):PlP es sp lg 0 m:=⟨bK,by rw[show i.toNat=sp.length from by omega]at h;simpa[oF]using h⟩
theorem aeR (h:PlP es sp lg j m)(g:yN lg j=true):PkP es sp lg j (ab lg j 0-ab lg j 0) m:=by
 rw[Int.sub_self];exact⟨h.ok,g,bK,by simpa[rJ]using h.o⟩
theorem aeT (h:PkP es sp lg j (p-ab lg j 0) m)(p0:ab lg j 0<=p)(g:(fpg es p).length=1):PkP es sp lg j (p+1-ab lg j 0) (oY m p (.v (.bool true))):=by
 have e:ab lg j 0+(p-ab lg j 0)=p:=by omega
 rw[show p+1-ab lg j 0=(p-ab lg j 0)+1 from by omega];refine⟨h.ok,h.h,RF h.g (by rw[e];exact g),?_⟩;rw[A5 (by omega),e, <-Zm];exact Nq h.o
theorem aeS (p0:ab lg j 0<=p)(p1:p<ab lg j 0+ab lg j 1)(h:(fpg es p).length≠1):C4 es lg j=false:=
 Sg (k:=p-ab lg j 0) (by omega) (by omega) (by rw[show ab lg j 0+(p-ab lg j 0)=p from by omega];exact h)
theorem aeU (h:PkP es sp lg j (p-ab lg j 0) m)(j0:0<=j)(n0:0<=ab lg j 1)(p1:p<=ab lg j 0+ab lg j 1)(p2:ab lg j 0+ab lg j 1<=p):PlP es sp lg (j+1) m:=by
 refine⟨aZ h.ok (ad2 h.h h.g (by omega) n0),?_⟩;have o:=h.o;rw[show(p-ab lg j 0).toNat=(ab lg j 1).toNat from by omega,Zm, <-sQ j0]at o;exact o
theorem abO (h:PlP es sp lg j m)(j1:j<=lg.length)(j2:(lg.length:Int)<=j):yT m (yJ sp lg):=by
 have o:=h.o;rw[show j.toNat=lg.length from by omega]at o;exact o
theorem aeJ (h:yT m (yJ sp lg))(p:Int):mgbI m p=ownB sp lg p:=by
 refine gW ?_;unfold ownB;rw[h.s.at_,VV]
theorem Rx (h:mapB es p≠ownB sp lg p):Cn es fr sp lg p=false:=by unfold Cn;rw[beq_eq_false_iff_ne.2 h];rfl
theorem Ry (h:rhB fr p=ownB sp lg p):Cn es fr sp lg p=false:=by unfold Cn;rw[h];simp
theorem acQ (h:mapB es p=ownB sp lg p)(g:rhB fr p≠ownB sp lg p):Cn es fr sp lg p=true:=by unfold Cn;rw[h,beq_eq_false_iff_ne.2 g];simp
theorem aay (h:mapB es p=rhB fr p)(g:mapB es p=ownB sp lg p):Cn es fr sp lg p=false:=Ry (by rw[<-h,g])
theorem acR (h:mapB es p≠rhB fr p)(g:mapB es p=ownB sp lg p):Cn es fr sp lg p=true:=acQ g (fun e=>h (by rw[g,e]))
theorem ael (p0:0<=p)(p1:p<es.length):dA .neq (ab es p 0) 0=mapB es p:=by rw[D6];unfold mapB peM;rw[VW (by omega)]
theorem aeC (h:p∈yJ sp lg)(g:(es.length:Int)<=p):Nh es sp lg=false:=VU (fun c=>by have:=c p h;omega)
theorem ahB (o:yT m (yJ sp lg))(h:∀ k∈vs,k<es.length)(g:∀ k∈py m,k∈vs):Nh es sp lg=true:=VT (fun p hp=>h p (g p ((o.k p).2 hp)))
theorem af1 {q:Int}(h:∀ k∈vs,k<(es.length:Int))(g:q<es.length):∀ k∈q::vs,k<(es.length:Int):=fun k hk=>by
 rcases Zl.1 hk with rfl|hk;exact g;exact h k hk
theorem ahx (j0:0<=j)(j1:j<i)(h:peF es (ab sp i 0)=peF es (ab sp j 0))(g:yj sp i j=false):M2 es sp i=false:=by
 unfold M2;exact bX j0 (by omega) (by unfold KH;rw[g,VT h];rfl)
theorem aeh (h:peF es (ab sp i 0)≠peF es (ab sp j 0)):KH es sp i j=true:=by unfold KH;rw[VU h];rfl
theorem aei (h:yj sp i j=true):KH es sp i j=true:=by unfold KH;rw[h,WW]
theorem ahy (h:upto (KH es sp i) j)(g:i<=j)(i0:0<=i):M2 es sp i=true:=by unfold M2;exact bN h (by omega)
structure Oz (es sp lg:aa)(j:Int)(o:aa):Prop where
 ok:upto (C4 es lg) j
 e:o=jo (oG sp sp.length++oF lg j.toNat)
 l:(oF lg j.toNat).length<=64*j.toNat
structure TY (es sp lg:aa)(j k:Int)(o:aa):Prop where
 ok:upto (C4 es lg) j
 h:yN lg j=true
 g:upto (fun k=>RE es (ab lg j 0+k)) k
 e:o=jo (oG sp sp.length++oF lg j.toNat++rJ (ab lg j 0) k.toNat)
 l:(oF lg j.toNat).length<=64*j.toNat
structure TZ (sp:aa)(i:Int)(o:aa):Prop where
 ok:upto (yN sp) i
 e:o=jo (oG sp i.toNat)
variable {o: aa}
theorem ahN:TZ sp 0 []:=⟨bK,rfl⟩
theorem ahO (h:TZ sp i o):o.length=i.toNat:=by rw[h.e,cn,rO]
theorem Tc (h:TZ sp i o)(i0:0<=i)(g:yN sp i=true):TZ sp (i+1) (o++[[.i (ab sp i 0)]]):=⟨aZ h.ok g,by rw[rl i0,io, <-h.e];rfl⟩
theorem ahJ (h:TZ sp i o)(i1:i<=sp.length)(i2:(sp.length:Int)<=i):Oz es sp lg 0 o:=⟨bK,by rw[h.e,show i.toNat=sp.length from by omega];simp[oF],Zg _⟩
theorem ae9 (h:Oz es sp lg j o)(g:yN lg j=true):TY es sp lg j 0 o:=⟨h.ok,g,bK,by rw[h.e];simp[rJ],h.l⟩
theorem afa (h:TY es sp lg j k o)(k0:0<=k)(g:(fpg es (ab lg j 0+k)).length=1):TY es sp lg j (k+1) (o++[[.i (ab lg j 0+k)]]):=
 ⟨h.ok,h.h,RF h.g g,by rw[A5 k0, <-Zm,io, <-h.e];rfl,h.l⟩
theorem afc (h:TY es sp lg j k o)(j0:0<=j)(n0:0<=ab lg j 1)(n1:ab lg j 1<=64)(k1:k<=ab lg j 1)(k2:ab lg j 1<=k):Oz es sp lg (j+1) o:=by
 have l:=h.l;refine⟨aZ h.ok (ad2 h.h h.g k2 n0),?_,?_⟩
 ·rw[h.e,show k.toNat=(ab lg j 1).toNat from by omega,Zm, <-sQ j0]
 ·rw[sQ j0,Ze,uy];omega
theorem ahI (h:TY es sp lg j k o)(k1:k<=64):o.length<=sp.length+64*j.toNat+64:=by
 have l:=h.l;rw[h.e,cn,Ze,Ze,rO,uy];omega
theorem Qc (h:Oz es sp lg j o)(j1:j<=lg.length)(j2:(lg.length:Int)<=j):o=jo (yJ sp lg):=by
 have e:=h.e;rw[show j.toNat=lg.length from by omega]at e;exact e
theorem SK (hl:layOk sp lg=true){x:Int}(h:x∈yJ sp lg):0<=x/\x<=31:=by
 have F:=MW hl;unfold yJ at h;rw[Zf,pB,rG]at h;rcases h with⟨i,i1,e⟩|⟨j,j1,e1,e2⟩
 ·have t:=ku (F.s i i1);omega
 ·have t:=kn (F.l j j1);have b:=lL t.1;omega
theorem afb (hl:layOk sp lg=true)(h:Oz es sp lg j o)(j1:j<=lg.length)(j2:(lg.length:Int)<=j)(hs:sp.length<=1073741824)(hg:lg.length<=1073741824):Rw [tI] o:=by
 have l:=h.l;rw[Qc h j1 j2];refine vT (fun x hx=>by have:=SK hl hx;omega) ?_;unfold yJ;rw[Ze,rO];rw[show j.toNat=lg.length from by omega]at l;omega
theorem ahK (h:Oz es sp lg j o)(j1:j<=lg.length)(j2:(lg.length:Int)<=j)(i0:0<=i)(i1:i<o.length)(g:(es.length:Int)<=ab o i 0):Nh es sp lg=false:=by
 have e:=Qc h j1 j2;rw[e]at i1 g;obtain⟨v,q1,q2⟩:=EU i0 i1;rw[q2]at g;exact aeC (Zw q1) g
theorem ahM (h:Oz es sp lg j o)(j1:j<=lg.length)(j2:(lg.length:Int)<=j)(g:upto (fun t=>decide (ab o t 0<es.length)) i)(i2:(o.length:Int)<=i):Nh es sp lg=true:=by
 have e:=Qc h j1 j2;refine VT (fun p hp=>?_);obtain⟨n,n1,rfl⟩:=Wg.1 hp;have n2:n<o.length:=by rw[e,cn];exact n1
 have q:=g n (by omega) (by omega);rw[VV,e,vS n1]at q;exact q
theorem ahL (h:Oz es sp lg j o)(j1:j<=lg.length)(j2:(lg.length:Int)<=j)(p:Int):hasB o p=ownB sp lg p:=by
 refine gW ?_;rw[Qc h j1 j2,rD];unfold ownB;rw[VV]
theorem aer (k0:0<=k)(k1:k<(fpg es (ab sp i 0)).length)(h:spI sp (ab (fpg es (ab sp i 0)) k 0)≠i)(g:spI sp (ab (fpg es (ab sp i 0)) k 0)<0):msA es sp i=false:=by
 unfold msA;exact bX k0 k1 (by unfold MX;rw[VU h,VU (by omega)];rfl)
theorem aes (k0:0<=k)(k1:k<(fpg es (ab sp i 0)).length)(h:spI sp (ab (fpg es (ab sp i 0)) k 0)≠i)(g:yj sp i (spI sp (ab (fpg es (ab sp i 0)) k 0))=false):msA es sp i=false:=by
 unfold msA;exact bX k0 k1 (by unfold MX;rw[VU h,g];simp)
theorem aej (h:spI sp (ab (fpg es (ab sp i 0)) k 0)=i):MX es sp i k=true:=by unfold MX;rw[VT h];rfl
theorem aek (h:0<=spI sp (ab (fpg es (ab sp i 0)) k 0))(g:yj sp i (spI sp (ab (fpg es (ab sp i 0)) k 0))=true):MX es sp i k=true:=by unfold MX;rw[VT h,g];simp
theorem afP {p:Int}(h:0<=spI sp p):spI sp p<sp.length:=by
 obtain⟨b,_⟩:=fM h;exact b
theorem Hp {a b:Int}:bO .and Za a b=bO .and Za b a:=by
 show YO Za ((ZS _ a&&&ZS _ b).toNat)=YO Za ((ZS _ b&&&ZS _ a).toNat);rw[BitVec.and_comm]
theorem Na:yj sp i j=yj sp j i:=by
 refine gW ?_;unfold yj mshB;simp only[Zc,VV];rw[Hp (a:=ab sp i 2)]
 constructor
 ·rintro⟨a,b,c,d,e⟩;exact⟨b,a,c.symm,fun h=>d h.symm,e⟩
 ·rintro⟨a,b,c,d,e⟩;exact⟨b,a,c.symm,fun h=>d h.symm,e⟩
theorem EH {es:aa}{f:Int}:∀ {n:Nat} {x:Int},hasB (yk es f n) x=true↔∃ k:Nat,k<n/\x=k/\ab es k 0≠0/\ab es k 1=f
 |0,x=>⟨fun h=>absurd (CV.1 h) (YA),fun⟨k,h,_⟩=>absurd h (XM _)⟩
 | n+1,x=>by
   by_cases c:ab es n 0≠0/\ab es n 1=f
   ·rw[JP c.1 c.2,PE,ZT,EH,PF]
    constructor
    ·rintro(⟨k,h,e⟩|e);exact⟨k,by omega,e⟩;exact⟨n,by omega,e.symm,c⟩
    ·rintro⟨k,h,e,q⟩;by_cases d:k=n
     ·subst d;exact .inr e.symm
     ·exact .inl ⟨k,by omega,e,q⟩
   ·have c':ab es n 0=0\/ab es n 1≠f:=by
     by_cases z:ab es n 0=0;exact .inl z;exact .inr (fun e=>c ⟨z,e⟩)
    rw[Nz c',EH]
    constructor
    ·rintro⟨k,h,e⟩;exact⟨k,by omega,e⟩
    ·rintro⟨k,h,e,q⟩;by_cases d:k=n
     ·subst d;exact absurd q c
     ·exact⟨k,by omega,e,q⟩
theorem yA {p x:Int}:hasB (fpg es p) x=true↔peM es p≠0/\0<=x/\x<es.length/\peM es x≠0/\peF es x=peF es p:=by
 by_cases c:peM es p=0
 ·rw[L5 c];exact⟨fun h=>absurd (CV.1 h) (YA),fun h=>absurd c h.1⟩
 ·rw[Jf c];unfold pagesOn;rw[EH]
  constructor
  ·rintro⟨k,h,rfl,q1,q2⟩;refine⟨c,by omega,by omega,?_,?_⟩
   ·unfold peM;rw[VW (by omega)];exact q1
   ·rw[show peF es k=ab es k 1 from by unfold peF;rw[VW (by omega)]];exact q2
  ·rintro⟨_,h0,h1,q1,q2⟩;refine⟨x.toNat,by omega,by omega,?_,?_⟩
   ·rw[Zt h0];unfold peM at q1;rw[VW (by omega)]at q1;exact q1
   ·rw[Zt h0];unfold peF at q2;rw[VW (c:=0<=x/\x<_) (by omega)]at q2;rw[q2];rfl
theorem Ei {l:aa}{x:Int}:hasB l x=true↔∃ k:Nat,k<l.length/\ab l k 0=x:=Jh
theorem NA (hl:layOk sp lg=true):pgI es fr sp lg=(pgS es fr sp lg&&smS es sp):=by
 have F:=MW hl;unfold pgI pgS;by_cases h1:cI (yN sp) sp.length=true
 case neg=>rw[Y1]at h1;rw[h1];rfl
 by_cases h2:cI (C4 es lg) lg.length=true
 case neg=>rw[Y1]at h2;rw[h2];simp
 by_cases h3:cI (Cn es fr sp lg) es.length=true
 case neg=>rw[Y1]at h3;rw[h3];simp
 by_cases h4:Nh es sp lg=true
 case neg=>rw[Y1]at h4;rw[h4];simp
 rw[h1,h2,h3,h4];simp only[Yy];have h4':=VY h4;have mp:∀ q:Int,0<=q->q<es.length->(peM es q≠0↔q∈yJ sp lg):=by
  intro q q0 q1;have e:=dh.1 h3 q q0 q1;unfold Cn at e;simp only[Zc,beq_iff_eq]at e;have e:=e.1;unfold mapB ownB at e
  constructor
  ·intro h;rw[VT h]at e;exact VY e.symm
  ·intro h;rw[VT h]at e;exact VY e
 have spg:∀ n:Nat,n<sp.length->ab sp n 0∈yJ sp lg:=fun n hn=>Zf.2 (.inl (pB.2 ⟨n,hn,rfl⟩))
 have spm:∀ n:Nat,n<sp.length->0<=ab sp n 0/\ab sp n 0<es.length/\peM es (ab sp n 0)≠0:=by
  intro n hn;have b:=SK hl (spg n hn);have c:=h4' _ (spg n hn);exact⟨b.1,c,(mp _ b.1 c).2 (spg n hn)⟩
 have sat:∀ n:Nat,n<sp.length->spI sp (ab sp n 0)=n:=by
  intro n hn;have q:=qQ (p:=isSp sp (ab sp n 0)) hn (tW rfl);obtain⟨q1,q2⟩:=fM q;obtain⟨m,e⟩:=Z5 q;have e':spI sp (ab sp n 0)=m:=e;rw[e]at q1 q2;have:=F.ss m n (by omega) hn (VY q2);rw[e',this]
 refine gW ?_;unfold smS;rw[dh,dh]
 constructor
 ·intro h i i0 i1;unfold msA;rw[dh];intro k k0 k1;obtain⟨ii,rfl⟩:=Z5 i0;obtain⟨kk,rfl⟩:=Z5 k0;have hx:hasB (fpg es (ab sp ii 0)) (ab (fpg es (ab sp ii 0)) kk 0)=true:=Ei.2 ⟨kk,by omega,rfl⟩;generalize hX:ab (fpg es (ab sp ii 0)) kk 0=x at hx;obtain⟨c1,c2,c3,c4,c5⟩:=yA.1 hx;have hp:=(mp x c2 c3).1 c4;unfold yJ at hp;rw[Zf,pB,rG]at hp;unfold MX;rw[hX];rcases hp with⟨n,n1,rfl⟩|⟨j,j1,e1,e2⟩
  ·rw[sat n n1];rcases XK n ii with c|c|c
   ·have q:=dh.1 (h ii (by omega) i1) n (by omega) (by omega);unfold KH at q;rw[c5,VT rfl]at q;rw[show yj sp ii n=true from by simpa using q,VT (p:=(0:Int)<=n) (by omega)];simp
   ·rw[c,VT rfl];rfl
   ·have q:=dh.1 (h n (by omega) (by omega)) ii (by omega) (by omega);unfold KH at q;rw[c5,VT rfl]at q;have q':yj sp n ii=true:=by simpa using q
    rw[Na,q',VT (p:=(0:Int)<=n) (by omega)];simp
  ·exfalso;have t:=kn (F.l j j1);have b:=lL t.1;have q:=dR h2 j j1;unfold C4 at q;simp only[Zc]at q;have q2:=dh.1 q.2 (x-ab lg j 0) (by omega) (by omega);rw[show ab lg j 0+(x-ab lg j 0)=x from by omega]at q2;have q3:=VY q2;have s1:=spm ii (by omega);have a1:hasB (fpg es x) x=true:=yA.2 ⟨c4,c2,c3,c4,rfl⟩;have a2:hasB (fpg es x) (ab sp ii 0)=true:=yA.2 ⟨c4,s1.1,s1.2.1,s1.2.2,c5.symm⟩;obtain⟨u,u1,u2⟩:=Ei.1 a1;obtain⟨v,v1,v2⟩:=Ei.1 a2;have:u=v:=by omega
   subst this;rw[u2]at v2;exact F.sl ii j (by omega) j1 (by omega) (by omega)
 ·intro h i i0 i1;unfold M2;rw[dh];intro j j0 j1;obtain⟨ii,rfl⟩:=Z5 i0;obtain⟨jj,rfl⟩:=Z5 j0;unfold KH;by_cases c:peF es (ab sp ii 0)=peF es (ab sp jj 0)
  case neg=>rw[VU c];rfl
  have s1:=spm ii (by omega);have s2:=spm jj (by omega);have a:hasB (fpg es (ab sp ii 0)) (ab sp jj 0)=true:=yA.2 ⟨s1.2.2,s2.1,s2.2.1,s2.2.2,c.symm⟩;obtain⟨k,k1,k2⟩:=Ei.1 a;have q:=h ii (by omega) i1;unfold msA at q;have q:=dR q k k1;unfold MX at q;rw[k2,sat jj (by omega),VU (p:=(jj:Int)=ii) (by omega)]at q;simp only[WX,Zc]at q;rw[q.2,WW]
end
end Go.V
namespace Go.V
def jobZ (k m:Int)(cs:aa)(ph nx:Int):Bool:=decide (ph=0)&&(decide (nx=0)&&(decide (k=0)&&(decide (m=0)&&decide (cs.length=0))))
def AO (sp:aa)(me:Bool)(k m:Int)(cs:aa)(ph nx:Int):Bool:=
 bif me then(jbOk k m cs ph nx&&(decide (0<=spI sp k)&&decide (0<=spI sp m)))else jobZ k m cs ph nx
def Rj (cs:aa)(i:Int):Bool:=caOk (aw cs i 0)
def hpI (a0 a1 a2:aa)(a3:Int)(a4 a5 a6 a7 a8 a9 aA aB:aa)(aC:Int)(aD:aa)(aE aF aG aH:Int)(aI:Bool)(aJ aK:Int)(aL:aa)(aM aN:Int):Bool:=
 kerOk a0 a1 a2 a3 a4&&(rgOk a2.length a5&&(layOk a6 a7&&(pgI a2 a5 a6 a7&&(mailOk aA aB&&(decide (a9.length=aA.length)&&(quarOk aC aD&&(cI (Rj a9) a9.length&&
  (objOk a6 a7 a8 a9 aH&&(hoI a6 a7 a8 a9 aA aB aD aF&&(inR aE 0 1073741823&&(inR aF 0 1000000&&(inR aG 0 1000&&(inR aH 1 1000000&&AO a6 aI aJ aK aL aM aN)))))))))))))
structure HpN (a0 a1 a2 a4 a5 a6 a7 a8 a9 aA aB aD aL:aa):Prop where
 n:OV a6 a7 a8 a9 aA aB aD
 c:Rw [.sl [tI]] a0
 u:Rw [tB] a1
 e:Rw [tI,tI] a2
 el:a2.length<=1073741824
 r:Rw [tI] a4
 f:Rw [tI,tI] a5
 fl:a5.length<=1073741824
 j:Rw [tI] aL
 jl:aL.length<=1073741824
section
variable {a0 a1 a2: aa} {a3: Int} {a4 a5 a6 a7 a8 a9 aA aB: aa} {aC: Int} {aD: aa} {aE aF aG aH: Int} {aI: Bool} {aJ aK: Int} {aL: aa} {aM aN: Int} {i: Int}
theorem adh (h:kerOk a0 a1 a2 a3 a4=false):hpI a0 a1 a2 a3 a4 a5 a6 a7 a8 a9 aA aB aC aD aE aF aG aH aI aJ aK aL aM aN=false:=by unfold hpI;rw[h];simp
theorem ado (h:rgOk a2.length a5=false):hpI a0 a1 a2 a3 a4 a5 a6 a7 a8 a9 aA aB aC aD aE aF aG aH aI aJ aK aL aM aN=false:=by unfold hpI;rw[h];simp
theorem adi (h:layOk a6 a7=false):hpI a0 a1 a2 a3 a4 a5 a6 a7 a8 a9 aA aB aC aD aE aF aG aH aI aJ aK aL aM aN=false:=by unfold hpI;rw[h];simp
theorem aa2 (h:pgI a2 a5 a6 a7=false):hpI a0 a1 a2 a3 a4 a5 a6 a7 a8 a9 aA aB aC aD aE aF aG aH aI aJ aK aL aM aN=false:=by unfold hpI;rw[h];simp
theorem adk (h:mailOk aA aB=false):hpI a0 a1 a2 a3 a4 a5 a6 a7 a8 a9 aA aB aC aD aE aF aG aH aI aJ aK aL aM aN=false:=by unfold hpI;rw[h];simp
theorem ahi (h:decide (a9.length=aA.length)=false):hpI a0 a1 a2 a3 a4 a5 a6 a7 a8 a9 aA aB aC aD aE aF aG aH aI aJ aK aL aM aN=false:=by unfold hpI;rw[h];simp
theorem adn (h:quarOk aC aD=false):hpI a0 a1 a2 a3 a4 a5 a6 a7 a8 a9 aA aB aC aD aE aF aG aH aI aJ aK aL aM aN=false:=by unfold hpI;rw[h];simp
theorem ahh (h:cI (Rj a9) a9.length=false):hpI a0 a1 a2 a3 a4 a5 a6 a7 a8 a9 aA aB aC aD aE aF aG aH aI aJ aK aL aM aN=false:=by unfold hpI;rw[h];simp
theorem aa1 (h:objOk a6 a7 a8 a9 aH=false):hpI a0 a1 a2 a3 a4 a5 a6 a7 a8 a9 aA aB aC aD aE aF aG aH aI aJ aK aL aM aN=false:=by unfold hpI;rw[h];simp
theorem aa0 (h:hoI a6 a7 a8 a9 aA aB aD aF=false):hpI a0 a1 a2 a3 a4 a5 a6 a7 a8 a9 aA aB aC aD aE aF aG aH aI aJ aK aL aM aN=false:=by unfold hpI;rw[h];simp
theorem adp (h:inR aE 0 1073741823=false):hpI a0 a1 a2 a3 a4 a5 a6 a7 a8 a9 aA aB aC aD aE aF aG aH aI aJ aK aL aM aN=false:=by unfold hpI;rw[h];simp
theorem adr (h:inR aF 0 1000000=false):hpI a0 a1 a2 a3 a4 a5 a6 a7 a8 a9 aA aB aC aD aE aF aG aH aI aJ aK aL aM aN=false:=by unfold hpI;rw[h];simp
theorem ads (h:inR aG 0 1000=false):hpI a0 a1 a2 a3 a4 a5 a6 a7 a8 a9 aA aB aC aD aE aF aG aH aI aJ aK aL aM aN=false:=by unfold hpI;rw[h];simp
theorem adt (h:inR aH 1 1000000=false):hpI a0 a1 a2 a3 a4 a5 a6 a7 a8 a9 aA aB aC aD aE aF aG aH aI aJ aK aL aM aN=false:=by unfold hpI;rw[h];simp
theorem R5 (h:(a9.length:Int)≠aA.length):hpI a0 a1 a2 a3 a4 a5 a6 a7 a8 a9 aA aB aC aD aE aF aG aH aI aJ aK aL aM aN=false:=ahi (VU (by omega))
theorem R4 (i0:0<=i)(i1:i<a9.length)(h:caOk (aw a9 i 0)=false):hpI a0 a1 a2 a3 a4 a5 a6 a7 a8 a9 aA aB aC aD aE aF aG aH aI aJ aK aL aM aN=false:=ahh (bX i0 i1 h)
theorem Mk (hk:kerOk a0 a1 a2 a3 a4=true)(hr:rgOk a2.length a5=true)(hl:layOk a6 a7=true)(hp:pgI a2 a5 a6 a7=true)(hm:mailOk aA aB=true)(hn:decide (a9.length=aA.length)=true)(hq:quarOk aC aD=true)(hc:cI (Rj a9) a9.length=true)(ho:objOk a6 a7 a8 a9 aH=true)(hh:hoI a6 a7 a8 a9 aA aB aD aF=true)(hs:inR aE 0 1073741823=true)(ht:inR aF 0 1000000=true)(hw:inR aG 0 1000=true)(hx:inR aH 1 1000000=true):hpI a0 a1 a2 a3 a4 a5 a6 a7 a8 a9 aA aB aC aD aE aF aG aH aI aJ aK aL aM aN=AO a6 aI aJ aK aL aM aN:=by unfold hpI;rw[hk,hr,hl,hp,hm,hn,hq,hc,ho,hh,hs,ht,hw,hx];rfl
structure HpT (a0 a1 a2:aa)(a3:Int)(a4 a5 a6 a7 a8 a9 aA aB:aa)(aC:Int)(aD:aa)(aE aF aG aH:Int)(aI:Bool)(aJ aK:Int)(aL:aa)(aM aN:Int):Prop where
 k:kerOk a0 a1 a2 a3 a4=true
 r:rgOk a2.length a5=true
 l:layOk a6 a7=true
 p:pgI a2 a5 a6 a7=true
 m:mailOk aA aB=true
 n:decide (a9.length=aA.length)=true
 q:quarOk aC aD=true
 c:cI (Rj a9) a9.length=true
 o:objOk a6 a7 a8 a9 aH=true
 h:hoI a6 a7 a8 a9 aA aB aD aF=true
 s:inR aE 0 1073741823=true
 t:inR aF 0 1000000=true
 w:inR aG 0 1000=true
 x:inR aH 1 1000000=true
 j:AO a6 aI aJ aK aL aM aN=true
theorem jg (h:hpI a0 a1 a2 a3 a4 a5 a6 a7 a8 a9 aA aB aC aD aE aF aG aH aI aJ aK aL aM aN=true):HpT a0 a1 a2 a3 a4 a5 a6 a7 a8 a9 aA aB aC aD aE aF aG aH aI aJ aK aL aM aN:=by
 unfold hpI at h;simp only[Zc]at h;obtain⟨hk,hr,hl,hp,hm,hn,hq,hc,ho,hh,hs,ht,hw,hx,hj⟩:=h;exact⟨hk,hr,hl,hp,hm,hn,hq,hc,ho,hh,hs,ht,hw,hx,hj⟩
theorem R8 (h:jbOk aJ aK aL aM aN=false):false=AO a6 true aJ aK aL aM aN:=by unfold AO;rw[h];rfl
theorem R9 (h:spI a6 aJ<0):false=AO a6 true aJ aK aL aM aN:=by unfold AO;rw[VU (p:=0<=spI a6 aJ) (by omega)];simp
theorem Sc (h:jbOk aJ aK aL aM aN=true)(g:0<=spI a6 aJ):dA .geq (spI a6 aK) 0=AO a6 true aJ aK aL aM aN:=by unfold AO;rw[h,VT g];rfl
theorem afR (h:cI (sA aD aF) aD.length=false)(hl:layOk a6 a7=true)(ho:objOk a6 a7 a8 a9 aH=true):hoI a6 a7 a8 a9 aA aB aD aF=false:=by rw[Mi hl ho,h,Yb]
theorem adq (i0:0<=i)(i1:i<aD.length)(h:aF<ab aD i 2)(hl:layOk a6 a7=true):hpI a0 a1 a2 a3 a4 a5 a6 a7 a8 a9 aA aB aC aD aE aF aG aH aI aJ aK aL aM aN=false:=by
 by_cases ho:objOk a6 a7 a8 a9 aH=true;exact aa0 (afR (bX i0 i1 (by unfold sA;exact VU (by omega))) hl ho);exact aa1 (by simpa using ho)
theorem adm (hl:layOk a6 a7=true)(h:pgS a2 a5 a6 a7=false):hpI a0 a1 a2 a3 a4 a5 a6 a7 a8 a9 aA aB aC aD aE aF aG aH aI aJ aK aL aM aN=false:=aa2 (by rw[NA hl,h];rfl)
theorem adl (hl:layOk a6 a7=true)(h:smS a2 a6=false):hpI a0 a1 a2 a3 a4 a5 a6 a7 a8 a9 aA aB aC aD aE aF aG aH aI aJ aK aL aM aN=false:=aa2 (by rw[NA hl,h,Yb])
theorem adg (hl:layOk a6 a7=true)(ho:objOk a6 a7 a8 a9 aH=true)(h:hoS a6 a7 a8 a9 aA aB aD=false):hpI a0 a1 a2 a3 a4 a5 a6 a7 a8 a9 aA aB aC aD aE aF aG aH aI aJ aK aL aM aN=false:=aa0 (by rw[Mi hl ho,h];rfl)
theorem ahC (hl:layOk a6 a7=true)(h:pgS a2 a5 a6 a7=true)(g:smS a2 a6=true):pgI a2 a5 a6 a7=true:=by rw[NA hl,h,g];rfl
theorem ahg (hl:layOk a6 a7=true)(ho:objOk a6 a7 a8 a9 aH=true)(h:hoS a6 a7 a8 a9 aA aB aD=true)(i2:(aD.length:Int)<=i)(g:upto (sA aD aF) i):hoI a6 a7 a8 a9 aA aB aD aF=true:=by rw[Mi hl ho,h,bN g i2];rfl
theorem ah6 (h:ab aD i 2<=aF):sA aD aF i=true:=VT h
end
end Go.V
namespace Go.V
theorem aeE {sp lg:aa}{a s:Int}(h:okO sp lg a s=true):0<=a/\a<=2000/\1<=s/\s<=1000:=by
 unfold okO at h;simp only[Zc,ZT,VV]at h;obtain⟨_,⟨k,c⟩|⟨k,c⟩⟩:=h
 ·have e:=FU k;have q:0<=hD sp a:=by
   unfold dnK at k;by_cases w:0<=hD sp a;exact w
   ·rw[VX w]at k;split at k<;>omega
  have t:=(fM q).2;change BI sp a (hD sp a)=true at t;obtain⟨t1,t2,t3⟩:=sX.1 (Be.1 t);have hs:=ku t1;have hk:=bH.1 hs.2.2.1;have w:dnI sp lg a=hD sp a:=by unfold dnI;rw[VW q]
  rw[w]at c;have b:=Rn (s:=s) (by omega);omega
 ·have q:¬ 0<=hD sp a:=fun w=>by
   unfold dnK at k;rw[VW w]at k;split at k<;>omega
  have g:0<=ni lg a:=by
   unfold dnK at k;rw[VX q]at k;by_cases w:0<=ni lg a;exact w
   ·rw[VX w]at k;omega
  have t:=(fM g).2;change BG lg a (ni lg a)=true at t;have w:dnI sp lg a=ni lg a:=by unfold dnI;rw[VX q,VW g]
  rw[w]at c;unfold BG lhB at t;rw[Zc]at t;obtain⟨t1,t2,t3,t4⟩:=kn t.1;have u:=bH.1 t.2;have v:=bH.1 t1;have pf:0<=ab lg (ni lg a) 1:=by rw[t2];unfold pfN;split<;>omega
  omega
theorem aeB {sp lg os cs:aa}{nx i:Int}(h:objOk sp lg os cs nx=true)(i0:0<=i)(i1:i<os.length):0<=ab os i 1/\ab os i 1<=2000/\1<=ab os i 2/\ab os i 2<=1000:=by
 have t:=dh.1 h i i0 i1;unfold BH at t;simp only[Zc]at t;exact aeE t.2.2.2.2
structure ObB (os:aa):Prop where
 w:Rw [tI,tI,tI,tI] os
 l:os.length<=1099511627776
 b:∀ i:Int,0<=i->i<os.length->0<=ab os i 1/\ab os i 1<=2000/\1<=ab os i 2/\ab os i 2<=1000
end Go.V
namespace Go.V
end Go.V
namespace Go.V
end Go.V
namespace Go.V
theorem LP {sp lg:aa}{a:Int}(h:dnK sp lg a=1):dnI sp lg a=hD sp a/\0<=hD sp a/\hD sp a<sp.length/\Fq (ab sp (hD sp a) 0) (ab sp (hD sp a) 1) (ab sp (hD sp a) 2) a=true:=by
 have q:0<=hD sp a:=by
  unfold dnK at h;by_cases w:0<=hD sp a;exact w
  ·rw[VX w]at h;split at h<;>omega
 have t:=fM q;change hD sp a<sp.length/\BI sp a (hD sp a)=true at t;exact⟨by unfold dnI;rw[VW q],q,t.1,Be.1 t.2⟩
end Go.V
namespace Go.V
theorem O2 {a b:Int}:bO .and Za a b=(y7 a&&&y7 b).toInt:=Kl _
theorem acr {m:Nat}(h:m<65536):bO .and Za (m:Int) 1=((m%2:Nat):Int):=by
 rw[O2];have e:y7 (m:Int)&&&y7 1=BitVec.ofNat 64 (m%2):=by
  apply BitVec.eq_of_toNat_eq;unfold y7;rw[WY,XN,Xz,Xz];show(m%18446744073709551616)&&&1=_;rw[Nat.and_one_is_mod];omega
 rw[e,WZ (by rw[Xz];omega),Xz];omega
theorem afM {n t:Nat}(ht:t<=15):Qt .shr Za (n:Int) (t:Int)=((n/2^t:Nat):Int):=by
 show Int.fdiv (n:Int) (2^(min (t:Int).toNat 64))=_;rw[show min (t:Int).toNat 64=t by omega,Int.fdiv_eq_ediv_of_nonneg _ (Int.le_of_lt (Int.pow_pos (by omega)))];rw[Int.natCast_ediv,Int.natCast_pow];rfl
theorem HN {b:Int}{t:Nat}(hb:0<=b)(hb2:b<65536)(ht:t<=15):hsB b t=(y7 b).getLsbD t:=by
 obtain⟨n,rfl⟩:=Z5 hb;have hs:slB (n:Int) (t:Int)=true:=KS.2 ⟨by omega,by omega,by omega⟩;have hd:n/2^t<65536:=Nat.lt_of_le_of_lt (Nat.div_le_self _ _) (by omega);unfold hsB;rw[hs,afM ht,acr hd];unfold y7;rw[XN,W0,Nat.testBit_eq_decide_div_mod_eq];rw[VT (show t<64 by omega)];simp only[Yy];by_cases c:n/2^t%2=1
 ·rw[VT c,VT (by omega)]
 ·rw[VU c,VU (by omega)]
theorem EY {p k b:Int}(h:spOk p k b=true):0<=b/\b<65536:=by
 have t:=(ku h).2.2.2;unfold bmOk at t;simp only[Zc,bH]at t;obtain⟨⟨n0,n1⟩,b0,b1⟩:=t;have q:(2:Int)^(slN k).toNat<=2^16:=by
  have:=Nat.pow_le_pow_right (n:=2) (by omega) (show(slN k).toNat<=16 by omega)
  exact_mod_cast this
 have:(2:Int)^16=65536:=rfl;omega
end Go.V
namespace Go.V
structure PgT (es fr sp lg:aa):Prop where
 l:∀ j:Nat,j<lg.length->∀ q:Int,ab lg j 0<=q->q<ab lg j 0+ab lg j 1->(fpg es q).length=1
 m:∀ q:Int,0<=q->q<es.length->(peM es q≠0↔q∈yJ sp lg)
 o:∀ q∈yJ sp lg,q<es.length
 c:∀ i j:Nat,i<sp.length->j<sp.length->peF es (ab sp i 0)=peF es (ab sp j 0)->ab sp i 1=ab sp j 1
theorem pgT {es fr sp lg:aa}(h:pgI es fr sp lg=true):PgT es fr sp lg:=by
 unfold pgI at h;simp only[Zc]at h;obtain⟨h1,h2,h3,h4,h5⟩:=h;have half:∀ i j:Nat,i<sp.length->j<i->peF es (ab sp i 0)=peF es (ab sp j 0)->ab sp i 1=ab sp j 1:=fun i j hi hj e=>by
  have a:=dR h5 i hi;unfold M2 at a;have b:=dR a j (by omega);unfold KH at b;rw[VT e]at b;simp only[Bool.not_true,WX]at b;unfold yj mshB at b;simp only[Zc,VV]at b;exact b.2.2.1
 refine⟨fun j hj q q0 q1=>?_,fun q q0 q1=>?_,VY h4,fun i j hi hj e=>?_⟩
 ·have a:=dR h2 j hj;unfold C4 at a;rw[Zc]at a;have b:=dR a.2 (q-ab lg j 0).toNat (by omega);unfold RE at b;rw[show ab lg j 0+((q-ab lg j 0).toNat:Int)=q by omega]at b;exact VY b
 ·have a:=dR h3 q.toNat (by omega);rw[Zt q0]at a;unfold Cn at a;rw[Zc]at a;have b:=eq_of_beq a.1;unfold mapB ownB at b;by_cases c:peM es q≠0
  ·rw[VT c]at b;exact⟨fun _=>VY b.symm,fun _=>c⟩
  ·rw[VU c]at b;exact⟨fun x=>absurd x c,fun x=>absurd x (VZ b.symm)⟩
 ·by_cases c:i=j
  ·rw[c]
  ·by_cases d:j<i;exact half i j hi d e;exact(half j i hj (by omega) e.symm).symm
end Go.V
namespace Go.V
def poN (sp lg fl:aa):Nat->Int
 |0=>0
 |n+1=>poN sp lg fl n+clsSz (ab sp (dnI sp lg (ab fl n 0)) 1)
def ocF (s:Int):Int:=if 0<=clsOf s then clsSz (clsOf s)else s
def ocN (os:aa):Nat->Int
 |0=>0
 |n+1=>ocN os n+ocF (ab os n 2)
end Go.V
namespace Go.V
theorem LL {k:Int}(h:inR k 0 3=true):clsSz k=1\/clsSz k=2\/clsSz k=4\/clsSz k=8:=by
 have:=bH.1 h;unfold clsSz;repeat' split<;>omega
theorem Jd {c d:Int}(hc:c=1\/c=2\/c=4\/c=8)(d0:0<=d)(d1:d<=15)(h:d%c=0):d+c<=16:=by
 rcases hc with rfl|rfl|rfl|rfl<;>omega
theorem abJ {es fr sp lg:aa}{a s i:Int}(hl:layOk sp lg=true)(hp:pgI es fr sp lg=true)(h:okO sp lg a s=true)(i0:0<=i)(i1:i<s):0<=(a+i)/16/\(a+i)/16<es.length/\peM es ((a+i)/16)≠0:=by
 have F:=MW hl;have T:=pgT hp
 suffices h:0<=(a+i)/16/\(a+i)/16∈yJ sp lg from⟨h.1,T.o _ h.2,(T.m _ h.1 (T.o _ h.2)).2 h.2⟩
 unfold okO at h;simp only[Zc,ZT,VV]at h;obtain⟨o,⟨k,c⟩|⟨k,c⟩⟩:=h
 ·obtain⟨e,q,l,t⟩:=LP k;obtain⟨t1,t2,t3⟩:=sX.1 t;obtain⟨e1,e2⟩:=vU t;have hs:=ku t1;rw[e]at c;have b:=Rn (s:=s) (by have:=bH.1 hs.2.2.1;omega);rw[<-c]at b;have o':Qv sp a (hD sp a)=0:=by rw[<- (aaw (lg:=lg) q).2];exact o
  unfold Qv at o';rw[e2]at o';have fit:=Jd (LL hs.2.2.1) (by omega) (by omega) o';have p:(a+i)/16=ab sp (hD sp a) 0:=by omega
  rw[p];refine⟨hs.1,Zf.2 (.inl (pB.2 ⟨(hD sp a).toNat,by omega,?_⟩))⟩;rw[Zt q]
 ·have q:¬ 0<=hD sp a:=fun w=>by
   unfold dnK at k;rw[VW w]at k;split at k<;>omega
  have g:0<=ni lg a:=by
   unfold dnK at k;rw[VX q]at k;by_cases w:0<=ni lg a;exact w
   ·rw[VX w]at k;omega
  have t:=fM g;change ni lg a<lg.length/\BG lg a (ni lg a)=true at t;have w:dnI sp lg a=ni lg a:=by unfold dnI;rw[VX q,VW g]
  rw[w]at c;rw[(aav q g).2]at o;obtain⟨tl,tt⟩:=t;unfold loA loI at o;unfold BG at tt;rw[VW tt]at o;unfold lhB at tt;rw[Zc]at tt;obtain⟨t1,t2,t3,t4⟩:=kn tt.1;have v:ab lg (ni lg a) 1=(ab lg (ni lg a) 2+15)/16:=by rw[t2];unfold pfN;rw[VW t1]
  refine⟨by omega,Zf.2 (.inr (rG.2 ⟨(ni lg a).toNat,by omega,?_,?_⟩))⟩
  ·rw[Zt g];omega
  ·rw[Zt g];omega
end Go.V
namespace Go.V
def ceI (cs es:aa)(a:Int):Int:=ab (aw cs (peF es (a/16)) 0) (a%16) 0
def clN (cs es:aa)(a:Int):Nat->aa
 |0=>[]
 |n+1=>clN cs es a n++[[.i (ceI cs es (a+n))]]
structure ClP (cs es:aa)(a i:Int)(o:aa):Prop where
 e:o=clN cs es a i.toNat
structure ObC (cs es os:aa):Prop where
 b:ObB os
 f:∀ j:Int,0<=j->j<os.length->∀ i:Int,0<=i->i<ab os j 2->0<=peF es ((ab os j 1+i)/16)/\peF es ((ab os j 1+i)/16)<cs.length/\(aw cs (peF es ((ab os j 1+i)/16)) 0).length=16
end Go.V
namespace Go.V
end Go.V
namespace Go.V
def Qp (k b:Int):Nat->aa
 |0=>[]
 |n+1=>if hsB b ((n:Int)/clsSz k)=true then Qp k b n++[[.i n]]else Qp k b n
def ah8 (p k b:Int):aa:=if spOk p k b=true then Qp k b 16 else[]
structure ail (k b i:Int)(o:aa):Prop where
 e:o=Qp k b i.toNat
def scS (sp:aa):Nat->Int
 |0=>0
 |n+1=>scS sp n+(ah8 (ab sp n 0) (ab sp n 1) (ab sp n 2)).length
def lgS (lg:aa):Nat->Int
 |0=>0
 |n+1=>lgS lg n+ab lg n 2
def aak (ls:aa):Nat->Int
 |0=>0
 |n+1=>aak ls n+(aw ls n 0).length*clsSz n
end Go.V
namespace Go.V
structure MkP (f:Int->Bool)(o:aa):Prop where
 w:Rw [tB] o
 l:o.length=16
 v:∀ c:Int,0<=c->c<16->ua o c 0=f c
end Go.V
namespace Go.V
theorem acx {ls:aa}(h:caOk ls=true):ls.length=4/\∀ n:Nat,n<4->(aw ls n 0).length<=8:=by
 unfold caOk at h;simp only[Zc,VV]at h;refine⟨h.1,fun n hn=>?_⟩;have t:=dh.1 h.2.1 n (by omega) (by omega);unfold Ra at t;simp only[Zc,VV]at t;exact t.1
def ceC (ls:aa):Int:=if caOk ls=true then aak ls ls.length else 0
structure aii (ls:aa)(i t:Int):Prop where
 e:t=aak ls i.toNat
def acN (cs:aa):Nat->Int
 |0=>0
 |n+1=>acN cs n+ceC (aw cs n 0)
structure AcP (cs:aa)(i t:Int):Prop where
 e:t=acN cs i.toNat
structure OcP (os:aa)(i t:Int):Prop where
 e:t=ocN os i.toNat
structure PoP (sp lg fl:aa)(i t:Int):Prop where
 e:t=poN sp lg fl i.toNat
structure aim (sp:aa)(i t:Int):Prop where
 e:t=scS sp i.toNat
structure aik (sp lg:aa)(i t:Int):Prop where
 e:t=scS sp sp.length+lgS lg i.toNat
def zlI (es:aa):Int:=es.length
end Go.V
namespace Go.V
section
variable {r0 r1 r2 r3 r4 r5 r6 r7 r8 r9 r10 r11 r12: aa}
theorem FL {n:Nat}(h:aQ [r0,r1,r2,r3,r4,r5,r6,r7,r8,r9,r10,r11,r12]<=n):ak r0<=n/\ak r1<=n/\ak r2<=n/\ak r3<=n/\ak r4<=n/\ak r5<=n/\ak r6<=n/\ak r7<=n/\ak r8<=n/\ak r9<=n/\ak r10<=n/\ak r11<=n/\ak r12<=n:=⟨gp h (by simp),gp h (by simp),gp h (by simp),gp h (by simp),gp h (by simp),gp h (by simp),gp h (by simp),gp h (by simp),gp h (by simp),gp h (by simp),gp h (by simp),gp h (by simp),gp h (by simp)⟩
theorem Sv (h0:Rw [.sl [tI]] r0)(h1:Rw [tB] r1)(h2:Rw [tI,tI] r2)(h3:Rw [tI] r3)(h4:Rw [tI,tI] r4)(h5:Rw [tI,tI,tI] r5)(h6:Rw [tI,tI,tI] r6)(h7:Rw [tI,tI,tI,tI] r7)(h8:Rw [.sl [.sl [tI]]] r8)(h9:Rw [.sl [tI,tI]] r9)(h10:Rw [.sl [tI]] r10)(h11:Rw [tI,tI,tI] r11)(h12:Rw [tI] r12)(hc:aQ [r0,r1,r2,r3,r4,r5,r6,r7,r8,r9,r10,r11,r12]<=1099511627776):be [r0,r1,r2,r3,r4,r5,r6,r7,r8,r9,r10,r11,r12] 1<=1152921504606846976:=MY (by intro r hr;simp only[Zl,YA,or_false]at hr;rcases hr with rfl|rfl|rfl|rfl|rfl|rfl|rfl|rfl|rfl|rfl|rfl|rfl|rfl;exact h0.marks (by decide);exact h1.marks (by decide);exact h2.marks (by decide);exact h3.marks (by decide);exact h4.marks (by decide);exact h5.marks (by decide);exact h6.marks (by decide);exact h7.marks (by decide);exact h8.marks (by decide);exact h9.marks (by decide);exact h10.marks (by decide);exact h11.marks (by decide);exact h12.marks (by decide)) hc
def mkQ (p:List aa):List aa->Prop
 |[]=>True
 |r::rs=>dY r (be p 1)=dY r (be (Gn p 1) 1)/\mkQ (p++[r]) rs
theorem M4:∀ (p rs:List aa),mkQ p rs
 |_,[]=>True.intro
 |p,_::rs=>⟨congrArg _ AP.symm,M4 (p++_) rs⟩
theorem ahz (h0:Rw [.sl [tI]] r0)(h1:Rw [tB] r1)(h2:Rw [tI,tI] r2)(h3:Rw [tI] r3)(h4:Rw [tI,tI] r4)(h5:Rw [tI,tI,tI] r5)(h6:Rw [tI,tI,tI] r6)(h7:Rw [tI,tI,tI,tI] r7)(h8:Rw [.sl [.sl [tI]]] r8)(h9:Rw [.sl [tI,tI]] r9)(h10:Rw [.sl [tI]] r10)(h11:Rw [tI,tI,tI] r11)(h12:Rw [tI] r12)(hc:aQ [r0,r1,r2,r3,r4,r5,r6,r7,r8,r9,r10,r11,r12]<=1099511627776):be [r0,r1,r2,r3,r4,r5,r6,r7,r8,r9,r10,r11,r12] 1<=1152921504606846976/\mkQ [r0] [r1,r2,r3,r4,r5,r6,r7,r8,r9,r10,r11,r12]/\be (Gn [r0,r1,r2,r3,r4,r5,r6,r7,r8,r9,r10,r11,r12] 1) 1=be [r0,r1,r2,r3,r4,r5,r6,r7,r8,r9,r10,r11,r12] 1/\(ak r0<=1099511627776/\ak r1<=1099511627776/\ak r2<=1099511627776/\ak r3<=1099511627776/\ak r4<=1099511627776/\ak r5<=1099511627776/\ak r6<=1099511627776/\ak r7<=1099511627776/\ak r8<=1099511627776/\ak r9<=1099511627776/\ak r10<=1099511627776/\ak r11<=1099511627776/\ak r12<=1099511627776):=
 ⟨Sv h0 h1 h2 h3 h4 h5 h6 h7 h8 h9 h10 h11 h12 hc,M4 _ _,AP,FL hc⟩
end
end Go.V
namespace Go.V
def dlT (b:aa)(f:Int):Int:=ab (aw b f 0) 0 0
structure DlT (b x:aa)(f:Int):Prop where
 m:mailOk b x=true
 f0:0<=f
 f1:f<b.length
 n:0<(aw b f 0).length
 t0:0<=dlT b f
 t1:dlT b f<b.length
 l:x.length=b.length
end Go.V
namespace Go.V
structure HsT (cs us es:aa)(a:Int):Prop where
 a0:0<=a
 m:smM cs us es a=peM es (a/16)
 f:smF cs us es a=peF es (a/16)
 n:smM cs us es a≠0
section
variable {a0 a1 a2: aa} {a3: Int} {a4 a5 a6 a7 a8 a9 aA aB: aa} {aC: Int} {aD: aa} {aE aF aG aH: Int} {aI: Bool} {aJ aK: Int} {aL: aa} {aM aN: Int}
end
end Go.V
namespace Go.V
abbrev Pr :=Int×Int
def CZ (o:List Pr)(x:Pr):List Pr:=match o.getLast? with
 |some y=>if y.1+y.2=x.1 then o.dropLast++[(y.1,y.2+x.2)]else o++[x]
 |none=>o++[x]
def jnL (l:List Pr):List Pr:=l.foldl CZ []
structure Ip where
 o:List Pr
 r:Pr
 d:Bool
def CY (s:Ip)(x:Pr):Ip:=
 if x.1+x.2=s.r.1 then⟨s.o,(x.1,x.2+s.r.2),s.d⟩
 else if s.r.1+s.r.2=x.1 then⟨s.o,(s.r.1,s.r.2+x.2),s.d⟩
 else if s.r.1<x.1/\s.d=false then⟨s.o++[s.r,x],s.r,true⟩
 else⟨s.o++[x],s.r,s.d⟩
def ipE (s:Ip):List Pr:=if s.d then s.o else s.o++[s.r]
def ipL (l:List Pr)(r:Pr):List Pr:=ipE (l.foldl CY ⟨[],r,false⟩)
structure Sp where
 o:List Pr
 d:Bool
def uC (r:Pr)(s:Sp)(x:Pr):Sp:=if s.d=false/\r.1<x.1 then⟨s.o++[r]++[x],true⟩else⟨s.o++[x],s.d⟩
def Ql (r:Pr)(s:Sp):List Pr:=if s.d then s.o else s.o++[r]
def rsL (l:List Pr)(r:Pr):List Pr:=jnL (Ql r (l.foldl (uC r) ⟨[],false⟩))
def CB:List Pr->Prop
 |[]=>True
 |[x]=>0<x.2
 |x::y::l=>0<x.2/\x.1+x.2<y.1/\CB (y::l)
theorem vy {x:Pr}{l:List Pr}(h:CB (x::l)):CB l:=by
 cases l with
 |nil=>trivial
 |cons y l=>exact h.2.2
theorem Al {x:Pr}{l:List Pr}(h:CB (x::l)):0<x.2:=by
 cases l with
 |nil=>exact h
 |cons y l=>exact h.1
theorem vu {x:Pr}:∀ {l:List Pr},CB (x::l)->∀ y∈l,x.1+x.2<y.1
 |[],_,y,hy=>by cases hy
 | z::l,h,y,hy=>by
   rcases Zl.1 hy with rfl|hy;exact h.2.1
   ·have:=vu h.2.2 y hy;have:=Al h.2.2;have:=h.2.1;omega
theorem AM {o:List Pr}{x:Pr}(h:∀ y,o.getLast?=some y->y.1+y.2≠x.1):CZ o x=o++[x]:=by
 unfold CZ;split
 ·rename_i y e;rw[VX (h y e)]
 ·rfl
theorem Ep {o:List Pr}{y x:Pr}(h:y.1+y.2=x.1):CZ (o++[y]) x=o++[(y.1,y.2+x.2)]:=by
 unfold CZ;rw[Wh,Wi];simp only[Option.some_or,VW h,List.dropLast_concat]
theorem abj {o:List Pr}{y x:Pr}(h:y.1+y.2≠x.1):CZ (o++[y]) x=o++[y]++[x]:=AM (by
 intro z hz;rw[Wh,Wi]at hz;simp at hz;subst hz;exact h)
theorem AN:∀ {l o:List Pr} {y:Pr},CB (y::l)->l.foldl CZ (o++[y])=o++[y]++l
 |[],o,y,_=>by simp
 | x::l,o,y,h=>by
   have e:y.1+y.2<x.1:=h.2.1;rw[ZK,abj (by omega),AN (vy h)];simp
theorem Jm:∀ {l:List Pr} {o:List Pr} {r:Pr},(∀ y∈l,r.1+r.2<y.1/\r.1<y.1+y.2)->l.foldl CY ⟨o,r,true⟩=⟨o++l,r,true⟩
 |[],o,r,_=>by simp
 | x::l,o,r,h=>by
   have e:=h x (by simp);rw[ZK];have s:CY ⟨o,r,true⟩ x=⟨o++[x],r,true⟩:=by
    unfold CY;rw[VX (by show¬ x.1+x.2=r.1;omega),VX (by show¬ r.1+r.2=x.1;omega),VX (by simp)]
   rw[s,Jm (fun y hy=>h y (by simp[hy]))];simp
theorem yv:∀ {l:List Pr},CB l->∀ y∈l,0<y.2
 |[],_,y,hy=>by cases hy
 | x::l,h,y,hy=>by
   rcases Zl.1 hy with rfl|hy;exact Al h;exact yv (vy h) y hy
theorem Mw {l o:List Pr}{r x:Pr}(h:CB (x::l))(e:r.1+r.2<x.1)(p:0<r.2):ipE ((x::l).foldl CY ⟨o,r,false⟩)=o++[r]++(x::l):=by
 have q:=Al h;have s:CY ⟨o,r,false⟩ x=⟨o++[r,x],r,true⟩:=by
  unfold CY;rw[VX (by show¬ x.1+x.2=r.1;omega),VX (by show¬ r.1+r.2=x.1;omega),VW (by exact⟨by show r.1<x.1;omega,rfl⟩)]
 rw[ZK,s,Jm (fun y hy=>by have:=vu h y hy;have:=yv h y (by simp[hy]);constructor<;>omega)];simp[ipE]
theorem aal {x y:Pr}{l:List Pr}(h:CB (x::l))(p:0<y.2)(e:y.1+y.2=x.1+x.2):CB (y::l):=by
 cases l with
 |nil=>exact p
 |cons z l=>exact⟨p,by have:=h.2.1;omega,h.2.2⟩
theorem Ph {y x:Pr}{l:List Pr}(h:CB (x::l))(p:0<y.2)(e:y.1+y.2<x.1):CB (y::x::l):=⟨p,e,h⟩
theorem Gd {l o:List Pr}{r:Pr}(h:CB l)(p:0<r.2)(a:∀ y∈l,r.1+r.2<=y.1):ipE (l.foldl CY ⟨o,r,false⟩)=l.foldl CZ (o++[r]):=by
 cases l with
 |nil=>rfl
 | cons x l=>
   have ax:=a x (by simp);by_cases e:r.1+r.2=x.1
   ·have q:=Al h;have s:CY ⟨o,r,false⟩ x=⟨o,(r.1,r.2+x.2),false⟩:=by
     unfold CY;rw[VX (by show¬ x.1+x.2=r.1;omega),VW (by exact e)]
    rw[ZK,ZK,s,Ep e];cases l with
    |nil=>rfl
    | cons y l=>
      have d:=h.2.1;rw[Mw h.2.2 (by show r.1+(r.2+x.2)<y.1;omega) (by show 0<r.2+x.2;omega),AN (aal h (by show 0<r.2+x.2;omega) (by show r.1+(r.2+x.2)=x.1+x.2;omega))]
   ·rw[Mw h (by omega) p,AN (Ph h p (by omega))]
theorem Ir {r:Pr}:∀ {l a:List Pr},Ql r (l.foldl (uC r) ⟨a,false⟩)=a++Ql r (l.foldl (uC r) ⟨[],false⟩)
 |[],a=>by simp[Ql]
 | x::l,a=>by
   have put:∀ (m b:List Pr),m.foldl (uC r) ⟨b,true⟩=⟨b++m,true⟩:=by
    intro m
    induction m with
    |nil=>intro b;simp
    | cons y m ih=>
      intro b;rw[ZK,show uC r ⟨b,true⟩ y=⟨b++[y],true⟩from by unfold uC;rw[VX (by simp)],ih];simp
   rw[ZK,ZK];by_cases c:r.1<x.1
   ·rw[show uC r ⟨a,false⟩ x=⟨a++[r]++[x],true⟩from by unfold uC;rw[VW ⟨rfl,c⟩],show uC r ⟨[],false⟩ x=⟨[]++[r]++[x],true⟩from by unfold uC;rw[VW ⟨rfl,c⟩],put,put];simp[Ql]
   ·rw[show uC r ⟨a,false⟩ x=⟨a++[x],false⟩from by unfold uC;rw[VX (fun q=>c q.2)],show uC r ⟨[],false⟩ x=⟨[]++[x],false⟩from by unfold uC;rw[VX (fun q=>c q.2)],Ir (a:=a++[x]),Ir (a:=[]++[x])];simp
theorem GB {r:Pr}{l:List Pr}(a:∀ y∈l,r.1<y.1):Ql r (l.foldl (uC r) ⟨[],false⟩)=r::l:=by
 cases l with
 |nil=>rfl
 | cons x l=>
   have put:∀ (m b:List Pr),m.foldl (uC r) ⟨b,true⟩=⟨b++m,true⟩:=by
    intro m
    induction m with
    |nil=>intro b;simp
    | cons y m ih=>
      intro b;rw[ZK,show uC r ⟨b,true⟩ y=⟨b++[y],true⟩from by unfold uC;rw[VX (by simp)],ih];simp
   rw[ZK,show uC r ⟨[],false⟩ x=⟨[]++[r]++[x],true⟩from by unfold uC;rw[VW ⟨rfl,a x (by simp)⟩],put];simp[Ql]
theorem NU {r:Pr}(p:0<r.2):∀ {l o:List Pr},CB l->(∀ x∈l,¬ (x.1<r.1+r.2/\r.1<x.1+x.2))->(∀ y,o.getLast?=some y->y.1+y.2<r.1/\∀ x∈l,y.1+y.2<x.1)->
 ipE (l.foldl CY ⟨o,r,false⟩)=(Ql r (l.foldl (uC r) ⟨[],false⟩)).foldl CZ o
 | [],o,_,_,ho=>by
   show o++[r]=CZ o r;rw[AM (fun y hy=>by have:=(ho y hy).1;omega)]
 | x::l,o,h,no,ho=>by
   have nx:=no x (by simp);have px:=Al h;by_cases c:r.1<x.1
   ·have af:∀ y∈x::l,r.1+r.2<=y.1:=fun y hy=>by
     have:=no y hy;have:=yv h y hy;rcases Zl.1 hy with rfl|q;omega
     ·have:=vu h y q;omega
    rw[Gd h p af,GB (fun y hy=>by have:=af y hy;omega),ZK (a:=r),AM (x:=r) (fun y hy=>by have:=(ho y hy).1;omega)]
   ·have e:x.1+x.2<=r.1:=by omega
    have jx:CZ o x=o++[x]:=AM (fun y hy=>by have:=(ho y hy).2 x (by simp);omega);have af:∀ y∈l,x.1+x.2<y.1:=vu h;rw[ZK,ZK (f:=uC r),show uC r ⟨[],false⟩ x=⟨[x],false⟩from by unfold uC;rw[VX (fun q=>c q.2)];rfl,Ir (a:=[x]),YQ,ZK,YR,jx];by_cases t:x.1+x.2=r.1
    ·rw[show CY ⟨o,r,false⟩ x=⟨o,(x.1,x.2+r.2),false⟩from by unfold CY;rw[VW (by exact t)]];have af2:∀ y∈l,r.1+r.2<=y.1:=fun y hy=>by
      have:=no y (by simp[hy]);have:=yv h y (by simp[hy]);have:=af y hy;omega
     rw[Gd (vy h) (by show 0<x.2+r.2;omega) (fun y hy=>by have:=af2 y hy;show x.1+(x.2+r.2)<=y.1;omega),GB (fun y hy=>by have:=af y hy;omega),ZK,Ep t]
    ·rw[show CY ⟨o,r,false⟩ x=⟨o++[x],r,false⟩from by unfold CY;rw[VX (by exact t),VX (by show¬ r.1+r.2=x.1;omega),VX (fun q=>c q.1)]];exact NU p (vy h) (fun y hy=>no y (by simp[hy])) (fun y hy=>by
      rw[Wh,Wi]at hy;simp at hy;subst hy;exact⟨by omega,af⟩)
theorem afo {r:Pr}{l:List Pr}(h:CB l)(p:0<r.2)(no:∀ x∈l,¬ (x.1<r.1+r.2/\r.1<x.1+x.2)):ipL l r=rsL l r:=NU p h no (fun y hy=>by cases hy)
end Go.V
namespace Go.V
structure rW (cs us es:aa):Prop where
 n0:1<=cs.length
 n1:cs.length<=32
 u:us.length=cs.length
 l:∀ i:Int,0<=i->i<cs.length->(aw cs i 0).length=16
 c:∀ i k:Int,0<=i->i<cs.length->0<=k->k<16->0<=ab (aw cs i 0) k 0/\ab (aw cs i 0) k 0<=999/\(ua us i 0=false->ab (aw cs i 0) k 0=0)
 e0:1<=es.length
 e1:es.length<=32
 e:∀ i:Int,0<=i->i<es.length->0<=ab es i 0/\ab es i 0<=2/\(ab es i 0=0->ab es i 1=0)/\(0<ab es i 0->0<=ab es i 1/\ab es i 1<cs.length)
 m:∀ i:Int,0<=i->i<cs.length->ua us i 0=gX es i
theorem abx {cs us es:aa}(h:machOk cs us es=true):rW cs us es:=by
 obtain⟨h1,h2,h3⟩:=aem h;have a:=Ax h1;have b:=Bo h2;refine⟨a.2.1,a.2.2,a.1,fun i i0 i1=>ac2 h1 i0 i1,fun i k i0 i1 k0 k1=>?_,b.1,b.2,fun i i0 i1=>afU h2 i0 i1,h3⟩;have q:=h1;unfold framesOk at q;simp only[Zc,VV]at q;have r:=dh.1 q.2 i i0 i1;unfold il at r;simp only[Zc,VV]at r;have s:=dh.1 r.2 k k0 (by omega);unfold nN at s;simp only[Zc,ZT,VV]at s;have t:=bH.1 s.1;refine⟨t.1,t.2,fun f=>?_⟩;rcases s.2 with w|w
 ·rw[f]at w;cases w
 ·exact w
theorem aby {cs us es:aa}(h:rW cs us es):machOk cs us es=true:=by
 have f:framesOk cs us=true:=L8 (i:=cs.length) (bH.2 ⟨by have:=h.n0;omega,by have:=h.n1;omega⟩) h.u (fun i i0 i1=>RI (k:=16) (h.l i i0 i1) (fun k k0 k1=>by
  have c:=h.c i k i0 i1 k0 k1;refine Rm (bH.2 ⟨c.1,c.2.1⟩) ?_;cases q:ua us i 0 with
  |true=>exact .inl rfl
  |false=>exact .inr (c.2.2 q)) (Yj _)) (Yj _)
 have t:tableOk es us.length=true:=by
  rw[Og (i:=es.length) (fun i i0 i1=>TD (by have:=h.e i i0 i1;rw[h.u];exact this)) (Yj _)];exact bH.2 ⟨by have:=h.e0;omega,by have:=h.e1;omega⟩
 exact H2 (i:=us.length) f t (fun i i0 i1=>M0 (h.m i i0 (by rw[h.u]at i1;exact i1))) (Yj _)
theorem M3 {es:aa}{f:Int}:∀ {n:Nat},0<(yk es f n).length↔∃ i:Nat,i<n/\ab es i 0≠0/\ab es i 1=f
 |0=>⟨fun h=>absurd h (Nat.lt_irrefl _),fun⟨i,h,_⟩=>absurd h (by omega)⟩
 | n+1=>by
   by_cases c:ab es n 0≠0/\ab es n 1=f
   ·rw[yk,VW c,Ze];exact⟨fun _=>⟨n,by omega,c⟩,fun _=>by simp only[Zn,Zr];omega⟩
   ·rw[yk,VX c,M3 (n:=n)]
    constructor
    ·rintro⟨i,h,q⟩;exact⟨i,by omega,q⟩
    ·rintro⟨i,h,q⟩;by_cases z:i=n
     ·subst z;exact absurd q c
     ·exact⟨i,by omega,q⟩
theorem uk {es:aa}{f:Int}:gX es f=true↔∃ i:Nat,i<es.length/\ab es i 0≠0/\ab es i 1=f:=Ev.trans M3
theorem Az {es:aa}{n i:Nat}{r:ay}(h:n<es.length):(es.set n r).getD i []=if i=n then r else es.getD i []:=by
 simp only[Zo,List.getElem?_set];by_cases c:n=i
 ·subst c;rw[VW rfl,VW h,VW rfl];rfl
 ·rw[VX c,VX (Ne.symm c)]
theorem RQ {es:aa}{n i:Int}{r:ay}{j:Nat}(n0:0<=n)(n1:n<es.length)(i0:0<=i):ab (es.set n.toNat r) i j=if i=n then PW (r.getD j .g)else ab es i j:=by
 unfold ab;rw[Az (by omega)];by_cases c:i=n
 ·rw[VW (by omega),VW c]
 ·rw[VX (by omega),VX c]
theorem gbS {es:aa}{n i:Int}{r:ay}{j:Nat}(n0:0<=n)(n1:n<es.length)(i0:0<=i):ua (es.set n.toNat r) i j=if i=n then lfB (r.getD j .g)else ua es i j:=by
 unfold ua;rw[Az (by omega)];by_cases c:i=n
 ·rw[VW (by omega),VW c]
 ·rw[VX (by omega),VX c]
theorem gsS {es:aa}{n i:Int}{r:ay}{j:Nat}(n0:0<=n)(n1:n<es.length)(i0:0<=i):aw (es.set n.toNat r) i j=if i=n then K7 (r.getD j .g)else aw es i j:=by
 unfold aw;rw[Az (by omega)];by_cases c:i=n
 ·rw[VW (by omega),VW c]
 ·rw[VX (by omega),VX c]
def Dn (es:aa)(p:Int):aa:=es.set p.toNat [.i 0,.i 0]
def dfU (us es:aa)(f:Int):aa:=if gX es f=true then us else us.set f.toNat [.v (.bool false)]
def dfC (cs es:aa)(f:Int):aa:=if gX es f=true then cs else cs.set f.toNat [.s 1 (pI 16 [.i 0])]
theorem PD {k:Int}(k0:0<=k)(k1:k<16):ab (pI 16 [.i 0]) k 0=0:=by
 show ab (ZU 16 [L.i 0]) k 0=0;unfold ab;rw[Zo (l:=ZU _ _),List.getElem?_replicate,VW (by omega)];rfl
theorem acM {cs us es es':aa}{f:Int}(h:rW cs us es)(f0:0<=f)(f1:f<cs.length)(l:es'.length=es.length) 
 (e:∀ i:Int,0<=i->i<es.length->0<=ab es' i 0/\ab es' i 0<=2/\(ab es' i 0=0->ab es' i 1=0)/\(0<ab es' i 0->0<=ab es' i 1/\ab es' i 1<cs.length))
 (m:∀ i:Int,0<=i->i<cs.length->i≠f->gX es' i=gX es i) (g:gX es' f=true->gX es f=true):rW (dfC cs es' f) (dfU us es' f) es':=by
 unfold dfC dfU;by_cases q:gX es' f=true
 ·rw[VW q,VW q];refine⟨h.n0,h.n1,h.u,h.l,h.c,by rw[l];exact h.e0,by rw[l];exact h.e1,fun i i0 i1=>e i i0 (by omega),fun i i0 i1=>?_⟩;by_cases c:i=f
  ·rw[c,q,h.m f f0 f1,g q]
  ·rw[m i i0 i1 c];exact h.m i i0 i1
 ·have hu:=h.u;rw[VX q,VX q];refine⟨by rw[ZE];exact h.n0,by rw[ZE];exact h.n1,by rw[ZE,ZE];exact h.u,fun i i0 i1=>?_,fun i k i0 i1 k0 k1=>?_,by rw[l];exact h.e0,by rw[l];exact h.e1,fun i i0 i1=>by rw[ZE];exact e i i0 (by omega),fun i i0 i1=>?_⟩
  ·rw[ZE]at i1;rw[gsS f0 f1 i0];split;rfl;exact h.l i i0 i1
  ·rw[ZE]at i1;rw[gsS f0 f1 i0,gbS f0 (by omega) i0];split
   ·show 0<=ab (pI 16 [.i 0]) k 0/\ab (pI 16 [.i 0]) k 0<=999/\(_->ab (pI 16 [.i 0]) k 0=0);rw[PD k0 k1];exact⟨by omega,by omega,fun _=>rfl⟩
   ·exact h.c i k i0 i1 k0 k1
  ·rw[ZE]at i1;rw[gbS f0 (by omega) i0];split
   ·rename_i c;subst c;show false=_;cases z:gX es' i with
    |false=>rfl
    |true=>exact absurd z q
   ·rename_i c;rw[m i i0 i1 c];exact h.m i i0 i1
theorem afW {cs us es:aa}{p:Int}(h:rW cs us es)(hp:peM es p≠0):rW (dfC cs (Dn es p) (peF es p)) (dfU us (Dn es p) (peF es p)) (Dn es p):=by
 have pr:0<=p/\p<es.length:=by
  by_cases c:0<=p/\p<es.length;exact c;exact absurd (JN c).1 hp
 have em:peM es p=ab es p 0:=by unfold peM;rw[VW pr]
 have ef:peF es p=ab es p 1:=by unfold peF;rw[VW pr]
 rw[em]at hp;have ep:=h.e p pr.1 pr.2;have fr:=ep.2.2.2 (by omega);rw[ef];have z:∀ i:Int,0<=i->ab (Dn es p) i 0=(if i=p then 0 else ab es i 0)/\ab (Dn es p) i 1=if i=p then 0 else ab es i 1:=fun i i0=>⟨RQ pr.1 pr.2 i0,RQ pr.1 pr.2 i0⟩
 have lu:(Dn es p).length=es.length:=ZE;have mp:∀ f:Int,gX (Dn es p) f=true↔∃ i:Nat,i<es.length/\(i:Int)≠p/\ab es i 0≠0/\ab es i 1=f:=fun f=>by
  rw[uk,lu]
  constructor
  ·rintro⟨i,i1,a,b⟩;rw[(z i (by omega)).1]at a;rw[(z i (by omega)).2]at b;by_cases c:(i:Int)=p
   ·rw[VW c]at a;exact absurd rfl a
   ·rw[VX c]at a b;exact⟨i,i1,c,a,b⟩
  ·rintro⟨i,i1,c,a,b⟩;exact⟨i,i1,by rw[(z i (by omega)).1,VX c];exact a,by rw[(z i (by omega)).2,VX c];exact b⟩
 refine acM h fr.1 fr.2 lu (fun i i0 i1=>?_) (fun i i0 i1 ne=>?_) (fun q=>?_)
 ·rw[(z i i0).1,(z i i0).2];split;exact⟨by omega,by omega,fun _=>rfl,fun q=>by omega⟩;exact h.e i i0 i1
 ·rw[Wk,mp,uk]
  constructor
  ·rintro⟨i,i1,_,a,b⟩;exact⟨i,i1,a,b⟩
  ·rintro⟨k,k1,a,b⟩;refine⟨k,k1,fun c=>?_,a,b⟩;rw[c]at b;exact ne b.symm
 ·obtain⟨i,i1,_,a,b⟩:=(mp _).1 q;exact uk.2 ⟨i,i1,a,b⟩
end Go.V
namespace Go.V
theorem Nv {es:aa}{p:Int}(h:peM es p≠0):(0<=p/\p<es.length)/\peM es p=ab es p 0/\peF es p=ab es p 1:=by
 have pr:0<=p/\p<es.length:=by
  by_cases c:0<=p/\p<es.length;exact c;exact absurd (JN c).1 h
 exact⟨pr,by unfold peM;rw[VW pr],by unfold peF;rw[VW pr]⟩
def seE (es:aa)(p m f:Int):aa:=es.set p.toNat [.i m,.i f]
theorem afN {cs us es:aa}{p f k v:Int}(h:rW cs us es)(hp:peM es p≠0)(ef':peF es p=f)(k0:0<=k)(k1:k<16)(v0:0<=v)(v1:v<=999):rW (wL cs f k v) us es:=by
 obtain⟨pr,em,ef⟩:=Nv hp;rw[em]at hp;have ep:=h.e p pr.1 pr.2;have fr:=ep.2.2.2 (by omega);rw[<-ef,ef']at fr;have used:ua us f 0=true:=by
  rw[h.m f fr.1 fr.2];obtain⟨n,rfl⟩:=Z5 pr.1;exact uk.2 ⟨n,by omega,hp,by rw[<-ef,ef']⟩
 have lf:=h.l f fr.1 fr.2;unfold wL;refine⟨by rw[ZE];exact h.n0,by rw[ZE];exact h.n1,by rw[ZE];exact h.u,fun i i0 i1=>?_,fun i j i0 i1 j0 j1=>?_,h.e0,h.e1,fun i i0 i1=>by rw[ZE];exact h.e i i0 i1,fun i i0 i1=>by rw[ZE]at i1;exact h.m i i0 i1⟩
 ·rw[ZE]at i1;rw[gsS fr.1 fr.2 i0];split
  ·show((aw cs f 0).set k.toNat _).length=16;rw[ZE,lf]
  ·exact h.l i i0 i1
 ·rw[ZE]at i1;rw[gsS fr.1 fr.2 i0];split
  ·rename_i c;subst c;show 0<=ab ((aw cs i 0).set k.toNat [.i v]) j 0/\ab ((aw cs i 0).set k.toNat [.i v]) j 0<=999/\(_->ab ((aw cs i 0).set k.toNat [.i v]) j 0=0);rw[RQ k0 (by omega) j0];have c:=h.c i j i0 i1 j0 j1;split;exact⟨v0,v1,fun q=>by rw[used]at q;cases q⟩;exact c
  ·exact h.c i j i0 i1 j0 j1
end Go.V
namespace Go.V
def aih (e:ay):Pr:=(PW (e.getD 0 .g),PW (e.getD 1 .g))
def na (es:aa):List Pr:=es.map aih
def frP (p:Pr):ay:=[.i p.1,.i p.2]
def rowP (l:List Pr):aa:=l.map frP
theorem nI {es:aa}:(na es).length=es.length:=YH _
theorem uB {l:List Pr}:(rowP l).length=l.length:=YH _
theorem fQ {es:aa}{i:Int}(i0:0<=i)(i1:i<es.length):(na es)[i.toNat]?=some (ab es i 0,ab es i 1):=by
 unfold na ab;rw[List.getElem?_map,Zo (l:=es),Zv (by omega)];rfl
theorem QF {es:aa}{x:Pr}(h:x∈na es):∃ i:Nat,i<es.length/\x=(ab es i 0,ab es i 1):=by
 obtain⟨i,hi,e⟩:=XJ h;rw[nI]at hi;refine⟨i,hi,?_⟩;have q:=fQ (es:=es) (i:=(i:Int)) (by omega) (by omega);rw[Zy,Zv (by rw[nI];exact hi)]at q;rw[<-e];exact Yz q
theorem yL {l:List Pr}(h:∀ x∈l,(-9223372036854775808<=x.1/\x.1<=9223372036854775807)/\(-9223372036854775808<=x.2/\x.2<=9223372036854775807))(n:l.length<=maxLen):Rw [tI,tI] (rowP l):=⟨by rw[uB];exact n,fun e he=>by
 obtain⟨x,hx,rfl⟩:=ZM.1 he;exact⟨⟨rfl,(h x hx).1⟩,⟨rfl,(h x hx).2⟩,trivial⟩⟩
theorem fJ {a b:List Pr}:rowP (a++b)=rowP a++rowP b:=YP
theorem LI:∀ {l:List Pr},(∀ x∈l,0<x.2)->(∀ i:Nat,i+1<l.length->∀ x y,l[i]?=some x->l[i+1]?=some y->x.1+x.2<y.1)->CB l
 |[],_,_=>trivial
 |[x],h,_=>h x (by simp)
 |x::y::l,h,g=>⟨h x (by simp),g 0 (by simp) x y rfl rfl,LI (fun z hz=>h z (by simp[hz])) (fun i hi a b ha hb=>g (i+1) (by simp at hi ⊢;omega) a b (by simpa using ha) (by simpa using hb))⟩
structure OB (n:Int)(rs:aa):Prop where
 n0:1<=n
 n1:n<=32
 c:CB (na rs)
 b:∀ x∈na rs,0<=x.1/\1<=x.2/\x.1+x.2<=n
theorem vN {n:Int}{rs:aa}(h:rgOk n rs=true):OB n rs:=by
 unfold rgOk at h;rw[Zc]at h;obtain⟨h1,h2⟩:=h;have r:=bH.1 h2;have at':∀ i:Int,0<=i->i<rs.length->(0<=ab rs i 0/\1<=ab rs i 1/\ab rs i 0+ab rs i 1<=n)/\(0<i->¬ ab rs i 0<=bO .add Za (ab rs (i-1) 0) (ab rs (i-1) 1)):=fun i i0 i1=>by
  have a:=dh.1 h1 i i0 i1;unfold vO at a;simp only[Zc,YB,Bool.and_eq_false_iff,decide_eq_false_iff_not]at a;have b:=a.1;unfold rngIn at b;simp only[Zc]at b;have b1:=bH.1 b.1;have b2:=bH.1 b.2;refine⟨by omega,fun p=>?_⟩;rcases a.2 with q|q;exact absurd p q;exact q
 have bd:∀ x∈na rs,0<=x.1/\1<=x.2/\x.1+x.2<=n:=fun x hx=>by
  obtain⟨i,hi,rfl⟩:=QF hx;exact(at' i (by omega) (by omega)).1
 refine⟨r.1,r.2,LI (fun x hx=>by have:=(bd x hx).2.1;omega) (fun i hi x y hx hy=>?_),bd⟩;rw[nI]at hi;have qx:=fQ (es:=rs) (i:=(i:Int)) (by omega) (by omega);have qy:=fQ (es:=rs) (i:=((i+1:Nat):Int)) (by omega) (by omega);rw[Zy]at qx qy;rw[hx]at qx;rw[hy]at qy;cases qx;cases qy;have a:=(at' ((i+1:Nat):Int) (by omega) (by omega)).2 (by omega);have b:=(at' (i:Int) (by omega) (by omega)).1;rw[show((i+1:Nat):Int)-1=(i:Int)by omega,bz (by omega)]at a;show ab rs i 0+ab rs i 1<_;omega
def Fp (x r:Pr):Bool:=decide (x.1<r.1+r.2)&&decide (r.1<x.1+x.2)
def rpB (n:Int)(rs:aa)(a l:Int):Bool:=rgOk n rs&&(rngIn n a l&&(na rs).all fun x=> !Fp x (a,l))
def rpL (n:Int)(rs:aa)(a l:Int):aa:=if rpB n rs a l=true then rowP (ipL (na rs) (a,l))else rs
structure Ho (rs:aa)(a0 l0 i:Int)(o:aa)(a l:Int)(d:Bool):Prop where
 s:∃ o',o=rowP o'/\((na rs).take i.toNat).foldl CY ⟨[],(a0,l0),false⟩=⟨o',(a,l),d⟩
 n:∀ x∈(na rs).take i.toNat,Fp x (a0,l0)=false
 v:∀ x∈(na rs).drop i.toNat,Fp x (a,l)=Fp x (a0,l0)
 b:0<=a/\1<=l/\a+l<=32
end Go.V
namespace Go.V
theorem FH:∀ {l:List Pr} {i:Nat} {y:Pr},CB l->l[i]?=some y->∀ x∈l.drop (i+1),y.1+y.2<x.1
 |[],i,y,_,h=>by simp at h
 | z::l,0,y,c,h=>by
   simp at h;subst h;intro x hx;exact vu c x (by simpa using hx)
 | z::l,i+1,y,c,h=>by
   intro x hx;exact FH (vy c) (by simpa using h) x (by simpa using hx)
theorem take_at {l:List Pr}{i:Int}{y:Pr}(i0:0<=i)(h:l[i.toNat]?=some y):l.take (i+1).toNat=l.take i.toNat++[y]:=by
 rw[show(i+1).toNat=i.toNat+1 by omega,List.take_add_one,h];rfl
theorem drop_at {l:List Pr}{i:Int}{y:Pr}(i0:0<=i)(h:l[i.toNat]?=some y):l.drop i.toNat=y::l.drop (i+1).toNat:=by
 rw[show(i+1).toNat=i.toNat+1 by omega];obtain⟨h1,h2⟩:=List.getElem?_eq_some_iff.1 h;rw[Xy h1,h2]
theorem Cp {x r:Pr}:Fp x r=true↔x.1<r.1+r.2/\r.1<x.1+x.2:=by unfold Fp;rw[Zc,VV,VV]
section
variable {n: Int} {rs: aa} {a0 l0 i: Int} {o: aa} {a l: Int} {d: Bool}
theorem Tg (b:0<=a0/\1<=l0/\a0+l0<=32):Ho rs a0 l0 0 [] a0 l0 false:=⟨⟨[],rfl,rfl⟩,fun x hx=>by simp at hx,fun _ _=>rfl,b⟩
theorem abZ (T:OB n rs)(h:Ho rs a0 l0 i o a l d)(i0:0<=i)(i1:i<rs.length)(x1:ab rs i 0<a+l)(x2:a<ab rs i 0+ab rs i 1):rpB n rs a0 l0=false:=by
 have e:=fQ (es:=rs) i0 i1;have m:(ab rs i 0,ab rs i 1)∈(na rs).drop i.toNat:=by rw[drop_at i0 e];simp
 have v:=h.v _ m;rw[Cp.2 ⟨x1,x2⟩]at v;unfold rpB;have:((na rs).all fun x=> !Fp x (a0,l0))=false:=by
  rw[W2];exact⟨_,YS m,by rw[<-v];simp⟩
 rw[this];simp
theorem J7 (T:OB n rs)(h:Ho rs a0 l0 i o a l d)(i0:0<=i)(i1:i<rs.length)(nov:¬ (ab rs i 0<a+l/\a<ab rs i 0+ab rs i 1)):
 (∀ x∈(na rs).take (i+1).toNat,Fp x (a0,l0)=false)/\(∀ x∈(na rs).drop (i+1).toNat,ab rs i 0+ab rs i 1<x.1/\1<=x.2/\Fp x (a,l)=Fp x (a0,l0))/\(0<=ab rs i 0/\1<=ab rs i 1/\ab rs i 0+ab rs i 1<=32):=by
 have e:=fQ (es:=rs) i0 i1;have m:(ab rs i 0,ab rs i 1)∈(na rs).drop i.toNat:=by rw[drop_at i0 e];simp
 have v:=h.v _ m;have b:=T.b _ (YS m);have:=T.n1;refine⟨fun x hx=>?_,fun x hx=>?_,⟨b.1,b.2.1,by have:=b.2.2;omega⟩⟩
 ·rw[take_at i0 e]at hx;rcases Zf.1 hx with q|q;exact h.n x q
  ·rw[Z4]at q;rw[q, <-v];cases z:Fp (ab rs i 0,ab rs i 1) (a,l)with
   |false=>rfl
   |true=>exact absurd (Cp.1 z) nov
 ·have c:=FH T.c e x (by rw[show(i+1).toNat=i.toNat+1 by omega]at hx;exact hx);have p:=T.b x (YS hx);exact⟨c,p.2.1,h.v x (by rw[drop_at i0 e];exact XP _ hx)⟩
theorem Ti (T:OB n rs)(h:Ho rs a0 l0 i o a l d)(i0:0<=i)(i1:i<rs.length)(nov:¬ (ab rs i 0<a+l/\a<ab rs i 0+ab rs i 1))(q:ab rs i 0+ab rs i 1=a):Ho rs a0 l0 (i+1) o (ab rs i 0) (ab rs i 1+l) d:=by
 have e:=fQ (es:=rs) i0 i1;obtain⟨h1,h2,h3⟩:=J7 T h i0 i1 nov;obtain⟨o',eo,es⟩:=h.s;have hb:=h.b;refine⟨⟨o',eo,?_⟩,h1,fun x hx=>?_,by omega⟩
 ·rw[take_at i0 e,YQ,es,ZK,YR];unfold CY;rw[VW (by exact q)]
 ·obtain⟨c1,c2,c3⟩:=h2 x hx;rw[<-c3,Wk,Cp,Cp]
  constructor<;>rintro⟨u,w⟩<;>constructor<;>(simp only at*;omega)
theorem Tj (T:OB n rs)(h:Ho rs a0 l0 i o a l d)(i0:0<=i)(i1:i<rs.length)(nov:¬ (ab rs i 0<a+l/\a<ab rs i 0+ab rs i 1))(p:ab rs i 0+ab rs i 1≠a)(q:a+l=ab rs i 0):Ho rs a0 l0 (i+1) o a (l+ab rs i 1) d:=by
 have e:=fQ (es:=rs) i0 i1;obtain⟨h1,h2,h3⟩:=J7 T h i0 i1 nov;obtain⟨o',eo,es⟩:=h.s;have hb:=h.b;refine⟨⟨o',eo,?_⟩,h1,fun x hx=>?_,by omega⟩
 ·rw[take_at i0 e,YQ,es,ZK,YR];unfold CY;rw[VX (by exact p),VW (by exact q)]
 ·obtain⟨c1,c2,c3⟩:=h2 x hx;rw[<-c3,Wk,Cp,Cp]
  constructor<;>rintro⟨u,w⟩<;>constructor<;>(simp only at*;omega)
theorem Tl (T:OB n rs)(h:Ho rs a0 l0 i o a l d)(i0:0<=i)(i1:i<rs.length)(nov:¬ (ab rs i 0<a+l/\a<ab rs i 0+ab rs i 1))(p:ab rs i 0+ab rs i 1≠a)(q:a+l≠ab rs i 0)(c:a<ab rs i 0)(hd:d=false):
 Ho rs a0 l0 (i+1) (o++[[.i a,.i l],[.i (ab rs i 0),.i (ab rs i 1)]]) a l true:=by
 have e:=fQ (es:=rs) i0 i1;obtain⟨h1,h2,h3⟩:=J7 T h i0 i1 nov;obtain⟨o',eo,es⟩:=h.s;refine⟨⟨o'++[(a,l),(ab rs i 0,ab rs i 1)],by rw[fJ,eo];rfl,?_⟩,h1,fun x hx=>(h2 x hx).2.2,h.b⟩;rw[take_at i0 e,YQ,es,ZK,YR];unfold CY;rw[VX (by exact p),VX (by exact q),VW (by exact⟨c,hd⟩)]
theorem NV (T:OB n rs)(h:Ho rs a0 l0 i o a l d)(i0:0<=i)(i1:i<rs.length)(nov:¬ (ab rs i 0<a+l/\a<ab rs i 0+ab rs i 1))(p:ab rs i 0+ab rs i 1≠a)(q:a+l≠ab rs i 0)(c:¬ (a<ab rs i 0/\d=false)):
 Ho rs a0 l0 (i+1) (o++[[.i (ab rs i 0),.i (ab rs i 1)]]) a l d:=by
 have e:=fQ (es:=rs) i0 i1;obtain⟨h1,h2,h3⟩:=J7 T h i0 i1 nov;obtain⟨o',eo,es⟩:=h.s;refine⟨⟨o'++[(ab rs i 0,ab rs i 1)],by rw[fJ,eo];rfl,?_⟩,h1,fun x hx=>(h2 x hx).2.2,h.b⟩;rw[take_at i0 e,YQ,es,ZK,YR];unfold CY;rw[VX (by exact p),VX (by exact q),VX (by exact c)]
theorem afp (h:rgOk n rs=true)(g:rngIn n a0 l0=true)(nov:∀ x∈na rs,Fp x (a0,l0)=false):rpB n rs a0 l0=true/\rpL n rs a0 l0=rowP (ipL (na rs) (a0,l0)):=by
 have e:rpB n rs a0 l0=true:=by
  unfold rpB;rw[h,g];simp only[Yy,Z9];intro x hx;rw[nov x hx];rfl
 exact⟨e,by unfold rpL;rw[VW e]⟩
theorem GA (h:rpB n rs a0 l0=false):rpL n rs a0 l0=rs:=by unfold rpL;rw[h];rfl
theorem yM (hr:rgOk n rs=true)(g:rngIn n a0 l0=true)(h:Ho rs a0 l0 i o a l d)(i1:(rs.length:Int)<=i):rpB n rs a0 l0=true/\rpL n rs a0 l0=if d=true then o else o++[[.i a,.i l]]:=by
 have tk:(na rs).take i.toNat=na rs:=Yi (by rw[nI];omega);have hn:=h.n;obtain⟨o',eo,es⟩:=h.s;rw[tk]at hn es;obtain⟨e1,e2⟩:=afp hr g hn;refine⟨e1,?_⟩;rw[e2];unfold ipL;rw[es,eo];unfold ipE;cases d with
 |true=>rfl
 |false=>rw[VX (by simp),VX (by simp),fJ];rfl
structure BK (rs:aa)(a0 l0 i:Int)(o:aa)(d:Bool):Prop where
 s:∃ o',o=rowP o'/\((na rs).take i.toNat).foldl (uC (a0,l0)) ⟨[],false⟩=⟨o',d⟩
 n:∀ x∈(na rs).take i.toNat,Fp x (a0,l0)=false
 m:o.length<=2*i.toNat
theorem afs:BK rs a0 l0 0 [] false:=⟨⟨[],rfl,rfl⟩,fun x hx=>by simp at hx,Zd _⟩
theorem Tm (h:BK rs a0 l0 i o d)(i0:0<=i)(i1:i<rs.length)(nov:¬ (ab rs i 0<a0+l0/\a0<ab rs i 0+ab rs i 1)):∀ x∈(na rs).take (i+1).toNat,Fp x (a0,l0)=false:=fun x hx=>by
 have e:=fQ (es:=rs) i0 i1;rw[take_at i0 e]at hx;rcases Zf.1 hx with q|q;exact h.n x q
 ·rw[Z4]at q;rw[q];cases z:Fp (ab rs i 0,ab rs i 1) (a0,l0)with
  |false=>rfl
  |true=>exact absurd (Cp.1 z) nov
theorem ab1 (i0:0<=i)(i1:i<rs.length)(x1:ab rs i 0<a0+l0)(x2:a0<ab rs i 0+ab rs i 1):rpB n rs a0 l0=false:=by
 have e:=fQ (es:=rs) i0 i1;unfold rpB;have:((na rs).all fun x=> !Fp x (a0,l0))=false:=by
  rw[W2];exact⟨_,Zw e,by rw[Cp.2 ⟨x1,x2⟩];simp⟩
 rw[this];simp
theorem aft (h:BK rs a0 l0 i o d)(i0:0<=i)(i1:i<rs.length)(nov:¬ (ab rs i 0<a0+l0/\a0<ab rs i 0+ab rs i 1))(hd:d=false)(c:a0<ab rs i 0):
 BK rs a0 l0 (i+1) (o++[[.i a0,.i l0]]++[[.i (ab rs i 0),.i (ab rs i 1)]]) true:=by
 have e:=fQ (es:=rs) i0 i1;obtain⟨o',eo,es⟩:=h.s;have m:=h.m;refine⟨⟨o'++[(a0,l0)]++[(ab rs i 0,ab rs i 1)],by rw[fJ,fJ,eo];rfl,?_⟩,Tm h i0 i1 nov,by simp only[Ze,Zn,Zr];omega⟩;rw[take_at i0 e,YQ,es,ZK,YR];unfold uC;rw[VW ⟨hd,c⟩]
theorem NX (h:BK rs a0 l0 i o d)(i0:0<=i)(i1:i<rs.length)(nov:¬ (ab rs i 0<a0+l0/\a0<ab rs i 0+ab rs i 1))(c:¬ (d=false/\a0<ab rs i 0)):
 BK rs a0 l0 (i+1) (o++[[.i (ab rs i 0),.i (ab rs i 1)]]) d:=by
 have e:=fQ (es:=rs) i0 i1;obtain⟨o',eo,es⟩:=h.s;have m:=h.m;refine⟨⟨o'++[(ab rs i 0,ab rs i 1)],by rw[fJ,eo];rfl,?_⟩,Tm h i0 i1 nov,by simp only[Ze,Zn,Zr];omega⟩;rw[take_at i0 e,YQ,es,ZK,YR];unfold uC;rw[VX c]
theorem yQ {l:List Pr}:na (rowP l)=l:=by
 unfold na rowP;rw[List.map_map];exact(List.map_congr_left fun x _=>rfl).trans (List.map_id l)
def jnR (rs:aa):aa:=rowP (jnL (na rs))
theorem J8 (hr:rgOk n rs=true)(g:rngIn n a0 l0=true)(h:BK rs a0 l0 i o d)(i1:(rs.length:Int)<=i):rpB n rs a0 l0=true/\rpL n rs a0 l0=jnR (if d=true then o else o++[[.i a0,.i l0]]):=by
 have tk:(na rs).take i.toNat=na rs:=Yi (by rw[nI];omega);have hn:=h.n;obtain⟨o',eo,es⟩:=h.s;rw[tk]at hn es;obtain⟨e1,e2⟩:=afp hr g hn;have T:=vN hr;unfold rngIn at g;rw[Zc]at g;have gl:=bH.1 g.1;refine⟨e1,?_⟩;rw[e2,afo T.c (by show 0<l0;omega) (fun x hx q=>by have:=hn x hx;rw[Cp.2 q]at this;cases this)];unfold jnR rsL;rw[es,eo];unfold Ql;cases d with
 |true=>rw[VW rfl,VW rfl,yQ]
 |false=>rw[VX (by simp),VX (by simp),show rowP o'++[[.i a0,.i l0]]=rowP (o'++[(a0,l0)])from by rw[fJ];rfl,yQ]
end
end Go.V
namespace Go.V
theorem afZ {o:aa}{n:Int}{x:Value}(h:Rw [tI,tI] o)(n0:0<=n)(n1:n<o.length):rr (.s 2 o) [(n.toNat,1)] [.v x]=o.set n.toNat [.i (ab o n 0),.v x]:=by
 show o.set n.toNat ((o.getD n.toNat []).take 1++[.v x]++(o.getD n.toNat []).drop (1+1))=_;rw[h.eta n0 n1];rfl
theorem afQ {o:aa}{n:Int}{j:Nat}(h:Rw [tI,tI] o)(n0:0<=n)(n1:n<o.length)(hj:j<2):∃ rec o',bV (.s 2 o) [(n.toNat,j)]=some (rec,o')/\o'+1<=rec.length:=gS (by omega) (by
 rw[h.eta n0 n1];show j+1<=2;omega)
theorem abm {o:aa}{n:Int}{j:Nat}(h:Rw [tI,tI] o)(n0:0<=n)(n1:n<o.length)(hj:j<2):∃ rec o',bV (L.s 2 o) [(n.toNat,j)]=some (rec,o')/\o'+[L.v (Zi Zp 0)].length<=rec.length/\Ya [L.v (Zi Zp 0)].length (Yp o' rec)=mN ah (L.s 2 o) [(n.toNat,j)] 0 [L.v (Zi Zp 0)]:=by
 rcases(show j=0\/j=1 by omega)with rfl|rfl
 ·exact fV (z0:=[.i 0,.i 0]) (z:=[.i 0]) h.wf (by omega) rfl (by decide)
 ·exact fV (z0:=[.i 0,.i 0]) (z:=[.i 0]) h.wf (by omega) rfl (by decide)
theorem lD {l:aa}{sz j:Nat}{i:Int}(h0:0<=i):SL (.s sz l) [(i.toNat,j)]=ab l i j:=by
 rw[Ig];unfold ab;rw[Zy]
theorem KP {f:List Pr}{y:Pr}(h:f.getLast?=some y):f=f.dropLast++[y]:=by
 cases f with
 |nil=>cases h
 | cons a f=>
   rw[List.getLast?_eq_some_getLast (by simp)]at h;cases h;exact(List.dropLast_concat_getLast (by simp)).symm
structure OP (rs:aa)(i:Int)(o:aa):Prop where
 s:o=rowP (((na rs).take i.toNat).foldl CZ [])
 l:o.length<=i.toNat
section
variable {rs o: aa} {i: Int}
theorem adM:OP rs 0 []:=⟨rfl,Zd _⟩
theorem Mz (h:OP rs i o)(i0:0<=i)(i1:i<rs.length):(((na rs).take (i+1).toNat).foldl CZ [])=CZ (((na rs).take i.toNat).foldl CZ []) (ab rs i 0,ab rs i 1):=by
 rw[take_at i0 (fQ i0 i1),YQ];rfl
theorem My (h:OP rs i o)(n:0<o.length):(((na rs).take i.toNat).foldl CZ []).getLast?=some (ab o (o.length-1) 0,ab o (o.length-1) 1):=by
 have e:=h.s;have hl:o.length=(((na rs).take i.toNat).foldl CZ []).length:=by rw[e,uB]
 have t:=fQ (es:=o) (i:=o.length-1) (by omega) (by omega);have q:na o=((na rs).take i.toNat).foldl CZ []:=by rw[e,yQ]
 rw[q]at t;rw[List.getLast?_eq_getElem?, <-hl, <-t]
 congr 1;omega
theorem adN (h:OP rs i o)(i0:0<=i)(i1:i<rs.length)(n:0<o.length)(q:ab o (o.length-1) 0+ab o (o.length-1) 1=ab rs i 0):
 OP rs (i+1) (o.set (o.length-1:Int).toNat [.i (ab o (o.length-1) 0),.i (ab o (o.length-1) 1+ab rs i 1)]):=by
 have la:=My h n;have hl:=h.l;refine⟨?_,by rw[ZE];omega⟩;rw[Mz h i0 i1];have e:=h.s;generalize((na rs).take i.toNat).foldl CZ []=f at la e;have fe:=KP la;generalize f.dropLast=g at fe;subst fe;rw[Ep (by exact q),e,fJ];have lg:((rowP g++rowP [(ab o (o.length-1) 0,ab o (o.length-1) 1)]).length-1:Int).toNat=(rowP g).length:=by
  rw[Ze];show(((rowP g).length+1:Nat)-1:Int).toNat=_;omega
 have eo:o=rowP g++rowP [(ab o (o.length-1) 0,ab o (o.length-1) 1)]:=by rw[<-fJ];exact e
 rw[<-fJ, <-e,show(o.length-1:Int).toNat=(rowP g).length from by rw[show(o.length:Int)=((rowP g++rowP [(ab o (o.length-1) 0,ab o (o.length-1) 1)]).length:Int)from by rw[<-eo]];exact lg];rw[fJ]
 conv=>lhs;arg 1;rw[eo]
 rw[List.set_append_right (h:=Zd _),YT];rfl
theorem adO (h:OP rs i o)(i0:0<=i)(i1:i<rs.length)(q:(o.length:Int)<=0\/ab o (o.length-1) 0+ab o (o.length-1) 1≠ab rs i 0):
 OP rs (i+1) (o++[[.i (ab rs i 0),.i (ab rs i 1)]]):=by
 have hl:=h.l;refine⟨?_,by rw[Ze];show _+1<=_;omega⟩;rw[Mz h i0 i1,AM,fJ, <-h.s];rfl;intro y hy;by_cases n:0<o.length
 ·rw[My h n]at hy;cases hy;rcases q with q|q;omega;exact q
 ·have:o=[]:=Yw (by omega);have e:=h.s;rw[this]at e;have z:((na rs).take i.toNat).foldl CZ []=[]:=by
   have:=congrArg Xe e;rw[uB]at this;exact Yw (by simpa using this.symm)
  rw[z]at hy;cases hy
theorem Jp (h:OP rs i o)(i1:(rs.length:Int)<=i):o=jnR rs:=by
 rw[h.s,Yi (by rw[nI];omega)];rfl
end
end Go.V
namespace Go.V
def bsN (rs:aa)(n:Int):Nat->Int
 |0=> -1
 |k+1=>if n<=ab rs k 1/\(bsN rs n k<0\/ab rs k 1<ab rs (bsN rs n k) 1)then k else bsN rs n k
def tkI (rs:aa)(n:Int):Int:=bsN rs n rs.length
structure BsP (rs:aa)(n i b:Int):Prop where
 e:b=bsN rs n i.toNat
section
variable {rs: aa} {n i b: Int}
end
structure TkT (p:Int)(rs:aa)(n:Int):Prop where
 i0:0<=tkI rs n
 i1:tkI rs n<rs.length
 n0:1<=n
 a0:0<=ab rs (tkI rs n) 0
 l0:n<=ab rs (tkI rs n) 1
 e:ab rs (tkI rs n) 0+ab rs (tkI rs n) 1<=p
 p0:p<=32
end Go.V
namespace Go.V
def frN (b:Int):Nat->aa
 |0=>[]
 |k+1=>if hsB b k=true then frN b k else frN b k++[[.i k]]
structure FrP (b i:Int)(o:aa):Prop where
 e:o=frN b i.toNat
end Go.V
namespace Go.V
def clB (ls:aa)(k:Int):Bool:=inR k 0 3&&caOk ls
def CI (ls:aa)(k a:Int):aa:=ls.set k.toNat [.s 1 (aw ls k 0++[[.i a]])]
def rY (ls:aa)(k a:Int):Bool:=clB ls k&&caOk (CI ls k a)
def Kr (ls:aa)(k a:Int):aa:=if rY ls k a=true then CI ls k a else ls
theorem FI {ls:aa}{k:Int}(h:clB ls k=true):0<=k/\k<4/\ls.length=4/\(aw ls k 0).length<=8:=by
 unfold clB at h;rw[Zc]at h;have r:=bH.1 h.1;have c:=acx h.2;have d:=c.2 k.toNat (by omega);rw[Zt r.1]at d;exact⟨r.1,by omega,c.1,d⟩
theorem N5 {ls r:aa}{k:Nat}(h:Rw [.sl [tI]] ls)(g:Rw [tI] r):Rw [.sl [tI]] (ls.set k [.s 1 r]):=Rw.set h (show cp [.sl [tI]] [.s 1 r]from⟨⟨rfl,g⟩,trivial⟩) _
theorem Qs {ls r:aa}{k:Nat}:ak (ls.set k [.s 1 r])<=ak ls+ak r:=by
 have s:=Ap (es:=ls) (n:=k) (e:=[.s 1 r]);have e:cU [.s 1 r]=ak r:=by simp only[cU,fR,ak];omega
 omega
theorem aao {ls:aa}{k:Int}(h:Rw [.sl [tI]] ls)(g:clB ls k=true):Rw [tI] (aw ls k 0):=by
 have c:=FI g;exact Rw.sub (fs:=[.sl [tI]]) (j:=0) (i:=k) h (by omega) rfl
theorem acI {ls:aa}{k a:Int}(h:rY ls k a=false):Kr ls k a=ls:=by unfold Kr;rw[h];rfl
theorem acJ {ls:aa}{k a:Int}(h:rY ls k a=true):Kr ls k a=CI ls k a:=by unfold Kr;rw[VW h]
theorem Rr {ls:aa}{k a:Int}(h:Rw [.sl [tI]] ls)(g:clB ls k=true)(ha: -9223372036854775808<=a/\a<=9223372036854775807):Rw [.sl [tI]] (CI ls k a)/\ak (CI ls k a)<=2*ak ls+4:=by
 have c:=FI g;have q:=aao h g;have s:=Qs (ls:=ls) (k:=k.toNat) (r:=aw ls k 0++[[.i a]]);have e:=FM (a:=aw ls k 0) (b:=[[.i a]]);have o:ak [[L.i a]]<=4:=by simp[ak,bL,cU,fR]
 have d:=jT (es:=ls) (i:=k) (j:=0);exact⟨N5 h (Rw.append q (afu ha) (by unfold maxLen;simp only[Zn,Zr];omega)),by unfold CI;omega⟩
end Go.V
namespace Go.V
def JX:aa->Int->Nat
 |[],_=>0
 |e::l,r=>if qcI (e::l)<=r then 0 else JX l r+1
theorem S7:∀ {l:aa} {r:Int} {n:Nat},n<JX l r->r<qcI (l.drop n)
 |[],r,n,h=>absurd h (by show¬ n<0;omega)
 | e::l,r,n,h=>by
   unfold JX at h;split at h
   ·omega
   ·rename_i c;cases n with
    |zero=>rw[Y2];omega
    |succ n=>rw[XQ];exact S7 (by omega)
theorem SZ:∀ {l:aa} {r:Int},0<=r->qcI (l.drop (JX l r))<=r
 |[],r,h=>h
 | e::l,r,h=>by
   unfold JX;split
   ·rename_i c;rw[Y2];exact c
   ·rw[XQ];exact SZ h
theorem Ik:∀ {l:aa} {r:Int},JX l r<=l.length
 |[],r=>Zd _
 | e::l,r=>by
   have:=Ik (l:=l) (r:=r);unfold JX;split;exact Zg _
   ·rw[Zn];omega
structure OX (l:aa)(r i:Int):Prop where
 e:i.toNat<=JX l r
section
variable {l: aa} {r i: Int}
theorem S8:OX l r 0:=⟨Zg _⟩
theorem S9 (h:OX l r i)(i0:0<=i):i<=l.length:=by have:=h.e;have:=Ik (l:=l) (r:=r);omega
theorem NH (h:OX l r i)(i0:0<=i)(r0:0<=r)(g:r<qcI (l.drop i.toNat)):OX l r (i+1)/\i<l.length:=by
 have e:=h.e;have ne:i.toNat≠JX l r:=fun q=>by
  have:=SZ (l:=l) r0;rw[<-q]at this;omega
 have:=Ik (l:=l) (r:=r);exact⟨⟨by omega⟩,by omega⟩
theorem JY (h:OX l r i)(g:qcI (l.drop i.toNat)<=r):i.toNat=JX l r:=by
 have e:=h.e;rcases Nat.lt_or_eq_of_le e with q|q
 ·have:=S7 q;omega
 ·exact q
end
def Dk (a c s:Int):ay:=[.i a,.i c,.i s]
def Gt (rm:Int)(qs:aa)(a c s:Int):Bool:=quarOk rm qs&&stlOk qs a c s
def qaL (rm:Int)(qs:aa)(a c s:Int):aa:=if Gt rm qs a c s=true then(qs++[Dk a c s]).drop (JX (qs++[Dk a c s]) rm)else qs
def qaR (rm:Int)(qs:aa)(a c s:Int):aa:=if Gt rm qs a c s=true then(qs++[Dk a c s]).take (JX (qs++[Dk a c s]) rm)else[]
theorem EL {rm:Int}{qs:aa}{a c s:Int}(h:Gt rm qs a c s=false):qaL rm qs a c s=qs/\qaR rm qs a c s=[]:=by unfold qaL qaR;rw[h];exact⟨rfl,rfl⟩
theorem NG {rm:Int}{qs:aa}{a c s:Int}(h:Gt rm qs a c s=true):qaL rm qs a c s=(qs++[Dk a c s]).drop (JX (qs++[Dk a c s]) rm)/\qaR rm qs a c s=(qs++[Dk a c s]).take (JX (qs++[Dk a c s]) rm):=by unfold qaL qaR;rw[VW h,VW h];exact⟨rfl,rfl⟩
def qeN:aa->Int->Nat
 |[],_=>0
 |e::l,t=>if PW (e.getD 2 .g)<t then qeN l t+1 else 0
structure QeP (l:aa)(t i:Int):Prop where
 e:i.toNat<=qeN l t
section
variable {l: aa} {t i: Int}
end
def qeB (rm:Int)(qs:aa)(now age:Int):Bool:=quarOk rm qs&&(inR now 0 1000000&&inR age 0 1000000)
def qeL (rm:Int)(qs:aa)(now age:Int):aa:=if qeB rm qs now age=true then qs.drop (qeN qs (now-age))else qs
def qeR (rm:Int)(qs:aa)(now age:Int):aa:=if qeB rm qs now age=true then qs.take (qeN qs (now-age))else[]
end Go.V
namespace Go.V
theorem D7 {k:Nat}:∀ {l:aa},(∀ e∈l,cU e<=k)->bL l<=k*l.length
 |[],_=>Zg _
 | e::l,h=>by
   have a:=h e (by simp);have b:=D7 (l:=l) (fun x hx=>h x (by simp[hx]));simp only[bL,Zn,Nat.mul_succ];omega
theorem Ey {cs us es:aa}(h:rW cs us es)(rc:Rw [.sl [tI]] cs)(ru:Rw [tB] us)(re:Rw [tI,tI] es):ak cs<=1024/\ak us<=64/\ak es<=64:=by
 have n1:=h.n1;have hu:=h.u;have e1:=h.e1;refine⟨?_,?_,?_⟩
 ·have q:bL cs<=16*cs.length:=D7 fun e he=>by
   obtain⟨i,hi,rfl⟩:=XJ he;have a:=rc.eta (i:=i) (by omega) (by omega);rw[Zo,Zy,Zv hi,ZZ]at a;rw[a];show cU [.s 1 (aw cs i 0)]<=16;have l:=h.l i (by omega) (by omega);have w:=(Rw.sub (fs:=[.sl [tI]]) (j:=0) (i:=(i:Int)) rc (by omega) rfl).cnt rfl;have e:cU [.s 1 (aw cs i 0)]=ak (aw cs i 0):=by simp only[cU,fR,ak];omega
   rw[e,w];omega
  unfold ak;omega
 ·rw[ru.cnt rfl];omega
 ·rw[re.cnt rfl];omega
def kuC (cs es:aa)(p:Int):aa:=if peM es p≠0 then dfC cs (Dn es p) (peF es p)else cs
def kuU (us es:aa)(p:Int):aa:=if peM es p≠0 then dfU us (Dn es p) (peF es p)else us
def kuE (es:aa)(p:Int):aa:=if peM es p≠0 then Dn es p else es
theorem adV {cs us es:aa}{p:Int}(h:rW cs us es):rW (kuC cs es p) (kuU us es p) (kuE es p):=by
 unfold kuC kuU kuE;by_cases g:peM es p≠0
 ·rw[VW g,VW g,VW g];exact afW h g
 ·rw[VX g,VX g,VX g];exact h
theorem rwU {us:aa}{n:Nat}{b:Bool}(h:Rw [tB] us):Rw [tB] (us.set n [.v (.bool b)]):=Rw.set h (show cp [tB] [.v (.bool b)]from⟨trivial,trivial⟩) _
theorem Qm {es:aa}{p m f:Int}(h:Rw [tI,tI] es)(hm: -9223372036854775808<=m/\m<=9223372036854775807)(hf: -9223372036854775808<=f/\f<=9223372036854775807):Rw [tI,tI] (seE es p m f):=Rw.set h (show cp [tI,tI] [.i m,.i f]from⟨⟨rfl,hm⟩,⟨rfl,hf⟩,trivial⟩) _
theorem ahS {cs es:aa}{f:Int}(h:Rw [.sl [tI]] cs):Rw [.sl [tI]] (dfC cs es f):=by
 unfold dfC;split;exact h;exact N5 h (Rw.replicate (show cp [tI] [.i 0]from⟨⟨rfl,show-9223372036854775808<=(0:Int)/\(0:Int)<=9223372036854775807 from by omega⟩,trivial⟩) (by unfold maxLen;omega))
theorem ahT {us es:aa}{f:Int}(h:Rw [tB] us):Rw [tB] (dfU us es f):=by
 unfold dfU;split;exact h;exact rwU h
theorem Sd {cs us es:aa}{p:Int}(hc:Rw [.sl [tI]] cs)(hu:Rw [tB] us)(he:Rw [tI,tI] es):Rw [.sl [tI]] (kuC cs es p)/\Rw [tB] (kuU us es p)/\Rw [tI,tI] (kuE es p):=by
 unfold kuC kuU kuE;refine⟨?_,?_,?_⟩<;>split
 ·exact ahS hc
 ·exact hc
 ·exact ahT hu
 ·exact hu
 ·exact Qm (m:=0) (f:=0) he (by omega) (by omega)
 ·exact he
theorem oR {cs us es rs:aa}{c:Int}(h:kerOk cs us es c rs=true):rW cs us es/\0<=c/\c<=100000/\ra rs=true:=by
 unfold kerOk at h;simp only[Zc]at h;have r:=bH.1 h.1.2;exact⟨abx h.1.1,r.1,r.2,h.2⟩
theorem MD {cs us es rs:aa}{c:Int}(h:rW cs us es)(c0:0<=c)(c1:c<=100000)(r:ra rs=true):kerOk cs us es c rs=true:=PS (aby h) (bH.2 ⟨c0,c1⟩) r
end Go.V
namespace Go.V
structure o6 (a0 a1 a2 a4 a5 a6 a7 a8 a9 aA aB aD aL:aa):Prop where
 r0:Rw [.sl [tI]] a0
 r1:Rw [tB] a1
 r2:Rw [tI,tI] a2
 r4:Rw [tI] a4
 r5:Rw [tI,tI] a5
 r6:Rw [tI,tI,tI] a6
 r7:Rw [tI,tI,tI] a7
 r8:Rw [tI,tI,tI,tI] a8
 r9:Rw [.sl [.sl [tI]]] a9
 r10:Rw [.sl [tI,tI]] aA
 r11:Rw [.sl [tI]] aB
 r13:Rw [tI,tI,tI] aD
 r21:Rw [tI] aL
 c0:ak a0<=1073741824
 c1:ak a1<=1073741824
 c2:ak a2<=1073741824
 c4:ak a4<=1073741824
 c5:ak a5<=1073741824
 c6:ak a6<=1073741824
 c7:ak a7<=1073741824
 c8:ak a8<=1073741824
 c9:ak a9<=1073741824
 c10:ak aA<=1073741824
 c11:ak aB<=1073741824
 c13:ak aD<=1073741824
 c21:ak aL<=1073741824
theorem o6.hp {a0 a1 a2 a4 a5 a6 a7 a8 a9 aA aB aD aL:aa}(h:o6 a0 a1 a2 a4 a5 a6 a7 a8 a9 aA aB aD aL):HpN a0 a1 a2 a4 a5 a6 a7 a8 a9 aA aB aD aL:=by
 have l2:=au (es:=a2);have l5:=au (es:=a5);have l6:=au (es:=a6);have l7:=au (es:=a7);have l8:=au (es:=a8);have l13:=au (es:=aD);have l21:=au (es:=aL);have c2:=h.c2;have c5:=h.c5;have c6:=h.c6;have c7:=h.c7;have c8:=h.c8;have c13:=h.c13;have c21:=h.c21;exact⟨⟨h.r6,h.r7,h.r8,h.r9,h.r13,H8 h.r10 h.r11 h.c10 h.c11,abH h.r9 h.c9,by omega,by omega,by omega,by omega,h.c9⟩,h.r0,h.r1,h.r2,by omega,h.r4,h.r5,by omega,h.r21,by omega⟩
theorem Bg {fs:List Ty}{es:aa}{i:Int}(h:Rw [.sl fs] es)(h0:0<=i)(h1:i<es.length):Rw fs (aw es i 0):=Rw.sub (fs:=[.sl fs]) (j:=0) (i:=i) h (by omega) rfl
end Go.V
namespace Go.V
def htB (b x:aa)(f:Int):Bool:=inR f 0 (b.length-1)&&mailOk b x
theorem aa3 {b x:aa}{f:Int}(h:htB b x f=true):0<=f/\f<b.length:=by
 unfold htB at h;simp only[Zc]at h;have:=bH.1 h.1;omega
theorem adw {b x:aa}{f:Int}(h:inR f 0 (b.length-1)=false):htB b x f=false:=by unfold htB;rw[h];rfl
theorem adx {b x:aa}{f:Int}(h:inR f 0 (b.length-1)=true):htB b x f=mailOk b x:=by unfold htB;rw[h];rfl
theorem ady {b x:aa}{f:Int}(h:mailOk b x=false):htB b x f=false:=by unfold htB;rw[h];simp
theorem adz {b x:aa}{f:Int}(h:mailOk b x=true):htB b x f=inR f 0 (b.length-1):=by unfold htB;rw[h];simp
theorem TF {b x:aa}{i:Int}(h:Rw [.sl [tI]] b)(h0:0<=i)(h1:i<b.length):rr (.s 1 b) [(i.toNat,0)] [.s 1 x]=b.set i.toNat [.s 1 x]:=gU (by rw[h.eta h0 h1];rfl)
theorem Tv {fs:List Ty}{b:aa}{i:Int}(h:Rw [.sl fs] b)(h0:0<=i)(h1:i<b.length):∃ rec o',bV (.s 1 b) [(i.toNat,0)]=some (rec,o')/\o'+1<=rec.length:=gS (by omega) (by rw[h.eta h0 h1];exact Zd _)
theorem M5 {b x b' x':aa}{r r':Bool}(h1:b=b')(h2:x=x')(h3:r=r'):[DV.agg [.s 1 b,.s 1 x],DV.k r]=[DV.agg [.s 1 b',.s 1 x'],DV.k r']:=by rw[h1,h2,h3]
end Go.V
namespace Go.V
def ccB (cs us es:aa)(c:Int)(rs:aa):Bool:=decide (c≠100000)&&kerOk cs us es c rs
theorem Rl {cs us es rs:aa}{c:Int}(h:ccB cs us es c rs=true):c≠100000/\kerOk cs us es c rs=true:=by
 unfold ccB at h;rw[Zc,VV]at h;exact h
theorem acA {cs us es rs:aa}{c:Int}(h:c=100000):ccB cs us es c rs=false:=by unfold ccB;rw[VU (fun n=>n h)];rfl
theorem Rk {cs us es rs:aa}{c:Int}(h:c≠100000):ccB cs us es c rs=kerOk cs us es c rs:=by unfold ccB;rw[VT h];rfl
theorem acB {cs us es rs:aa}{c:Int}(h:kerOk cs us es c rs=false):ccB cs us es c rs=false:=by unfold ccB;rw[h];simp
theorem acC {cs us es rs:aa}{c:Int}(h:kerOk cs us es c rs=true):dA .lss c 100000=ccB cs us es c rs:=by
 have q:=(oR h).2;unfold ccB;rw[h,Bool.and_true];show decide (c<100000)=_;by_cases e:c=100000
 ·rw[VU (by omega),VU (by simp[e])]
 ·rw[VT (by omega),VT e]
def ktC (k:Bool)(cs es:aa)(p:Int):aa:=if k=true then kuC cs es p else cs
def ktU (k:Bool)(us es:aa)(p:Int):aa:=if k=true then kuU us es p else us
def ktE (k:Bool)(es:aa)(p:Int):aa:=if k=true then kuE es p else es
def ktB (k:Bool)(es:aa)(p:Int):Bool:=k&&mapB es p
theorem adS {k:Bool}{cs us es:aa}{p:Int}(h:k=false):ktC k cs es p=cs/\ktU k us es p=us/\ktE k es p=es/\ktB k es p=false:=by subst h;exact⟨rfl,rfl,rfl,rfl⟩
theorem adT {k:Bool}{cs us es:aa}{p:Int}(h:k=true):ktC k cs es p=kuC cs es p/\ktU k us es p=kuU us es p/\ktE k es p=kuE es p/\ktB k es p=mapB es p:=by subst h;exact⟨rfl,rfl,rfl,rfl⟩
theorem adU {cs us es:aa}{p:Int}(h:mapB es p=false):kuC cs es p=cs/\kuU us es p=us/\kuE es p=es:=by
 unfold mapB at h;have:=VZ h;unfold kuC kuU kuE;rw[VX this,VX this,VX this];exact⟨rfl,rfl,rfl⟩
theorem adW {cs us es:aa}{p:Int}(h:mapB es p=true):kuC cs es p=dfC cs (Dn es p) (peF es p)/\kuU us es p=dfU us (Dn es p) (peF es p)/\kuE es p=Dn es p:=by
 unfold mapB at h;have:=VY h;unfold kuC kuU kuE;rw[VW this,VW this,VW this];exact⟨rfl,rfl,rfl⟩
theorem ahr {k:Bool}{cs us es:aa}{p:Int}(h:mapB es p=false):ktC k cs es p=cs/\ktU k us es p=us/\ktE k es p=es/\ktB k es p=false:=by
 cases k with
 |false=>exact adS rfl
 |true=>have q:=adU (cs:=cs) (us:=us) h;exact⟨q.1,q.2.1,q.2.2,h⟩
theorem Et {es:aa}{p:Int}(h:mapB es p=true):(0<=p/\p<es.length)/\peM es p=ab es p 0/\peF es p=ab es p 1/\peM es p≠0:=by
 unfold mapB at h;have:=VY h;have q:=Nv this;exact⟨q.1,q.2.1,q.2.2,this⟩
theorem Eu {cs us es:aa}{p:Int}(m:rW cs us es)(h:mapB es p=true):0<=ab es p 1/\ab es p 1<cs.length:=by
 have q:=Et h;have e:=m.e p q.1.1 q.1.2;exact e.2.2.2 (by have:=q.2.1;have:=q.2.2.2;omega)
theorem agT {cs us es:aa}{f:Int}(h:((pagesOn es f).length:Int)=0):dfC cs es f=cs.set f.toNat [.s 1 (pI 16 [.i 0])]/\dfU us es f=us.set f.toNat [.v (.bool false)]:=by
 have e:gX es f=false:=PY (by omega);unfold dfC dfU;rw[e];exact⟨rfl,rfl⟩
theorem agU {cs us es:aa}{f:Int}(h:¬ ((pagesOn es f).length:Int)=0):dfC cs es f=cs/\dfU us es f=us:=by
 have e:gX es f=true:=Ev.2 (by omega);unfold dfC dfU;rw[e];exact⟨rfl,rfl⟩
theorem TE {es:aa}{p:Int}(h:Rw [tI,tI] es)(p0:0<=p)(p1:p<es.length):rr (.s 2 es) [(p.toNat,0)] [.i 0,.i 0]=Dn es p:=by
 unfold Dn;exact gU (by rw[h.eta p0 p1];rfl)
theorem Es {es:aa}{p:Int}:(kuE es p).length=es.length:=by
 unfold kuE Dn;split;exact ZE;rfl
structure K3 where
 c:aa
 u:aa
 e:aa
def I7 (a0 a1 a2:aa)(t:Int):Nat->K3
 |0=>⟨a0,a1,a2⟩
 |n+1=>⟨kuC (I7 a0 a1 a2 t n).c (I7 a0 a1 a2 t n).e (t+n),kuU (I7 a0 a1 a2 t n).u (I7 a0 a1 a2 t n).e (t+n),kuE (I7 a0 a1 a2 t n).e (t+n)⟩
theorem I8 {a0 a1 a2:aa}{t:Int}{n:Nat}:I7 a0 a1 a2 t (n+1)=⟨kuC (I7 a0 a1 a2 t n).c (I7 a0 a1 a2 t n).e (t+n),kuU (I7 a0 a1 a2 t n).u (I7 a0 a1 a2 t n).e (t+n),kuE (I7 a0 a1 a2 t n).e (t+n)⟩:=rfl
def duC (a0 a1 a2:aa)(t l:Int):aa:=(I7 a0 a1 a2 t l.toNat).c
def duU (a0 a1 a2:aa)(t l:Int):aa:=(I7 a0 a1 a2 t l.toNat).u
def duE (a0 a1 a2:aa)(t l:Int):aa:=(I7 a0 a1 a2 t l.toNat).e
theorem agZ {a0 a1 a2:aa}{t:Int}:duC a0 a1 a2 t 1=kuC a0 a2 t/\duU a0 a1 a2 t 1=kuU a1 a2 t/\duE a0 a1 a2 t 1=kuE a2 t:=by
 unfold duC duU duE;have z:t+((0:Nat):Int)=t:=by omega
 rw[show(1:Int).toNat=0+1 from rfl,I8,z];exact⟨rfl,rfl,rfl⟩
structure Oy (a0 a1 a2:aa)(t p:Int)(c u e:aa):Prop where
 m:rW c u e
 rc:Rw [.sl [tI]] c
 ru:Rw [tB] u
 re:Rw [tI,tI] e
 l:e.length=a2.length
 ec:c=duC a0 a1 a2 t (p-t)
 eu:u=duU a0 a1 a2 t (p-t)
 ee:e=duE a0 a1 a2 t (p-t)
section
variable {a0 a1 a2 c u e: aa} {t p: Int}
theorem LR (m:rW a0 a1 a2)(rc:Rw [.sl [tI]] a0)(ru:Rw [tB] a1)(re:Rw [tI,tI] a2):Oy a0 a1 a2 t t a0 a1 a2:=by
 have z:(t-t).toNat=0:=by omega
 refine⟨m,rc,ru,re,rfl,?_,?_,?_⟩
 ·unfold duC;rw[z];rfl
 ·unfold duU;rw[z];rfl
 ·unfold duE;rw[z];rfl
theorem HD (h:Oy a0 a1 a2 t p c u e)(p0:t<=p):Oy a0 a1 a2 t (p+1) (kuC c e p) (kuU u e p) (kuE e p):=by
 have w:=Sd (p:=p) h.rc h.ru h.re;have s:(p+1-t).toNat=(p-t).toNat+1:=by omega
 have q:t+((p-t).toNat:Int)=p:=by omega
 refine⟨adV h.m,w.1,w.2.1,w.2.2,by rw[Es];exact h.l,?_,?_,?_⟩
 ·rw[h.ec,h.ee];unfold duC duE;rw[s,I8,q]
 ·rw[h.eu,h.ee];unfold duU duE;rw[s,I8,q]
 ·rw[h.ee];unfold duE;rw[s,I8,q]
theorem Jb {l:Int}(h:Oy a0 a1 a2 t p c u e)(p1:t+l<=p)(p2:p<=t+l):c=duC a0 a1 a2 t l/\u=duU a0 a1 a2 t l/\e=duE a0 a1 a2 t l:=by
 have q:p-t=l:=by omega
 exact⟨q▸h.ec,q▸h.eu,q▸h.ee⟩
theorem Ja (h:Oy a0 a1 a2 t p c u e):ak c<=1024/\ak u<=64/\ak e<=64:=Ey h.m h.rc h.ru h.re
theorem I9 (m:rW a0 a1 a2)(rc:Rw [.sl [tI]] a0)(ru:Rw [tB] a1)(re:Rw [tI,tI] a2):∀ n:Nat,Oy a0 a1 a2 t (t+n) (duC a0 a1 a2 t n) (duU a0 a1 a2 t n) (duE a0 a1 a2 t n)
 |0=>by have:=LR (t:=t) m rc ru re;rw[show t+((0:Nat):Int)=t by omega];exact this
 | n+1=>by
   have h:=HD (I9 m rc ru re n) (by omega);have e:((n+1:Nat):Int)=(n:Int)+1:=by omega
   rw[show t+((n+1:Nat):Int)=t+n+1 by omega];exact h
end
def ifR (b:Bool)(x y:aa):aa:=if b=true then x else y
theorem vL {o o':aa}{r r':Bool}(h2:o=o')(h3:r=r'):[DV.one (.s 2 o),DV.k r]=[DV.one (.s 2 o'),DV.k r']:=by rw[h2,h3]
end Go.V
namespace Go.V
theorem NW {r:Pr}:∀ {l:List Pr} {s:Sp} {x:Pr},x∈(l.foldl (uC r) s).o->x∈s.o\/x=r\/x∈l
 |[],s,x,h=>.inl h
 | y::l,s,x,h=>by
   rw[ZK]at h;rcases NW h with q|q|q
   ·unfold uC at q;split at q
    ·simp only[Zf,Z4]at q;rcases q with(q|q)|q;exact .inl q;exact .inr (.inl q);exact .inr (.inr (by rw[q];exact W5 ..))
    ·simp only[Zf,Z4]at q;rcases q with q|q;exact .inl q;exact .inr (.inr (by rw[q];exact W5 ..))
   ·exact .inr (.inl q)
   ·exact .inr (.inr (XP _ q))
structure SmR (rs:aa):Prop where
 w:Rw [tI,tI] rs
 b:∀ i:Int,0<=i->i<rs.length->0<=ab rs i 0/\ab rs i 0<=64/\0<=ab rs i 1/\ab rs i 1<=64
theorem N9 {l:List Pr}(h:∀ x∈l,0<=x.1/\x.1<=64/\0<=x.2/\x.2<=64)(n:l.length<=maxLen):SmR (rowP l):=by
 refine⟨yL (fun x hx=>by have:=h x hx;omega) n,fun i i0 i1=>?_⟩;have t:=fQ (es:=rowP l) i0 i1;rw[yQ]at t;exact h _ (Zw t)
theorem afY {o:aa}{n:Int}{b:Bool}(h:Rw [tB] o)(h0:0<=n)(h1:n<o.length):rr (.s 1 o) [(n.toNat,0)] [.v (.bool b)]=o.set n.toNat [.v (.bool b)]:=gU (by rw[h.eta h0 h1];rfl)
theorem aig {o:aa}{n:Int}(h:Rw [tB] o)(h0:0<=n)(h1:n<o.length):∃ rec o',bV (.s 1 o) [(n.toNat,0)]=some (rec,o')/\o'+1<=rec.length:=gS (by omega) (by rw[h.eta h0 h1];exact Zd _)
theorem Tu {es:aa}{p:Int}(h:Rw [tI,tI] es)(p0:0<=p)(p1:p<es.length):∃ rec o,bV (.s 2 es) [(p.toNat,0)]=some (rec,o)/\o+2<=rec.length:=gS (by omega) (by rw[h.eta p0 p1];exact Zd _)
section
variable {n a0 l0 i: Int} {rs o: aa} {d: Bool}
theorem J4 (g:rngIn n a0 l0=true)(T:OB n rs):0<=a0/\1<=l0/\a0+l0<=32:=by
 unfold rngIn at g;simp only[Zc]at g;have p:=bH.1 g.1;have q:=bH.1 g.2;have:=T.n1;omega
theorem ab2 (T:OB n rs)(g:rngIn n a0 l0=true)(h:BK rs a0 l0 i o d)(k:rs.length<=1073741824)(i1:i<=rs.length):SmR (if d=true then o else o++[[.i a0,.i l0]]):=by
 obtain⟨o',eo,es⟩:=h.s;have gb:=J4 g T;have m:=h.m;have mb:∀ x∈o',0<=x.1/\x.1<=64/\0<=x.2/\x.2<=64:=fun x hx=>by
  have q:=NW (r:=(a0,l0)) (l:=(na rs).take i.toNat) (s:=⟨[],false⟩) (x:=x) (by rw[es];exact hx);rcases q with q|q|q
  ·cases q
  ·rw[q];simp only;omega
  ·have:=T.b _ (XR q);have:=T.n1;omega
 have ol:o.length=o'.length:=by rw[eo,uB]
 cases d with
 |true=>rw[VW rfl,eo];exact N9 mb (by unfold maxLen;omega)
 | false=>
   rw[VX (by simp),eo];have e:rowP o'++[[.i a0,.i l0]]=rowP (o'++[(a0,l0)]):=by rw[fJ];rfl
   rw[e];refine N9 (fun x hx=>?_) (by unfold maxLen;simp only[Ze,Zn,Zr];omega);rcases Zf.1 hx with q|q;exact mb x q
   ·rw[Z4]at q;rw[q];simp only;omega
structure TT (rs:aa)(i:Int)(o:aa)(n:Nat):Prop where
 p:OP rs i o
 n:n=o.length
 w:Rw [tI,tI] o
 b:∀ k:Int,0<=k->k<o.length->0<=ab o k 0/\ab o k 0<=64/\0<=ab o k 1/\ab o k 1<=64*i
theorem adP:TT rs 0 [] 0:=⟨adM,rfl,Rw.nil,fun k k0 k1=>by simp at k1;omega⟩
theorem gP {o:aa}{r:ay}{k:Nat}:(o++[r]).getD k []=if k<o.length then o.getD k []else if k=o.length then r else[]:=by
 rw[Zo,Zo];by_cases c:k<o.length
 ·rw[VW c,Z8 c]
 ·rw[VX c,ZQ (by omega)];by_cases e:k=o.length
  ·rw[VW e,e,YT];rfl
  ·rw[VX e,ZY (by simp;omega)];rfl
theorem giP {o:aa}{r:ay}{k:Int}{j:Nat}(k0:0<=k)(k1:k<=o.length):ab (o++[r]) k j=if k<o.length then ab o k j else PW (r.getD j .g):=by
 unfold ab;rw[gP];by_cases c:k<o.length
 ·rw[VW c,VW (by omega)]
 ·rw[VX c,VX (by omega),VW (by omega)]
theorem adQ {m:Nat}(h:TT rs i o m)(S:SmR rs)(i0:0<=i)(i1:i<rs.length)(k:rs.length<=4294967296)(n0:0<(m:Int))(q:ab o ((m:Int)-1) 0+ab o ((m:Int)-1) 1=ab rs i 0):
 TT rs (i+1) (o.set ((m:Int)-1).toNat [.i (ab o ((m:Int)-1) 0),.i (ab o ((m:Int)-1) 1+ab rs i 1)]) m:=by
 have e:=h.n;subst e;have b:=h.b (o.length-1) (by omega) (by omega);have s:=S.b i i0 i1;refine⟨adN h.p i0 i1 (by omega) q,by rw[ZE],Qm (p:=o.length-1) (m:=ab o (o.length-1) 0) (f:=ab o (o.length-1) 1+ab rs i 1) h.w (by omega) (by omega),fun t t0 t1=>?_⟩;rw[ZE]at t1;have c:=h.b t t0 t1;rw[RQ (by omega) (by omega) t0,RQ (by omega) (by omega) t0];by_cases z:t=o.length-1
 ·rw[VW z,VW z];show 0<=ab o (o.length-1) 0/\ab o (o.length-1) 0<=64/\0<=ab o (o.length-1) 1+ab rs i 1/\ab o (o.length-1) 1+ab rs i 1<=64*(i+1);omega
 ·rw[VX z,VX z];omega
theorem adR {m:Nat}(h:TT rs i o m)(S:SmR rs)(i0:0<=i)(i1:i<rs.length)(k:rs.length<=4294967296)(q:(m:Int)<=0\/ab o ((m:Int)-1) 0+ab o ((m:Int)-1) 1≠ab rs i 0):
 TT rs (i+1) (o++[[.i (ab rs i 0),.i (ab rs i 1)]]) (o++[[L.i (ab rs i 0),L.i (ab rs i 1)]]).length:=by
 have e:=h.n;subst e;have s:=S.b i i0 i1;have l:=h.p.l;refine⟨adO h.p i0 i1 q,rfl,Rw.append h.w (yL (l:=[(ab rs i 0,ab rs i 1)]) (fun x hx=>by rw[Z4]at hx;rw[hx];simp only;omega) (by unfold maxLen;simp)) (by unfold maxLen;simp only[Zn,Zr];omega),fun t t0 t1=>?_⟩;rw[Ze,Zn,Zr]at t1;rw[giP t0 (by omega),giP t0 (by omega)];by_cases c:t<o.length
 ·have b:=h.b t t0 c;rw[VW c,VW c];omega
 ·rw[VX c,VX c];show 0<=ab rs i 0/\ab rs i 0<=64/\0<=ab rs i 1/\ab rs i 1<=64*(i+1);omega
end
end Go.V
namespace Go.V
theorem aaS {a0 a1 a2 a4 a5 a6 a7 a8 a9 aA aB aD aL:aa}(h0:Rw [.sl [tI]] a0)(h1:Rw [tB] a1)(h2:Rw [tI,tI] a2)(h4:Rw [tI] a4)(h5:Rw [tI,tI] a5)(h6:Rw [tI,tI,tI] a6)(h7:Rw [tI,tI,tI] a7)(h8:Rw [tI,tI,tI,tI] a8)(h9:Rw [.sl [.sl [tI]]] a9)(h10:Rw [.sl [tI,tI]] aA)(h11:Rw [.sl [tI]] aB)(h13:Rw [tI,tI,tI] aD)(h21:Rw [tI] aL)(hs:aQ [a0,a1,a2,a4,a5,a6,a7,a8,a9,aA,aB,aD,aL]<=1048576):o6 a0 a1 a2 a4 a5 a6 a7 a8 a9 aA aB aD aL:=by
 obtain⟨c0,c1,c2,c4,c5,c6,c7,c8,c9,c10,c11,c13,c21⟩:=FL hs;exact⟨h0,h1,h2,h4,h5,h6,h7,h8,h9,h10,h11,h13,h21,by omega,by omega,by omega,by omega,by omega,by omega,by omega,by omega,by omega,by omega,by omega,by omega,by omega⟩
end Go.V
namespace Go.V
section
variable {n a0 l0: Int} {rs: aa}
theorem ab3 {x y:Pr}(hx:0<=x.1/\x.1<=64/\0<=x.2/\x.2<=64)(hy:0<=y.1/\y.1<=64/\0<=y.2/\y.2<=64):Rw [tI,tI] (rowP [x,y]):=yL (fun z hz=>by
 rcases Zl.1 hz with q|q
 ·rw[q];omega
 ·rw[Z4]at q;rw[q];omega) (by unfold maxLen;simp)
theorem Tn {x:Pr}(hx:0<=x.1/\x.1<=64/\0<=x.2/\x.2<=64):Rw [tI,tI] (rowP [x]):=yL (fun z hz=>by
 rw[Z4]at hz;rw[hz];omega) (by unfold maxLen;simp)
theorem J6 (T:OB n rs)(g:rngIn n a0 l0=true)(hl:rs.length<=1073741824)(nov:∀ x∈na rs,Fp x (a0,l0)=false):∀ i:Nat,i<=rs.length->∃ o x y d,Ho rs a0 l0 i o x y d/\Rw [tI,tI] o/\o.length<=2*i
 |0,_=>⟨[],a0,l0,false,Tg (J4 g T),Rw.nil,Zd _⟩
 | i+1,hi=>by
   obtain⟨o,x,y,d,h,rw_,ol⟩:=J6 T g hl nov i (by omega);have e:=fQ (es:=rs) (i:=(i:Int)) (by omega) (by omega);have m:(ab rs i 0,ab rs i 1)∈(na rs).drop (i:Int).toNat:=by rw[drop_at (by omega) e];simp
   have v:=h.v _ m;rw[nov _ (YS m)]at v;have no:¬ (ab rs i 0<x+y/\x<ab rs i 0+ab rs i 1):=fun c=>by rw[Cp.2 c]at v;cases v
   have b:=T.b _ (YS m);have hb:=h.b;have:=T.n1;have bp:0<=ab rs i 0/\ab rs i 0<=64/\0<=ab rs i 1/\ab rs i 1<=64:=⟨b.1,by have:=b.2.1;have:=b.2.2;omega,by have:=b.2.1;omega,by have:=b.1;have:=b.2.2;omega⟩;have c:((i+1:Nat):Int)=(i:Int)+1:=by omega
   rw[c];by_cases q1:ab rs i 0+ab rs i 1=x;exact⟨o,_,_,d,Ti T h (by omega) (by omega) no q1,rw_,by omega⟩
   by_cases q2:x+y=ab rs i 0;exact⟨o,_,_,d,Tj T h (by omega) (by omega) no q1 q2,rw_,by omega⟩
   by_cases q3:x<ab rs i 0/\d=false;exact⟨_,_,_,true,Tl T h (by omega) (by omega) no q1 q2 q3.1 q3.2,Rw.append rw_ (ab3 (x:=(x,y)) (y:=(ab rs i 0,ab rs i 1)) (by simp only;omega) bp) (by unfold maxLen;show _+2<=_;omega),by rw[Ze];show _+2<=_;omega⟩;exact⟨_,_,_,d,NV T h (by omega) (by omega) no q1 q2 q3,Rw.append rw_ (Tn (x:=(ab rs i 0,ab rs i 1)) bp) (by unfold maxLen;show _+1<=_;omega),by rw[Ze];show _+1<=_;omega⟩
theorem ET (w:Rw [tI,tI] rs)(hl:rs.length<=1073741824):Rw [tI,tI] (rpL n rs a0 l0)/\(rpL n rs a0 l0).length<=2*rs.length+1:=by
 cases h:rpB n rs a0 l0 with
 |false=>rw[GA h];exact⟨w,by omega⟩
 | true=>
   unfold rpB at h;simp only[Zc,Z9]at h;obtain⟨h1,h2,h3⟩:=h;have T:=vN h1;have nov:∀ x∈na rs,Fp x (a0,l0)=false:=fun x hx=>by have:=h3 x hx;simpa using this
   obtain⟨o,x,y,d,p,r,l⟩:=J6 T h2 hl nov rs.length (Zd _);have e:=yM h1 h2 p (by omega);rw[e.2];cases d with
   |true=>rw[VW rfl];exact⟨r,by omega⟩
   | false=>
     rw[VX (by simp)];have b:=p.b;exact⟨Rw.append r (Tn (x:=(x,y)) (by simp only;omega)) (by unfold maxLen;show _+1<=_;omega),by rw[Ze];show _+1<=_;omega⟩
theorem Qj (w:Rw [tI,tI] rs)(hl:rs.length<=1073741824):ak (rpL n rs a0 l0)<=2*rs.length+1:=by
 have h:=ET (n:=n) (a0:=a0) (l0:=l0) w hl;rw[h.1.cnt rfl];exact h.2
end
theorem aaj {c u e a0 a1 a2 a4:aa}{a3:Int}(m:rW c u e)(h:kerOk a0 a1 a2 a3 a4=true)(n:a3≠100000):ccB c u e a3 a4=true:=by
 have k:=(oR h).2;unfold ccB;rw[VT n,MD m k.1 k.2.1 k.2.2];rfl
def bsB (m:Bool)(k v p:Int):Bool:=m&&(decide (k=p)||decide (v=p))
theorem acv {m:Bool}{k v p:Int}(h:m=false):bsB m k v p=false:=by subst h;rfl
theorem acs {m:Bool}{k v p:Int}(h:m=true)(e:k=p):bsB m k v p=true:=by subst h;unfold bsB;rw[VT e];rfl
theorem acu {m:Bool}{k v p:Int}(h:m=true)(e:k≠p):bsB m k v p=decide (v=p):=by subst h;unfold bsB;rw[VU e];rfl
def dsC (a0 a1 a2 a6:aa)(i:Int):aa:=duC a0 a1 a2 (ab a6 i 0) 1
def dsU (a0 a1 a2 a6:aa)(i:Int):aa:=duU a0 a1 a2 (ab a6 i 0) 1
def dsE (a0 a1 a2 a6:aa)(i:Int):aa:=duE a0 a1 a2 (ab a6 i 0) 1
def dsF (a0 a1 a2 a5 a6:aa)(i:Int):aa:=rpL (zlI (dsE a0 a1 a2 a6 i)) a5 (ab a6 i 0) 1
def dsS (a6:aa)(i:Int):aa:=delL a6 i (i+1)
theorem LQ {a0 a1 a2 a6:aa}{i:Int}:dsC a0 a1 a2 a6 i=kuC a0 a2 (ab a6 i 0)/\dsU a0 a1 a2 a6 i=kuU a1 a2 (ab a6 i 0)/\dsE a0 a1 a2 a6 i=kuE a2 (ab a6 i 0):=agZ
theorem tV {fs:List Ty}{es:aa}{i j:Int}(h:Rw fs es)(ij:i<=j):Rw fs (delL es i j)/\(delL es i j).length<=es.length:=by
 have l:(delL es i j).length<=es.length:=by unfold delL;rw[Ze,Zk,Zu];omega
 refine⟨⟨ZX l h.1,fun e he=>?_⟩,l⟩;unfold delL at he;rcases Zf.1 he with q|q;exact h.2 e (XR q);exact h.2 e (YS q)
end Go.V
namespace Go.V
theorem sr {o:aa}{n:Int}{j:Nat}(h:Rw [tI,tI,tI] o)(n0:0<=n)(n1:n<o.length)(hj:j<3):∃ rec o',bV (L.s 3 o) [(n.toNat,j)]=some (rec,o')/\o'+[L.v (Zi Zp 0)].length<=rec.length/\Ya [L.v (Zi Zp 0)].length (Yp o' rec)=mN ah (L.s 3 o) [(n.toNat,j)] 0 [L.v (Zi Zp 0)]:=by
 rcases(show j=0\/j=1\/j=2 by omega)with rfl|rfl|rfl
 ·exact fV (z0:=[.i 0,.i 0,.i 0]) (z:=[.i 0]) h.wf (by omega) rfl (by decide)
 ·exact fV (z0:=[.i 0,.i 0,.i 0]) (z:=[.i 0]) h.wf (by omega) rfl (by decide)
 ·exact fV (z0:=[.i 0,.i 0,.i 0]) (z:=[.i 0]) h.wf (by omega) rfl (by decide)
section
variable {a0 a1 a2: aa} {a3: Int} {a4 a5 a6 a7 a8 a9 aA aB: aa} {aC: Int} {aD: aa} {aE aF aG aH: Int} {aI: Bool} {aJ aK: Int} {aL: aa} {aM aN: Int} {i: Int}
theorem acP {t l:Int}(m:rW a0 a1 a2)(h0:Rw [.sl [tI]] a0)(h1:Rw [tB] a1)(h2:Rw [tI,tI] a2):rW (duC a0 a1 a2 t l) (duU a0 a1 a2 t l) (duE a0 a1 a2 t l)/\Rw [.sl [tI]] (duC a0 a1 a2 t l)/\Rw [tB] (duU a0 a1 a2 t l)/\Rw [tI,tI] (duE a0 a1 a2 t l)/\(duE a0 a1 a2 t l).length=a2.length/\ak (duC a0 a1 a2 t l)<=1024/\ak (duU a0 a1 a2 t l)<=64/\ak (duE a0 a1 a2 t l)<=64:=by
 have h:=I9 (t:=t) m h0 h1 h2 l.toNat;have e:∀ X:aa->aa->aa->Int->Int->aa,True:=fun _=>trivial
 have c:duC a0 a1 a2 t l=duC a0 a1 a2 t (l.toNat:Int):=by unfold duC;rw[Zy]
 have u:duU a0 a1 a2 t l=duU a0 a1 a2 t (l.toNat:Int):=by unfold duU;rw[Zy]
 have s:duE a0 a1 a2 t l=duE a0 a1 a2 t (l.toNat:Int):=by unfold duE;rw[Zy]
 rw[c,u,s];exact⟨h.m,h.rc,h.ru,h.re,h.l,Ja h⟩
theorem acO (hc:o6 a0 a1 a2 a4 a5 a6 a7 a8 a9 aA aB aD aL):o6 a0 a1 a2 a4 a5 (delL a6 i (i+1)) a7 a8 a9 aA aB aD aL:=by
 have s:=tV (i:=i) (j:=i+1) hc.r6 (by omega);have c6:=hc.c6;have n6:=hc.r6.cnt rfl;have z6:=s.1.cnt rfl;exact⟨hc.r0,hc.r1,hc.r2,hc.r4,hc.r5,s.1,hc.r7,hc.r8,hc.r9,hc.r10,hc.r11,hc.r13,hc.r21,hc.c0,hc.c1,hc.c2,hc.c4,hc.c5,by rw[z6];have:=s.2;omega,hc.c7,hc.c8,hc.c9,hc.c10,hc.c11,hc.c13,hc.c21⟩
theorem HC {a6:aa}{i:Int}(i0:0<=i)(i1:i<a6.length):[]++sc a6 (XL 0) (Kt i 0)++sc a6 (i+1).toNat (Kt (a6.length:Int) (i+1))=dsS a6 i:=by
 unfold dsS delL sc Kt;rw[List.nil_append];have e:Ya (((a6.length:Int).toNat- (i+1).toNat:Nat)) (Yp (i+1).toNat a6)=Yp (i+1).toNat a6:=Yi (by rw[Zu];omega);rw[e];simp
theorem agY:dsF a0 a1 a2 a5 a6 i=rpL (zlI (kuE a2 (ab a6 i 0))) a5 (ab a6 i 0) 1:=by unfold dsF;rw[LQ.2.2]
section
variable {k m: Bool} {c x y p: Int} {sp: aa}
end
theorem LG {cs us es rs:aa}{c:Int}(h:kerOk cs us es c rs=true)(q:ccB cs us es c rs=false):c=100000:=by
 by_cases e:c=100000;exact e
 ·rw[Rk e,h]at q;cases q
theorem acX (h:hpI a0 a1 a2 a3 a4 a5 a6 a7 a8 a9 aA aB aC aD aE aF aG aH aI aJ aK aL aM aN=true):a5.length<=32:=by
 have T:=vN (jg h).r;have n:=T.n1;have:∀ (l:List Pr) (t:Int),CB l->(∀ x∈l,t<=x.1/\1<=x.2/\x.1+x.2<=(a2.length:Int))->t+l.length<=(a2.length:Int)\/l=[]:=by
  intro l
  induction l with
  |nil=>intro t _ _;exact .inr rfl
  | cons x l ih=>
    intro t c b;have bx:=b x (by simp);refine .inl ?_;rcases ih (x.1+x.2) (vy c) (fun y hy=>by have:=vu c y hy;have:=b y (by simp[hy]);omega)with q|q
    ·rw[Zn];omega
    ·rw[q];simp only[Zn,Zr];omega
 have q:=this (na a5) 0 T.c (fun x hx=>by have:=T.b x hx;omega);rw[nI]at q;rcases q with q|q;omega
 ·have:=congrArg Xe q;rw[nI]at this;simp at this;rw[this];decide
end
end Go.V
namespace Go.V
theorem aag {r0 r1 r2 r3 r4 r5 r6 r7 r8 r9 r10 r11 r12:aa}(h:o6 r0 r1 r2 r3 r4 r5 r6 r7 r8 r9 r10 r11 r12):aQ [r0,r1,r2,r3,r4,r5,r6,r7,r8,r9,r10,r11,r12]<=1099511627776:=by
 have c0:=h.c0;have c1:=h.c1;have c2:=h.c2;have c3:=h.c4;have c4:=h.c5;have c5:=h.c6;have c6:=h.c7;have c7:=h.c8;have c8:=h.c9;have c9:=h.c10;have c10:=h.c11;have c11:=h.c13;have c12:=h.c21;simp only[aQ];omega
section
variable {a0 a1 a2: aa} {a3: Int} {a4 a5 a6 a7 a8 a9 aA aB: aa} {aC: Int} {aD: aa} {aE aF aG aH: Int} {aI: Bool} {aJ aK: Int} {aL: aa} {aM aN: Int} {p: Int}
end
end Go.V
namespace Go.V
end Go.V
namespace Go.V
def ltB (p n s z:Int):Bool:=lgOk p n s&&inR z 9 s
structure LtT (p n s z:Int):Prop where
 g:lgOk p n s=true
 zi:inR z 9 1000=true
 z0:9<=z/\z<=1000/\z<=s
 p0:0<=p
 n1:p+n<=32
 m0:1<=pfN z/\pfN z<=n
 m1:z<=pfN z*16/\pfN z*16<z+16
theorem JE {cs us es:aa}{p:Int}(m:rW cs us es)(h:peM es p≠0):0<=peF es p/\peF es p<cs.length:=by
 have q:=Eu m (p:=p) (VT h);have e:=Nv h;rw[e.2.2];exact q
def pmB (p ad:Int):Bool:=eqB (bO .mul Za p 16) ad
def yf (lg:aa)(ad j:Int):Bool:=pmB (ab lg j 0) ad
def lhI (lg:aa)(ad:Int):Int:=dy (yf lg ad) lg.length
def tcN (cs:aa)(f k:Int):Nat->aa
 |0=>cs
 |i+1=>wL (tcN cs f k i) f (k+i) 0
def tcC (cs es:aa)(a n:Int):aa:=tcN cs (peF es (a/16)) (a%16) n.toNat
structure OZ (cs us es:aa)(f k i:Int)(c:aa):Prop where
 e:c=tcN cs f k i.toNat
 m:rW c us es
 w:Rw [.sl [tI]] c
section
variable {cs us es c: aa} {f k i p: Int}
theorem Oh (m:rW cs us es)(w:Rw [.sl [tI]] cs):OZ cs us es f k 0 cs:=⟨rfl,m,w⟩
theorem Ix (h:OZ cs us es f k i c)(i0:0<=i)(hp:peM es p≠0)(ef:peF es p=f)(k0:0<=k)(k1:k+i<16):OZ cs us es f k (i+1) (wL c f (k+i) 0):=by
 refine⟨?_,afN h.m hp ef (by omega) k1 (by omega) (by omega),(have fr:=JE h.m hp;Oe h.w (by omega) (by omega) (by omega))⟩;rw[show(i+1).toNat=i.toNat+1 by omega,h.e];show _=wL (tcN cs f k i.toNat) f (k+(i.toNat:Int)) 0;rw[show(k+(i.toNat:Int))=k+i by omega]
theorem Ki (h:OZ cs us es f k i c){n:Int}(i1:i<=n)(i2:n<=i):c=tcN cs f k n.toNat:=by rw[h.e,show i=n by omega]
theorem Kh (m:rW cs us es)(w:Rw [.sl [tI]] cs)(hp:peM es p≠0)(ef:peF es p=f)(k0:0<=k):∀ n:Nat,k+n<=16->OZ cs us es f k n (tcN cs f k n)
 |0,_=>Oh m w
 | n+1,h=>by
   have q:=Ix (Kh m w hp ef k0 n (by omega)) (by omega) hp ef k0 (by omega);have e:((n+1:Nat):Int)=(n:Int)+1:=by omega
   rw[e];exact q
end
end Go.V
namespace Go.V
def tmP (a7:aa)(ad:Int):Int:=ab a7 (lhI a7 ad) 0
def tmN (a7:aa)(ad:Int):Int:=ab a7 (lhI a7 ad) 1
def tmS (a7:aa)(ad:Int):Int:=ab a7 (lhI a7 ad) 2
def tmD (a0 a2 a7:aa)(ad z:Int):aa:=tcC a0 a2 (tmP a7 ad*16+z) ((16- (tmP a7 ad*16+z)%16)%16)
section
variable {a0 a1 a2: aa} {a3: Int} {a4 a5 a6 a7 a8 a9 aA aB: aa} {aC: Int} {aD: aa} {aE aF aG aH: Int} {aI: Bool} {aJ aK: Int} {aL: aa} {aM aN ad z k: Int}
structure TmT (a1 a2 a5 a7 a8 a0:aa)(ad z:Int):Prop where
 k0:0<=lhI a7 ad
 k1:lhI a7 ad<a7.length
 p:tmP a7 ad*16=ad
 t:LtT (tmP a7 ad) (tmN a7 ad) (tmS a7 ad) z
 b:ltB (tmP a7 ad) (tmN a7 ad) (tmS a7 ad) z=true
 o0:0<=obI a8 ad
 o1:obI a8 ad<a8.length
 m:rW a0 a1 a2
 g:∀ q:Int,tmP a7 ad<=q->q<tmP a7 ad+tmN a7 ad->peM a2 q≠0
 f:a5.length<=32
 d:rW (tmD a0 a2 a7 ad z) a1 a2
 dw:Rw [.sl [tI]] (tmD a0 a2 a7 ad z)
theorem ahu {lg:aa}(h:0<=lhI lg ad):lhI lg ad<lg.length/\bO .mul Za (ab lg (lhI lg ad) 0) 16=ad:=by
 have t:=fM h;change lhI lg ad<lg.length/\yf lg ad (lhI lg ad)=true at t;exact⟨t.1,VY t.2⟩
end
end Go.V
namespace Go.V
theorem uh {o:aa}{n:Int}(h:Rw [tI,tI,tI] o)(n0:0<=n)(n1:n<o.length):∃ rec o',bV (L.s 3 o) [(n.toNat,0)]=some (rec,o')/\o'+[L.v (Zi Zp 0),L.v (Zi Zp 0),L.v (Zi Zp 0)].length<=rec.length/\Ya [L.v (Zi Zp 0),L.v (Zi Zp 0),L.v (Zi Zp 0)].length (Yp o' rec)=mN ah (L.s 3 o) [(n.toNat,0)] 0 [L.v (Zi Zp 0),L.v (Zi Zp 0),L.v (Zi Zp 0)]:=
 fV (z0:=[.i 0,.i 0,.i 0]) (z:=[.i 0,.i 0,.i 0]) h.wf (by omega) rfl (by decide)
theorem Tw {o:aa}{n:Int}(h:Rw [tI,tI,tI] o)(n0:0<=n)(n1:n<o.length):∃ rec o',bV (.s 3 o) [(n.toNat,0)]=some (rec,o')/\o'+3<=rec.length:=gS (by omega) (by rw[h.eta n0 n1];exact Zd _)
section
variable {a0 a1 a2 a5 a7 a8 c: aa} {ad z x: Int}
end
end Go.V
namespace Go.V
section
variable {a0 a1 a2: aa} {a3: Int} {a4 a5 a6 a7 a8 a9 aA aB: aa} {aC: Int} {aD: aa} {aE aF aG aH: Int} {aI: Bool} {aJ aK: Int} {aL: aa} {aM aN ad z: Int}
end
end Go.V
namespace Go.V
section
variable {cs us es rs: aa} {c p q m: Int}
end
end Go.V
namespace Go.V
structure KcP (cs es:aa)(p q:Int)(xs:aa)(i:Int)(d:aa):Prop where
 z:i=0->d=cs
 o:0<i->inR (ab xs 0 0) 0 15=true/\d=wL cs (peF es q) (ab xs 0 0) (ab (aw cs (peF es p) 0) (ab xs 0 0) 0)
section
variable {cs us es xs d: aa} {p q i: Int}
end
end Go.V
namespace Go.V
def ifN (b:Bool)(x y:Int):Int:=if b=true then x else y
section
variable {cs us es rs xs: aa} {c kp mv ph nx: Int} {k: Bool}
structure JbT (kp mv:Int)(xs:aa)(ph nx:Int):Prop where
 k0:0<=kp
 k1:kp<=31
 m0:0<=mv
 m1:mv<=31
 p0:0<=ph
 p1:ph<=5
 n0:0<=nx
 n1:nx<=xs.length
 x:∀ i:Int,0<=i->i<xs.length->0<=ab xs i 0/\ab xs i 0<=15
end
end Go.V
namespace Go.V
section
variable {a0 a1 a2: aa} {a3: Int} {a4 a5 a6 a7 a8 a9 aA aB: aa} {aC: Int} {aD: aa} {aJ aK: Int} {aL: aa} {aM aN: Int} {g: Bool}
end
end Go.V
namespace Go.V
def woN (b i:Int):Int:=if slB b i=true then bO .andNot Za b (Qt .shl Za 1 i)else b
theorem aac {a b:Int}:bO .andNot Za a b=(y7 a&&& ~~~ y7 b).toInt:=Kl _
theorem afL {t:Nat}(ht:t<=15):Qt .shl Za 1 (t:Int)=((2^t:Nat):Int):=by
 show YO Za (1*2^(min (t:Int).toNat 64))=_;rw[show min (t:Int).toNat 64=t by omega,Int.one_mul];have h:t=0\/t=1\/t=2\/t=3\/t=4\/t=5\/t=6\/t=7\/t=8\/t=9\/t=10\/t=11\/t=12\/t=13\/t=14\/t=15:=by omega
 rcases h with rfl|rfl|rfl|rfl|rfl|rfl|rfl|rfl|rfl|rfl|rfl|rfl|rfl|rfl|rfl|rfl<;>rfl
theorem Ow {b:Int}{i t:Nat}(b0:0<=b)(b1:b<65536)(hi:i<=15)(ht:t<=15):(0<=woN b i/\woN b i<=b)/\hsB (woN b i) t=(hsB b t&&decide (t≠i)):=by
 have hs:slB b i=true:=KS.2 ⟨b0,by omega,by omega⟩;obtain⟨n,rfl⟩:=Z5 b0;have w:woN (n:Int) i=(y7 n&&& ~~~ y7 ((2^i:Nat):Int)).toInt:=by unfold woN;rw[VW hs,afL hi,aac]
 have x:(y7 (n:Int)).toNat=n:=by unfold y7;rw[XN,Xz];omega
 have l:(y7 (n:Int)&&& ~~~ y7 ((2^i:Nat):Int)).toNat<=n:=by rw[WY];exact ZX Nat.and_le_left (by rw[x];exact Zd _)
 have e:(y7 (n:Int)&&& ~~~ y7 ((2^i:Nat):Int)).toInt=((y7 (n:Int)&&& ~~~ y7 ((2^i:Nat):Int)).toNat:Int):=WZ (by omega);have bd:0<=woN (n:Int) i/\woN (n:Int) i<=n:=by rw[w,e];omega
 refine⟨bd,?_⟩;rw[HN bd.1 (by omega) ht,HN b0 b1 ht,w,aaf,BitVec.getLsbD_and,BitVec.getLsbD_not];have p:(y7 ((2^i:Nat):Int)).getLsbD t=decide (t=i):=by
  unfold y7;rw[XN,W0,Nat.testBit_two_pow,VT (show t<64 by omega),Yy];by_cases c:t=i
  ·rw[VT c,VT c.symm]
  ·rw[VU c,VU (fun e=>c e.symm)]
 rw[p,VT (show t<64 by omega),Yy];by_cases c:t=i
 ·rw[VT c,VU (fun h=>h c)];rfl
 ·rw[VU c,VT c];rfl
theorem PI {t:Int}:hsB 0 t=false:=by
 cases q:hsB 0 t with
 |false=>rfl
 | true=>
   exfalso;have s:slB 0 t=true:=by
    cases s:slB 0 t with
    |true=>rfl
    |false=>rw[Ml s]at q;cases q
   have r:=KS.1 s;obtain⟨n,rfl⟩:=Z5 r.2.1;rw[HN (by omega) (by omega) (by omega)]at q;simp[y7]at q
structure uM (S:aa):Prop where
 s:∀ i:Nat,i<S.length->spOk (ab S i 0) (ab S i 1) (ab S i 2)=true
 d:∀ i j:Nat,i<S.length->j<S.length->ab S i 0=ab S j 0->i=j
structure rV (S:aa)(a:Int)(i:Nat):Prop where
 l:i<S.length
 p:ab S i 0=a/16
 b:hsB (ab S i 2) ((a-ab S i 0*16)/clsSz (ab S i 1))=true
 o:(a-ab S i 0*16)%clsSz (ab S i 1)=0
theorem Oa {sp lg:aa}(h:QX sp lg):uM sp:=⟨h.s,h.ss⟩
section
variable {S: aa} {a b: Int} {i j: Nat}
theorem Sl (g:uM S)(h:rV S a i):Fq (ab S i 0) (ab S i 1) (ab S i 2) a=true:=by
 have p:=h.p;exact sX.2 ⟨g.s i h.l,by omega,by omega⟩
theorem jy (g:uM S)(h:rV S a i):hD S a=i/\spI S (a/16)=i/\yP S a i=(a-ab S i 0*16)/clsSz (ab S i 1):=by
 have t:=Sl g h;refine⟨?_,?_,?_⟩
 ·refine dM (fun k k0 k1=>?_) (by omega) (by have:=h.l;omega) (Be.2 t);refine ji ?_;cases c:BI S a k with
  |false=>rfl
  | true=>
    exfalso;have u:=(sX.1 (Be.1 c)).2;have p:=h.p;have e:=g.d k.toNat i (by have:=h.l;omega) h.l (by rw[Zt k0];omega);omega
 ·refine dM (fun k k0 k1=>?_) (by omega) (by have:=h.l;omega) (tW h.p);refine ji ?_;cases c:isSp S (a/16) k with
  |false=>rfl
  | true=>
    exfalso;have c':ab S k 0=a/16:=VY c;have p:=h.p;have e:=g.d k.toNat i (by have:=h.l;omega) h.l (by rw[Zt k0];omega);omega
 ·unfold yP saS;rw[VW t]
end
end Go.V
namespace Go.V
def Jg (S:aa)(i s:Int):aa:=S.set i.toNat [.i (ab S i 0),.i (ab S i 1),.i (woN (ab S i 2) s)]
def js (S:aa)(a:Int):aa:=Jg S (hD S a) (yP S a (hD S a))
def G8 (me:Bool)(kp mv:Int)(S:aa)(a:Int):Bool:=decide (ab (js S a) (hD S a) 2=0)&& !bsB me kp mv (ab (js S a) (hD S a) 0)
structure IP where
 C:aa
 U:aa
 E:aa
 F:aa
 S:aa
def f1 (me:Bool)(kp mv:Int)(s:IP)(a:Int):IP:=
 ⟨ifR (G8 me kp mv s.S a) (dsC s.C s.U s.E (js s.S a) (hD s.S a)) s.C,ifR (G8 me kp mv s.S a) (dsU s.C s.U s.E (js s.S a) (hD s.S a)) s.U,ifR (G8 me kp mv s.S a) (dsE s.C s.U s.E (js s.S a) (hD s.S a)) s.E,
  ifR (G8 me kp mv s.S a) (dsF s.C s.U s.E s.F (js s.S a) (hD s.S a)) s.F,ifR (G8 me kp mv s.S a) (dsS (js s.S a) (hD s.S a)) (js s.S a)⟩
structure QQ (s:IP):Prop where
 m:rW s.C s.U s.E
 rc:Rw [.sl [tI]] s.C
 ru:Rw [tB] s.U
 re:Rw [tI,tI] s.E
 rf:Rw [tI,tI] s.F
 rs:Rw [tI,tI,tI] s.S
 lf:s.F.length<=65
 ls:s.S.length<=1073741824
 g:uM s.S
theorem LJ {n:Int}:∀ {l:List Pr},CB l->(∀ x∈l,1<=x.2/\x.1+x.2<=n)->∀ {m:Int},(∀ x,l.head?=some x->m<=x.1)->l=[]\/m+l.length<=n
 |[],_,_,_,_=>.inl rfl
 |[x],_,b,m,h=>.inr (by have:=b x (by simp);have:=h x rfl;simp only[Zn,Zr];omega)
 | x::y::l,c,b,m,h=>by
   have q:=LJ (l:=y::l) c.2.2 (fun z hz=>b z (by simp only[Zl]at hz ⊢;exact .inr hz)) (m:=m+1) (fun z hz=>by
    simp only[List.head?_cons,Yd]at hz;subst hz;have:=b x (by simp);have:=h x rfl;have:=c.2.1;omega)
   rcases q with q|q
   ·cases q
   ·right;simp only[Zn]at q ⊢;omega
theorem NR {n:Int}{rs:aa}(h:rgOk n rs=true):rs.length<=32:=by
 have T:=vN h;have q:=LJ (n:=n) T.c (fun x hx=>⟨(T.b x hx).2.1,(T.b x hx).2.2⟩) (m:=0) (fun x hx=>(T.b x (List.mem_of_mem_head? hx)).1);have l:(na rs).length=rs.length:=by unfold na;rw[YH]
 have n1:=T.n1;rcases q with q|q
 ·rw[q]at l;simp only[Zr]at l;omega
 ·omega
theorem Qk {n a l:Int}{rs:aa}(w:Rw [tI,tI] rs)(hl:rs.length<=65):(rpL n rs a l).length<=65:=by
 cases h:rpB n rs a l with
 |false=>rw[GA h];exact hl
 | true=>
   have g:rgOk n rs=true:=by unfold rpB at h;simp only[Zc]at h;exact h.1
   have q:=ET (n:=n) (a0:=a) (l0:=l) w (by omega);have:=NR g;omega
section
variable {S: aa} {a b x: Int} {i j: Nat}
theorem F1 (h:i<S.length)(s k:Int)(k0:0<=k):ab (Jg S i s) k 0=ab S k 0/\ab (Jg S i s) k 1=ab S k 1/\ab (Jg S i s) k 2=if k=i then woN (ab S i 2) s else ab S k 2:=by
 unfold Jg;refine⟨?_,?_,?_⟩
 ·rw[RQ (by omega) (by omega) k0];split
  ·rename_i e;rw[e];rfl
  ·rfl
 ·rw[RQ (by omega) (by omega) k0];split
  ·rename_i e;rw[e];rfl
  ·rfl
 ·rw[RQ (by omega) (by omega) k0];rfl
theorem vC {s:Int}:(Jg S i s).length=S.length:=ZE
theorem aca {p k b b':Int}(h:spOk p k b=true)(h0:0<=b')(h1:b'<=b):spOk p k b'=true:=by
 unfold spOk bmOk at h ⊢;simp only[Zc,bH]at h ⊢;exact⟨h.1,h.2.1,h0,by omega⟩
theorem ag8 (g:uM S)(h:i<S.length){t:Nat}(ht:t<=15):uM (Jg S i t):=by
 have sb:=EY (g.s i h);refine⟨fun k hk=>?_,fun k k' hk hk' e=>?_⟩
 ·rw[vC]at hk;have q:=F1 h t k (by omega);rw[q.1,q.2.1,q.2.2];split
  ·rename_i e;have e':k=i:=by omega
   subst e';have w:=(Ow sb.1 sb.2 ht (Zg 15)).1;exact aca (g.s k h) w.1 w.2
  ·exact g.s k hk
 ·rw[vC]at hk hk';rw[(F1 h t k (by omega)).1,(F1 h t k' (by omega)).1]at e;exact g.d k k' hk hk' e
theorem Bf (g:uM S)(h:rV S a i):∃ t:Nat,t<=15/\yP S a i=t/\hsB (ab S i 2) t=true:=by
 have q:=jy g h;have b:=h.b;rw[<-q.2.2]at b;have s:slB (ab S i 2) (yP S a i)=true:=by
  cases s:slB (ab S i 2) (yP S a i)with
  |true=>rfl
  |false=>rw[Ml s]at b;cases b
 have r:=KS.1 s;exact⟨(yP S a i).toNat,by omega,by omega,by rw[Zt r.2.1];exact b⟩
theorem ac3 (g:uM S)(h:rV S a i)(k:rV S b j)(ne:a≠b):rV (js S a) b j:=by
 obtain⟨t,ht,es,hb⟩:=Bf g h;have q:=jy g h;have e1:js S a=Jg S i t:=by unfold js;rw[q.1,es]
 have f:=F1 h.l t j (by omega);rw[e1];refine⟨by rw[vC];exact k.l,by rw[f.1];exact k.p,?_,by rw[f.1,f.2.1];exact k.o⟩;rw[f.1,f.2.1,f.2.2];split
 ·rename_i e;have e':j=i:=by omega
  subst e';obtain⟨u,hu,eu,hbu⟩:=Bf g k;have qk:=jy g k;have sb:=EY (g.s j h.l);rw[<-qk.2.2,eu,(Ow sb.1 sb.2 ht hu).2,hbu];have:u≠t:=fun c=>by
   subst c;have o1:=h.o;have o2:=k.o;have w1:=q.2.2;have w2:=qk.2.2;rw[es]at w1;rw[eu]at w2;have d1:=W6 (a-ab S j 0*16) (clsSz (ab S j 1));have d2:=W6 (b-ab S j 0*16) (clsSz (ab S j 1));rw[<-w1,o1]at d1;rw[<-w2,o2]at d2;omega
  rw[VT this];rfl
 ·exact k.b
theorem gz {k:Int}(h:i<S.length)(k0:0<=k)(n:Nat):ab (delL S i (i+1)) k n=ab S (if k<i then k else k+1) n:=by
 unfold delL ab;simp only[Zo];rw[show((i:Int)).toNat=i by omega,show((i:Int)+1).toNat=i+1 by omega];by_cases c:k<i
 ·rw[VW c,Z8 (by rw[Zk];omega),Y3 (by omega)]
 ·rw[VX c,ZQ (by rw[Zk];omega),List.getElem?_drop];rw[show i+1+(k.toNat- (Ya i S).length)=(k+1).toNat by rw[Zk];omega]
theorem I6 (h:i<S.length):(delL S i (i+1)).length+1=S.length:=by
 unfold delL;rw[Ze,Zk,Zu];omega
theorem acL (g:uM S)(h:i<S.length):uM (delL S i (i+1)):=by
 have l:=I6 h;have z:∀ k:Nat,k<(delL S i (i+1)).length->∃ k':Nat,k'<S.length/\(if(k:Int)<i then(k:Int)else(k:Int)+1)=k'/\(k'=if k<i then k else k+1):=fun k hk=>by
  by_cases c:k<i;exact⟨k,by omega,by rw[VW (by omega)],by rw[VW c]⟩;exact⟨k+1,by omega,by rw[VX (by omega)];omega,by rw[VX c]⟩
 refine⟨fun k hk=>?_,fun k k' hk hk' e=>?_⟩
 ·obtain⟨u,u1,u2,_⟩:=z k hk;rw[gz h (by omega),gz h (by omega),gz h (by omega),u2];exact g.s u u1
 ·obtain⟨u,u1,u2,u3⟩:=z k hk;obtain⟨v,v1,v2,v3⟩:=z k' hk';rw[gz h (by omega),gz h (by omega),u2,v2]at e;have:=g.d u v u1 v1 e;subst this;rw[u3]at v3;split at v3<;>split at v3<;>omega
theorem aar (h:i<S.length)(z:ab S i 2=0)(k:rV S b j):∃ j',rV (delL S i (i+1)) b j':=by
 have l:=I6 h;have ne:j≠i:=fun e=>by subst e;have:=k.b;rw[z,PI]at this;cases this
 have kl:=k.l;by_cases c:j<i
 ·refine⟨j,by omega,?_,?_,?_⟩
  ·rw[gz h (by omega),VW (by omega)];exact k.p
  ·rw[gz h (by omega),gz h (by omega),gz h (by omega),VW (by omega)];exact k.b
  ·rw[gz h (by omega),gz h (by omega),VW (by omega)];exact k.o
 ·refine⟨j-1,by omega,?_,?_,?_⟩
  ·rw[gz h (by omega),VX (by omega),show((j-1:Nat):Int)+1=j by omega];exact k.p
  ·rw[gz h (by omega),gz h (by omega),gz h (by omega),VX (by omega),show((j-1:Nat):Int)+1=j by omega];exact k.b
  ·rw[gz h (by omega),gz h (by omega),VX (by omega),show((j-1:Nat):Int)+1=j by omega];exact k.o
end
end Go.V
namespace Go.V
theorem RO {S:aa}{i t:Nat}(w:Rw [tI,tI,tI] S)(g:uM S)(h:i<S.length)(ht:t<=15):Rw [tI,tI,tI] (Jg S i t):=by
 have ok:=ku (g.s i h);have sb:=EY (g.s i h);have wo:=(Ow sb.1 sb.2 ht (Zg 15)).1;have k:=bH.1 ok.2.2.1;exact w.set (show cp [tI,tI,tI] [.i (ab S i 0),.i (ab S i 1),.i (woN (ab S i 2) t)]from⟨⟨rfl,show-9223372036854775808<=ab S i 0/\ab S i 0<=9223372036854775807 from by omega⟩,⟨rfl,show-9223372036854775808<=ab S i 1/\ab S i 1<=9223372036854775807 from by omega⟩,⟨rfl,show-9223372036854775808<=woN (ab S i 2) t/\woN (ab S i 2) t<=9223372036854775807 from by omega⟩,trivial⟩) _
section
variable {s: IP} {a b: Int} {i j: Nat} {me: Bool} {kp mv: Int}
theorem aaC (h:QQ s)(v:rV s.S a i):QQ (f1 me kp mv s a):=by
 obtain⟨t,ht,es,hb⟩:=Bf h.g v;have q:=jy h.g v;have e1:js s.S a=Jg s.S i t:=by unfold js;rw[q.1,es]
 have g1:uM (js s.S a):=by rw[e1];exact ag8 h.g v.l ht
 have w1:Rw [tI,tI,tI] (js s.S a):=by rw[e1];exact RO h.rs h.g v.l ht
 have l1:(js s.S a).length=s.S.length:=by rw[e1];exact vC
 have vl:=v.l;unfold f1;cases c:G8 me kp mv s.S a with
 |false=>exact⟨h.m,h.rc,h.ru,h.re,h.rf,w1,h.lf,by show(js s.S a).length<=_;rw[l1];exact h.ls,g1⟩
 | true=>
   rw[q.1];have k:=LQ (a0:=s.C) (a1:=s.U) (a2:=s.E) (a6:=js s.S a) (i:=i);have r:=Sd (p:=ab (js s.S a) i 0) h.rc h.ru h.re;have d:=tV (i:=i) (j:=(i:Int)+1) w1 (by omega);refine⟨?_,?_,?_,?_,?_,d.1,?_,?_,acL g1 (by rw[l1];exact vl)⟩
   ·show rW (dsC _ _ _ _ _) (dsU _ _ _ _ _) (dsE _ _ _ _ _);rw[k.1,k.2.1,k.2.2];exact adV h.m
   ·show Rw _ (dsC _ _ _ _ _);rw[k.1];exact r.1
   ·show Rw _ (dsU _ _ _ _ _);rw[k.2.1];exact r.2.1
   ·show Rw _ (dsE _ _ _ _ _);rw[k.2.2];exact r.2.2
   ·exact(ET (n:=zlI (dsE s.C s.U s.E (js s.S a) i)) (a0:=ab (js s.S a) i 0) (l0:=1) h.rf (by have:=h.lf;omega)).1
   ·exact Qk (n:=zlI (dsE s.C s.U s.E (js s.S a) i)) (a:=ab (js s.S a) i 0) (l:=1) h.rf h.lf
   ·have:=h.ls;show(delL _ _ _).length<=_;omega
theorem acS (h:QQ s)(v:rV s.S a i)(k:rV s.S b j)(ne:a≠b):∃ j',rV (f1 me kp mv s a).S b j':=by
 have q:=jy h.g v;have w:=ac3 h.g v k ne;unfold f1;cases c:G8 me kp mv s.S a with
 |false=>exact⟨j,w⟩
 | true=>
   obtain⟨t,ht,es,hb⟩:=Bf h.g v;have e1:js s.S a=Jg s.S i t:=by unfold js;rw[q.1,es]
   have l1:(js s.S a).length=s.S.length:=by rw[e1];exact vC
   unfold G8 at c;simp only[Zc,VV]at c;have z:=c.1;rw[q.1]at z ⊢;exact aar (by rw[l1];exact v.l) z w
end
def fN (me:Bool)(kp mv:Int)(l:aa)(s:IP):Nat->IP
 |0=>s
 |n+1=>f1 me kp mv (fN me kp mv l s n) (ab l n 0)
structure FqI (l:aa)(i:Nat)(s:IP):Prop where
 fr:QQ s
 q:∀ j:Nat,i<=j->j<l.length->∃ k,rV s.S (ab l j 0) k
def La (l:aa):Prop:=∀ i j:Nat,i<j->j<l.length->ab l i 0≠ab l j 0
theorem CO {p:Int->Bool}{n:Nat}(h:¬ 0<=dy p n){j:Nat}(hj:j<n):p j=false:=by
 unfold dy at h;split at h
 ·exact absurd (by omega) h
 ·rename_i e;have:=WQ.1 e j (Ye.2 hj)
  simpa using this
section
variable {a0 a1 a2: aa} {a3: Int} {a4 a5 a6 a7 a8 a9 aA aB: aa} {aC: Int} {aD: aa} {aE aF aG aH: Int} {aI: Bool} {aJ aK: Int} {aL: aa} {aM aN: Int}
theorem afe {rm:Int}{qs:aa}(h:quarOk rm qs=true):La qs:=fun i j ij hj e=>by
 unfold quarOk at h;simp only[Zc]at h;have q:=dh.1 h.1 j (by omega) (by omega);unfold EQ stlOk at q;simp only[Zc,YB]at q;have nq:=q.2.2.2.1;unfold qtB qtI at nq;have l:(qs.take (j:Int).toNat).length=j:=by rw[Zk];omega
 have z:=CO (VZ nq) (j:=i) (by rw[l];exact ij);unfold yg at z;have t:ab (qs.take (j:Int).toNat) i 0=ab qs i 0:=by
  unfold ab;rw[Zo (l:=Ya _ _),Zo (l:=qs),Y3 (by omega)]
 rw[t,e]at z;unfold eqB at z;exact absurd rfl (VZ z)
theorem Mg {S L:aa}{a k:Int}(h:hlB S L a k=true):∃ i,rV S a i:=by
 unfold hlB at h;simp only[Zc,VV]at h;obtain⟨e,q,l,t⟩:=LP h.1;have o:=h.2.1;unfold dnO at o;rw[VW q]at o;have u:=(sX.1 t).2;have hk:=h.1;unfold dnK at hk;rw[VW q]at hk;have hb:hsB (ab S (hD S a) 2) (yP S a (hD S a))=true:=by
  cases c:hsB (ab S (hD S a) 2) (yP S a (hD S a))with
  |true=>rfl
  |false=>rw[c]at hk;simp at hk
 unfold yP saS at hb;rw[VW t]at hb;unfold Qv saO at o;rw[VW t]at o;obtain⟨n,en⟩:=Z5 q;rw[en]at hb o u l;exact⟨n,by omega,by omega,hb,o⟩
theorem adf (hc:o6 a0 a1 a2 a4 a5 a6 a7 a8 a9 aA aB aD aL)(h:hpI a0 a1 a2 a3 a4 a5 a6 a7 a8 a9 aA aB aC aD aE aF aG aH aI aJ aK aL aM aN=true):QQ ⟨a0,a1,a2,a5,a6⟩:=by
 have T:=jg h;have l6:=au (es:=a6);have c6:=hc.c6;exact⟨(oR T.k).1,hc.r0,hc.r1,hc.r2,hc.r5,hc.r6,by have:=NR T.r;show a5.length<=65;omega,by show a6.length<=_;omega,Oa (MW T.l)⟩
theorem adj (h:hpI a0 a1 a2 a3 a4 a5 a6 a7 a8 a9 aA aB aC aD aE aF aG aH aI aJ aK aL aM aN=true)(j:Nat)(hj:j<aD.length):∃ k,rV a6 (ab aD j 0) k:=by
 have T:=(jg h).h;unfold hoI at T;simp only[Zc]at T;have q:=dh.1 T.2.1 j (by omega) (by omega);unfold Il qA at q;simp only[Zc]at q;exact Mg q.1
theorem aaQ {l:aa}{n j k:Nat}(h:j<n):ab (l.take n) j k=ab l j k:=by
 unfold ab;rw[Zo (l:=Ya _ _),Zo (l:=l),Y3 (by omega)]
theorem Pp {l:aa}{n:Nat}(h:La l):La (l.take n):=fun i j ij hj=>by
 rw[Zk]at hj;rw[aaQ (by omega),aaQ (by omega)];exact h i j ij (by omega)
theorem RH {s:IP}{b13:aa}(hc:o6 a0 a1 a2 a4 a5 a6 a7 a8 a9 aA aB aD aL)(h:QQ s)(w:Rw [tI,tI,tI] b13)(l:b13.length<=1073741824):o6 s.C s.U s.E a4 s.F s.S a7 a8 a9 aA aB b13 aL:=by
 have n:=Ey h.m h.rc h.ru h.re;have f:ak s.F=s.F.length:=h.rf.cnt rfl;have g:ak s.S=s.S.length:=h.rs.cnt rfl;have b:ak b13=b13.length:=w.cnt rfl;have lf:=h.lf;have ls:=h.ls;exact⟨h.rc,h.ru,h.re,hc.r4,h.rf,h.rs,hc.r7,hc.r8,hc.r9,hc.r10,hc.r11,w,hc.r21,by omega,by omega,by omega,hc.c4,by omega,by omega,hc.c7,hc.c8,hc.c9,hc.c10,hc.c11,by omega,hc.c21⟩
end
end Go.V
namespace Go.V
def snB (p k b s:Int):Bool:=spOk p k b&&hsB b s
def snN (p k b s:Int):Int:=if snB p k b s=true then woN b s else b
def fzC (me:Bool)(kp mv:Int)(c u e f s:aa)(a:Int):aa:=(f1 me kp mv ⟨c,u,e,f,s⟩ a).C
def fzU (me:Bool)(kp mv:Int)(c u e f s:aa)(a:Int):aa:=(f1 me kp mv ⟨c,u,e,f,s⟩ a).U
def fzE (me:Bool)(kp mv:Int)(c u e f s:aa)(a:Int):aa:=(f1 me kp mv ⟨c,u,e,f,s⟩ a).E
def fzF (me:Bool)(kp mv:Int)(c u e f s:aa)(a:Int):aa:=(f1 me kp mv ⟨c,u,e,f,s⟩ a).F
def fzS (me:Bool)(kp mv:Int)(c u e f s:aa)(a:Int):aa:=(f1 me kp mv ⟨c,u,e,f,s⟩ a).S
def tkC (me:Bool)(kp mv:Int)(c u e f s l:aa):aa:=(fN me kp mv l ⟨c,u,e,f,s⟩ l.length).C
def tkU (me:Bool)(kp mv:Int)(c u e f s l:aa):aa:=(fN me kp mv l ⟨c,u,e,f,s⟩ l.length).U
def tkE (me:Bool)(kp mv:Int)(c u e f s l:aa):aa:=(fN me kp mv l ⟨c,u,e,f,s⟩ l.length).E
def tkF (me:Bool)(kp mv:Int)(c u e f s l:aa):aa:=(fN me kp mv l ⟨c,u,e,f,s⟩ l.length).F
def tkS (me:Bool)(kp mv:Int)(c u e f s l:aa):aa:=(fN me kp mv l ⟨c,u,e,f,s⟩ l.length).S
def ad3 (l:aa):Int:=l.length
def tgB (k:Bool)(c n ck:Int):Bool:=k&&(decide (c≠100000)&&(inR n 0 1000&&decide (ck+n<=1000000)))
def t0B (k:Bool)(c t:Int)(m:aa):Bool:=k&&(decide (c≠100000)&&inR t 0 (m.length-1))
structure TkP (me:Bool)(kp mv:Int)(l:aa)(s:IP)(i:Int)(c u e f t:aa):Prop where
 c:c=(fN me kp mv l s i.toNat).C
 u:u=(fN me kp mv l s i.toNat).U
 e:e=(fN me kp mv l s i.toNat).E
 f:f=(fN me kp mv l s i.toNat).F
 t:t=(fN me kp mv l s i.toNat).S
section
variable {me: Bool} {kp mv: Int} {l c u e f t c0 u0 e0 f0 t0: aa} {s: IP} {i a: Int}
theorem afO {p k b x:Int}(h:spOk p k b=true)(g:hsB b x=true):snB p k b x=true/\snN p k b x=woN b x:=by
 have q:snB p k b x=true:=by unfold snB;rw[h,g];rfl
 exact⟨q,by unfold snN;rw[VW q]⟩
theorem aie {p k b x:Int}(h:spOk p k b=false):snB p k b x=false/\snN p k b x=b:=by
 have q:snB p k b x=false:=by unfold snB;rw[h];rfl
 exact⟨q,by unfold snN;rw[q];rfl⟩
theorem aif {p k b x:Int}(h:hsB b x=false):snB p k b x=false/\snN p k b x=b:=by
 have q:snB p k b x=false:=by unfold snB;rw[h];simp
 exact⟨q,by unfold snN;rw[q];rfl⟩
end
theorem J9 {l:aa}{i:Int}(i0:0<=i)(i1:i<=l.length):sc l i.toNat (Kt (l.length:Int) i)=l.drop i.toNat:=by
 unfold sc Kt;exact Yi (by rw[Zu];omega)
theorem Ka {l:aa}{i:Int}:sc l (XL 0) (Kt i 0)=l.take i.toNat:=by
 unfold sc Kt;rw[show XL 0=0 from rfl,Y2,Nat.sub_zero]
section
variable {rm now age: Int} {qs: aa}
end
end Go.V
namespace Go.V
section
variable {S L: aa} {a: Int} {i: Nat}
theorem AS (g:uM S)(h:rV S a i):dnK S L a=1/\dnI S L a=i/\dnS S a=yP S a i:=by
 have q:=jy g h;have n:(0:Int)<=hD S a:=by rw[q.1];omega
 have b:=h.b;rw[<-q.2.2]at b;refine⟨?_,?_,?_⟩
 ·unfold dnK;rw[VW n,q.1,b];rfl
 ·unfold dnI;rw[VW n,q.1]
 ·unfold dnS;rw[VW n,q.1]
theorem vF (g:uM S)(h:rV S a i):0<=a/\a<=511/\0<=ab S i 0/\ab S i 0<=31:=by
 have t:=(sX.1 (Sl g h)).2;have p:=ku (g.s i h.l);omega
theorem RD (w:Rw [tI,tI,tI] S)(g:uM S)(h:rV S a i):
 rr (.s 3 S) [((i:Int).toNat,0)] [.i (ab S i 0),.i (ab S i 1),.i (snN (ab S i 0) (ab S i 1) (ab S i 2) (yP S a i))]=js S a:=by
 obtain⟨t,ht,es,hb⟩:=Bf g h;have q:=jy g h;have n:=afO (p:=ab S i 0) (k:=ab S i 1) (g.s i h.l) hb;have hl:=h.l;rw[es,n.2];unfold js;rw[q.1,es];unfold Jg;exact gU (by rw[w.eta (by omega) (by omega)];rfl)
theorem Ee (g:uM S)(h:rV S a i):ab (js S a) i 0=ab S i 0/\(js S a).length=S.length:=by
 obtain⟨t,ht,es,hb⟩:=Bf g h;have q:=jy g h;have e1:js S a=Jg S i t:=by unfold js;rw[q.1,es]
 rw[e1];exact⟨(F1 h.l t i (by omega)).1,vC⟩
theorem LV (w:Rw [tI,tI,tI] S)(g:uM S)(h:rV S a i):Rw [tI,tI,tI] (js S a):=by
 obtain⟨t,ht,es,hb⟩:=Bf g h;have q:=jy g h;have e1:js S a=Jg S i t:=by unfold js;rw[q.1,es]
 rw[e1];exact RO w g h.l ht
end
section
variable {me: Bool} {kp mv: Int} {c u e f t: aa} {a: Int} {i: Nat}
theorem RB (g:uM t)(h:rV t a i)(z:ab (js t a) i 2=0)(n:bsB me kp mv (ab (js t a) i 0)=false):G8 me kp mv t a=true:=by
 unfold G8;rw[(jy g h).1,VT z,n];rfl
theorem Rz (g:uM t)(h:rV t a i)(z:ab (js t a) i 2≠0):G8 me kp mv t a=false:=by
 unfold G8;rw[(jy g h).1,VU z];rfl
theorem RA (g:uM t)(h:rV t a i)(n:bsB me kp mv (ab (js t a) i 0)=true):G8 me kp mv t a=false:=by
 unfold G8;rw[(jy g h).1,n];simp
theorem ac5 (g:uM t)(h:rV t a i)(b:G8 me kp mv t a=true):fzC me kp mv c u e f t a=dsC c u e (js t a) i/\fzU me kp mv c u e f t a=dsU c u e (js t a) i/\fzE me kp mv c u e f t a=dsE c u e (js t a) i/\fzF me kp mv c u e f t a=dsF c u e f (js t a) i/\fzS me kp mv c u e f t a=dsS (js t a) i:=by
 unfold fzC fzU fzE fzF fzS f1;rw[(jy g h).1];simp only[b];exact⟨rfl,rfl,rfl,rfl,rfl⟩
theorem Pz (b:G8 me kp mv t a=false):fzC me kp mv c u e f t a=c/\fzU me kp mv c u e f t a=u/\fzE me kp mv c u e f t a=e/\fzF me kp mv c u e f t a=f/\fzS me kp mv c u e f t a=js t a:=by
 unfold fzC fzU fzE fzF fzS f1;simp only[b];exact⟨rfl,rfl,rfl,rfl,rfl⟩
end
section
variable {a0 a1 a2 a4 a5 a6 a7 a8 a9 aA aB aD aL: aa} {a: Int} {i: Nat}
theorem RV (hc:o6 a0 a1 a2 a4 a5 a6 a7 a8 a9 aA aB aD aL)(g:uM a6)(h:rV a6 a i):o6 a0 a1 a2 a4 a5 (js a6 a) a7 a8 a9 aA aB aD aL:=by
 have w:=LV hc.r6 g h;have c:ak (js a6 a)=(js a6 a).length:=w.cnt rfl;have c6:ak a6=a6.length:=hc.r6.cnt rfl;have l:=(Ee g h).2;have k:=hc.c6;exact⟨hc.r0,hc.r1,hc.r2,hc.r4,hc.r5,w,hc.r7,hc.r8,hc.r9,hc.r10,hc.r11,hc.r13,hc.r21,hc.c0,hc.c1,hc.c2,hc.c4,hc.c5,by omega,hc.c7,hc.c8,hc.c9,hc.c10,hc.c11,hc.c13,hc.c21⟩
end
end Go.V
namespace Go.V
def Pi (ck n:Int):Int:=ck+n
section
variable {k: Bool} {c n ck t: Int} {m: aa}
theorem afT (h:t0B k c t m=true):k=true/\c≠100000/\inR t 0 (m.length-1)=true:=by
 unfold t0B at h;simp only[Zc,VV]at h;exact h
end
section
variable {a0 a1 a2: aa} {a3: Int} {a4 a5 a6 a7 a8 a9 aA aB: aa} {aC: Int} {aD: aa} {aE aF aG aH: Int} {aI: Bool} {aJ aK: Int} {aL: aa} {aM aN: Int} {n i: Int} {c u e f t: aa}
structure TiT (aC:Int)(aD:aa)(aF n:Int)(s:IP):Prop where
 b:qeB aC aD (Pi aF n) 100=true
 d:La (qeR aC aD (Pi aF n) 100)
 q:FqI (qeR aC aD (Pi aF n) 100) 0 s
 w:Rw [tI,tI,tI] (qeL aC aD (Pi aF n) 100)
 l:(qeL aC aD (Pi aF n) 100).length<=aD.length
 m:(qeR aC aD (Pi aF n) 100).length<=aD.length
 r:Rw [tI,tI,tI] (qeR aC aD (Pi aF n) 100)
end
end Go.V
namespace Go.V
def nsd (s:Int):Int:=(1103515245*s+12345)%1073741824
def cuB (s n:Int):Bool:=inR s 0 1073741823&&inR n 1 1000
def cuI (s n:Int):Int:=if cuB s n=true then nsd s/1024%n else 0
def cuS (s n:Int):Int:=if cuB s n=true then nsd s else s
def ioN:Nat->aa
 |0=>[]
 |n+1=>ioN n++[[.i (n:Int)]]
def swE (es:aa)(i j:Int):aa:=(es.set i.toNat [.i (ab es j 0)]).set j.toNat [.i (ab es i 0)]
def shL:Nat->aa->Int->aa
 |0,es,_=>es
 |k+1,es,s=>shL k (swE es ((k:Int)+1) (cuI s ((k:Int)+2))) (cuS s ((k:Int)+2))
def shS:Nat->Int->Int
 |0,s=>s
 |k+1,s=>shS k (cuS s ((k:Int)+2))
structure IoP (i:Int)(o:aa):Prop where
 e:o=ioN i.toNat
structure ShP (n s0 i:Int)(o:aa)(s:Int):Prop where
 r:Rw [tI] o
 l:(o.length:Int)=n
 k:inR s 0 1073741823=true
 e:shL i.toNat o s=shL (n-1).toNat (ioN n.toNat) s0
 f:shS i.toNat s=shS (n-1).toNat s0
end Go.V
namespace Go.V
end Go.V
namespace Go.V
theorem aas {x:aa}{a:Int}(h:Rw [.sl [tI]] x)(h0:0<=a)(h1:a<x.length):rr (.s 1 x) [(a.toNat,0)] [.g]=x.set a.toNat [.g]:=gU (by rw[h.eta h0 h1];rfl)
theorem agW {x r:aa}{a:Int}(h:Rw [.sl [tI]] x)(h0:0<=a)(h1:a<x.length):rr (.s 1 (rr (.s 1 x) [(a.toNat,0)] [.g])) [(a.toNat,0)] [.s 1 r]=x.set a.toNat [.s 1 r]:=by
 rw[aas h h0 h1,gU (by rw[Zo,Xf (by omega)];rfl),Wm]
theorem aau {x:aa}{a:Int}(h:Rw [.sl [tI]] x)(h0:0<=a)(h1:a<x.length):(rr (.s 1 x) [(a.toNat,0)] [.g]).length=x.length:=by rw[aas h h0 h1,ZE]
theorem aat {x:aa}{a:Int}(h:Rw [.sl [tI]] x)(h0:0<=a)(h1:a<x.length):∃ rec o,bV (.s 1 (rr (.s 1 x) [(a.toNat,0)] [.g])) [(a.toNat,0)]=some (rec,o)/\o+1<=rec.length:=by
 rw[aas h h0 h1];exact gS (by rw[ZE];omega) (by rw[Zo,Xf (by omega)];exact Zd _)
theorem Rs {l:L}{p:List (Nat×Nat)}{k:Nat}{es:aa}(h:gZ l p=some (k,es)):gZ l p=some (k,qp l p):=by unfold qp;rw[h]
theorem agV {x:aa}{a:Int}{r:aa}(h:Rw [.sl [tI]] x)(h0:0<=a)(h1:a<x.length)(hc:ak x<=1073741824)(hr:r.length=1):gZ (.s 1 x) [(a.toNat,0)]=some (1,qp (.s 1 x) [(a.toNat,0)])/\bY (qp (.s 1 x) [(a.toNat,0)])/\((qp (.s 1 x) [(a.toNat,0)]).length+r.length)*8<=70368744177664/\(qp (.s 1 x) [(a.toNat,0)]).length+r.length<=70368744177664:=by
 obtain⟨es,e⟩:=AC h h0 h1;have g:=jT (es:=x) (i:=a) (j:=0);have l:(aw x a 0).length<=ak (aw x a 0):=by unfold ak;omega
 refine⟨Rs e,?_,?_⟩
 ·rw[jm];exact(Rw.sub (fs:=[.sl [tI]]) (j:=0) (i:=a) h (by omega) rfl).scal rfl
 ·rw[jm];constructor<;>omega
end Go.V
namespace Go.V
def QW (n:Int)(es:aa):Prop:=∀ j:Nat,j<es.length->0<=ab es (j:Int) 0/\ab es (j:Int) 0<n
theorem ac6 {es:aa}{i j:Nat}{x:Int}(hj:j<es.length):ab (es.set i [.i x]) (j:Int) 0=if i=j then x else ab es (j:Int) 0:=by
 unfold ab;simp only[Zy,Zo];by_cases c:i=j
 ·subst c;rw[VW rfl,Xf hj];rfl
 ·rw[VX c,List.getElem?_set_ne c]
theorem QW.st {n x:Int}{es:aa}{i:Nat}(h:QW n es)(x0:0<=x)(x1:x<n):QW n (es.set i [.i x]):=fun j hj=>by
 rw[ZE]at hj;rw[ac6 hj];split;exact⟨x0,x1⟩;exact h j hj
theorem QW.at {n i:Int}{es:aa}(h:QW n es)(i0:0<=i)(i1:i<es.length):0<=ab es i 0/\ab es i 0<n:=by
 have:=h i.toNat (by omega);rw[Zt i0]at this;exact this
theorem QW.sw {n i j:Int}{es:aa}(h:QW n es)(i0:0<=i)(i1:i<es.length)(j0:0<=j)(j1:j<es.length):QW n (swE es i j):=by
 have a:=h.at i0 i1;have b:=h.at j0 j1;exact(h.st b.1 b.2).st a.1 a.2
theorem Mc {a:aa}{r:ay}{n j:Nat}(h:n<a.length):ab (a++[r]) (n:Int) j=ab a (n:Int) j:=by
 unfold ab;simp only[Zy,Zo];rw[Z8 h]
theorem RR {a:aa}{r:ay}{j:Nat}:ab (a++[r]) (a.length:Int) j=PW (r.getD j .g):=by
 unfold ab;simp only[Zy,Zo];rw[ZQ (Zd _),YT];rfl
end Go.V
namespace Go.V
theorem aah {ls:aa}(w:Rw [.sl [tI]] ls)(h:caOk ls=true):ak ls<=36:=by
 have c:=acx h;have q:bL ls<=8*ls.length:=D7 fun e he=>by
  obtain⟨i,hi,rfl⟩:=XJ he;have a:=w.eta (i:=i) (by omega) (by omega);rw[Zo,Zy,Zv hi,ZZ]at a;rw[a];show cU [.s 1 (aw ls i 0)]<=8;have l:=c.2 i (by omega);have x:=(Rw.sub (fs:=[.sl [tI]]) (j:=0) (i:=(i:Int)) w (by omega) rfl).cnt rfl;have e:cU [.s 1 (aw ls i 0)]=ak (aw ls i 0):=by simp only[cU,fR,ak];omega
  rw[e,x];omega
 have:=c.1;unfold ak;omega
def OI (S:aa)(a:Int):Int:=ab S (hD S a) 1
def OH (S D:aa)(t a:Int):Bool:=rY (aw D t 0) (OI S a) a
def rcD (S D:aa)(t a:Int):aa:=if OH S D t a=true then D.set t.toNat [.s 1 (CI (aw D t 0) (OI S a) a)]else D
structure RS where
 s:IP
 D:aa
def r1 (me:Bool)(kp mv t:Int)(z:RS)(a:Int):RS:=⟨if OH z.s.S z.D t a=true then z.s else f1 me kp mv z.s a,rcD z.s.S z.D t a⟩
def rN (me:Bool)(kp mv t:Int)(l:aa)(z:RS):Nat->RS
 |0=>z
 |n+1=>r1 me kp mv t (rN me kp mv t l z n) (ab l n 0)
structure CdI (D:aa)(n B:Nat):Prop where
 w:Rw [.sl [.sl [tI]]] D
 l:D.length=n
 c:ak D<=B
structure T0 (l:aa)(n B i:Nat)(z:RS):Prop where
 fr:QQ z.s
 q:∀ j:Nat,i<=j->j<l.length->∃ k,rV z.s.S (ab l j 0) k
 d:CdI z.D n (B+40*i)
section
variable {S D l: aa} {t a: Int} {n B i: Nat} {me: Bool} {kp mv: Int} {z: RS}
theorem afj (h:CdI D n B)(t0:0<=t)(t1:t<n)(ha: -9223372036854775808<=a/\a<=9223372036854775807):CdI (rcD S D t a) n (B+40):=by
 have hl:=h.l;have hc:=h.c;unfold rcD;split
 ·rename_i b;unfold OH rY at b;rw[Zc]at b;have gw:Rw [.sl [tI]] (aw D t 0):=Bg h.w t0 (by omega);have u:=Rr gw b.1 ha;have k:=aah u.1 b.2;have q:=Ap (es:=D) (n:=t.toNat) (e:=[.s 1 (CI (aw D t 0) (OI S a) a)]);have e:cU [.s 1 (CI (aw D t 0) (OI S a) a)]=ak (CI (aw D t 0) (OI S a) a):=by simp only[cU,fR,ak];omega
  exact⟨Rw.set h.w (show cp [.sl [.sl [tI]]] [.s 1 (CI (aw D t 0) (OI S a) a)]from⟨⟨rfl,u.1⟩,trivial⟩) _,by rw[ZE];exact hl,by omega⟩
 ·exact⟨h.w,hl,by omega⟩
theorem afq (d:La l)(h:T0 l n B i z)(hi:i<l.length)(t0:0<=t)(t1:t<n):T0 l n B (i+1) (r1 me kp mv t z (ab l i 0)):=by
 obtain⟨k,v⟩:=h.q i (Zd _) hi;have bd:=vF h.fr.g v;have e:B+40*(i+1)=B+40*i+40:=by omega
 have D':=afj (S:=z.s.S) (a:=ab l i 0) h.d t0 t1 (by omega);rw[<-e]at D';by_cases b:OH z.s.S z.D t (ab l i 0)=true
 ·have r:r1 me kp mv t z (ab l i 0)=⟨z.s,rcD z.s.S z.D t (ab l i 0)⟩:=by unfold r1;rw[VW b]
  rw[r];exact⟨h.fr,fun j j0 j1=>h.q j (by omega) j1,D'⟩
 ·have r:r1 me kp mv t z (ab l i 0)=⟨f1 me kp mv z.s (ab l i 0),rcD z.s.S z.D t (ab l i 0)⟩:=by unfold r1;rw[VX b]
  rw[r];refine⟨aaC h.fr v,fun j j0 j1=>?_,D'⟩;obtain⟨k',v'⟩:=h.q j (by omega) j1;exact acS h.fr v v' (d i j (by omega) j1)
theorem ab0 (d:La l)(h:T0 l n B 0 z)(t0:0<=t)(t1:t<n):∀ m:Nat,m<=l.length->T0 l n B m (rN me kp mv t l z m)
 |0,_=>h
 |m+1,hm=>afq d (ab0 d h t0 t1 m (by omega)) (by omega) t0 t1
end
def rcC (me:Bool)(kp mv:Int)(c u e f s x:aa)(t a:Int):aa:=(r1 me kp mv t ⟨⟨c,u,e,f,s⟩,x⟩ a).s.C
def rcU (me:Bool)(kp mv:Int)(c u e f s x:aa)(t a:Int):aa:=(r1 me kp mv t ⟨⟨c,u,e,f,s⟩,x⟩ a).s.U
def rcE (me:Bool)(kp mv:Int)(c u e f s x:aa)(t a:Int):aa:=(r1 me kp mv t ⟨⟨c,u,e,f,s⟩,x⟩ a).s.E
def rcF (me:Bool)(kp mv:Int)(c u e f s x:aa)(t a:Int):aa:=(r1 me kp mv t ⟨⟨c,u,e,f,s⟩,x⟩ a).s.F
def rcS (me:Bool)(kp mv:Int)(c u e f s x:aa)(t a:Int):aa:=(r1 me kp mv t ⟨⟨c,u,e,f,s⟩,x⟩ a).s.S
def raC (me:Bool)(kp mv:Int)(c u e f s x:aa)(t:Int)(l:aa):aa:=(rN me kp mv t l ⟨⟨c,u,e,f,s⟩,x⟩ l.length).s.C
def raU (me:Bool)(kp mv:Int)(c u e f s x:aa)(t:Int)(l:aa):aa:=(rN me kp mv t l ⟨⟨c,u,e,f,s⟩,x⟩ l.length).s.U
def raE (me:Bool)(kp mv:Int)(c u e f s x:aa)(t:Int)(l:aa):aa:=(rN me kp mv t l ⟨⟨c,u,e,f,s⟩,x⟩ l.length).s.E
def raF (me:Bool)(kp mv:Int)(c u e f s x:aa)(t:Int)(l:aa):aa:=(rN me kp mv t l ⟨⟨c,u,e,f,s⟩,x⟩ l.length).s.F
def raS (me:Bool)(kp mv:Int)(c u e f s x:aa)(t:Int)(l:aa):aa:=(rN me kp mv t l ⟨⟨c,u,e,f,s⟩,x⟩ l.length).s.S
def raD (me:Bool)(kp mv:Int)(c u e f s x:aa)(t:Int)(l:aa):aa:=(rN me kp mv t l ⟨⟨c,u,e,f,s⟩,x⟩ l.length).D
section
variable {me: Bool} {kp mv t a: Int} {c u e f s x: aa}
theorem ahR (b:OH s x t a=true):rcC me kp mv c u e f s x t a=c/\rcU me kp mv c u e f s x t a=u/\rcE me kp mv c u e f s x t a=e/\rcF me kp mv c u e f s x t a=f/\rcS me kp mv c u e f s x t a=s/\rcD s x t a=x.set t.toNat [.s 1 (CI (aw x t 0) (OI s a) a)]:=by
 unfold rcC rcU rcE rcF rcS r1 rcD;simp only[b,if_true];exact⟨trivial,trivial,trivial,trivial,trivial,trivial⟩
theorem ahQ (b:OH s x t a=false):rcC me kp mv c u e f s x t a=fzC me kp mv c u e f s a/\rcU me kp mv c u e f s x t a=fzU me kp mv c u e f s a/\rcE me kp mv c u e f s x t a=fzE me kp mv c u e f s a/\rcF me kp mv c u e f s x t a=fzF me kp mv c u e f s a/\rcS me kp mv c u e f s x t a=fzS me kp mv c u e f s a/\rcD s x t a=x:=by
 unfold rcC rcU rcE rcF rcS r1 rcD;simp only[b];exact⟨rfl,rfl,rfl,rfl,rfl,rfl⟩
end
structure OA (me:Bool)(kp mv t:Int)(l:aa)(z:RS)(i:Int)(c u e f s x:aa):Prop where
 c:c=(rN me kp mv t l z i.toNat).s.C
 u:u=(rN me kp mv t l z i.toNat).s.U
 e:e=(rN me kp mv t l z i.toNat).s.E
 f:f=(rN me kp mv t l z i.toNat).s.F
 s:s=(rN me kp mv t l z i.toNat).s.S
 x:x=(rN me kp mv t l z i.toNat).D
section
variable {me: Bool} {kp mv t: Int} {l c u e f s x c0 u0 e0 f0 s0 x0: aa} {z: RS} {i: Int}
theorem Td:OA me kp mv t l ⟨⟨c,u,e,f,s⟩,x⟩ 0 c u e f s x:=⟨rfl,rfl,rfl,rfl,rfl,rfl⟩
theorem NJ (h:OA me kp mv t l z i c u e f s x)(i0:0<=i):OA me kp mv t l z (i+1) (rcC me kp mv c u e f s x t (ab l i 0)) (rcU me kp mv c u e f s x t (ab l i 0)) (rcE me kp mv c u e f s x t (ab l i 0)) (rcF me kp mv c u e f s x t (ab l i 0)) (rcS me kp mv c u e f s x t (ab l i 0)) (rcD s x t (ab l i 0)):=by
 have n:(i+1).toNat=i.toNat+1:=by omega
 have g:ab l i 0=ab l (i.toNat:Int) 0:=by rw[Zt i0]
 obtain⟨rfl,rfl,rfl,rfl,rfl,rfl⟩:=h;refine⟨?_,?_,?_,?_,?_,?_⟩<;>rw[n,g]<;>rfl
theorem afi (h:OA me kp mv t l z i c u e f s x):(⟨⟨c,u,e,f,s⟩,x⟩:RS)=rN me kp mv t l z i.toNat:=by
 obtain⟨rfl,rfl,rfl,rfl,rfl,rfl⟩:=h;rfl
theorem J0 (h:OA me kp mv t l ⟨⟨c0,u0,e0,f0,s0⟩,x0⟩ i c u e f s x)(e1:i=l.length):c=raC me kp mv c0 u0 e0 f0 s0 x0 t l/\u=raU me kp mv c0 u0 e0 f0 s0 x0 t l/\e=raE me kp mv c0 u0 e0 f0 s0 x0 t l/\f=raF me kp mv c0 u0 e0 f0 s0 x0 t l/\s=raS me kp mv c0 u0 e0 f0 s0 x0 t l/\x=raD me kp mv c0 u0 e0 f0 s0 x0 t l:=by
 obtain⟨rfl,rfl,rfl,rfl,rfl,rfl⟩:=h;have n:i.toNat=l.length:=by omega
 rw[n];exact⟨rfl,rfl,rfl,rfl,rfl,rfl⟩
end
section
variable {a0 a1 a2: aa} {a3: Int} {a4 a5 a6 a7 a8 a9 aA aB: aa} {aC: Int} {aD: aa} {aE aF aG aH: Int} {aI: Bool} {aJ aK: Int} {aL: aa} {aM aN t: Int}
end
end Go.V
namespace Go.V
def OJ (to a:Int):ay:=[.i to,.i a]
def sdU (b:aa)(f to a:Int):aa:=b.set f.toNat [.s 2 (aw b f 0++[OJ to a])]
def sdB (b x:aa)(f to a:Int):Bool:=htB b x f&&mailOk (sdU b f to a) x
def sdL (b x:aa)(f to a:Int):aa:=if sdB b x f to a=true then sdU b f to a else b
def coT (b x:aa)(t:Int):aa:=if htB b x t=true then aw x t 0 else[]
section
variable {b x: aa} {f t to a: Int}
theorem aia (h:htB b x f=false):sdB b x f to a=false:=by unfold sdB;rw[h];rfl
theorem aib (h:mailOk (sdU b f to a) x=false):sdB b x f to a=false:=by unfold sdB;rw[h];simp
theorem aic (h:htB b x f=true)(g:mailOk (sdU b f to a) x=true):sdB b x f to a=true:=by unfold sdB;rw[h,g];rfl
theorem Ts (h:sdB b x f to a=false):sdL b x f to a=b:=by unfold sdL;rw[h];rfl
theorem N0 (h:sdB b x f to a=true):sdL b x f to a=sdU b f to a:=by unfold sdL;rw[VW h]
theorem NZ (hb:Rw [.sl [tI,tI]] b)(f0:0<=f)(f1:f<b.length)(cb:ak b<=1073741824)(ht: -9223372036854775808<=to/\to<=9223372036854775807)(ha: -9223372036854775808<=a/\a<=9223372036854775807):Rw [.sl [tI,tI]] (sdU b f to a)/\ak (sdU b f to a)<=2*ak b+8:=by
 have rb:=Rw.sub (fs:=[.sl [tI,tI]]) (j:=0) (i:=f) hb (by omega) rfl;have gb:=jT (es:=b) (i:=f) (j:=0);have lb:(aw b f 0).length<=ak (aw b f 0):=by unfold ak;omega
 have r2:Rw [tI,tI] (aw b f 0++[OJ to a]):=Rw.append rb (Rw.one (show cp [tI,tI] (OJ to a)from⟨⟨rfl,ht⟩,⟨rfl,ha⟩,trivial⟩)) (by unfold maxLen;simp only[Zn,Zr];omega);refine⟨Rw.set hb (show cp [.sl [tI,tI]] [.s 2 (aw b f 0++[OJ to a])]from⟨⟨rfl,r2⟩,trivial⟩) _,?_⟩;unfold sdU;have s:=Ap (es:=b) (n:=f.toNat) (e:=[.s 2 (aw b f 0++[OJ to a])]);have e:cU [.s 2 (aw b f 0++[OJ to a])]=ak (aw b f 0++[OJ to a]):=by simp only[cU,fR,ak];omega
 have p:=FM (a:=aw b f 0) (b:=[OJ to a]);have o:ak [OJ to a]<=8:=by simp[OJ,ak,bL,cU,fR]
 omega
end
section
variable {a0 a1 a2: aa} {a3: Int} {a4 a5 a6 a7 a8 a9 aA aB: aa} {aC: Int} {aD: aa} {aE aF aG aH: Int} {aI: Bool} {aJ aK: Int} {aL: aa} {aM aN t i: Int} {c u e f s x: aa}
structure CoI (a9 aA aB:aa)(t:Int)(z:IP):Prop where
 h:htB aA aB t=true
 t0:0<=t
 t1:t<a9.length
 d:La (coT aA aB t)
 q:T0 (coT aA aB t) a9.length 1000000000 0 ⟨z,a9⟩
 l:(coT aA aB t).length<=30
end
end Go.V
namespace Go.V
def feI (sp lg:aa)(a:Int):Int:=if dzK sp lg a=0 then 3 else if dzO sp lg a≠0 then 1 else if dzK sp lg a=2 then 2 else 0
def hwI (sp lg:aa)(a:Int):Int:=if feI sp lg a=3 then 2 else if feI sp lg a=1 then 3 else 4
section
variable {sp lg: aa} {a: Int}
theorem ag2 (h:dzK sp lg a=0):feI sp lg a=3:=by unfold feI;rw[VW h]
theorem ag3 (h:dzK sp lg a≠0)(g:dzO sp lg a≠0):feI sp lg a=1:=by unfold feI;rw[VX h,VW g]
theorem ag4 (h:dzK sp lg a=2)(g:dzO sp lg a=0):feI sp lg a=2:=by unfold feI;rw[VX (by omega),VX (fun n=>n g),VW h]
theorem ag5 (h:dzK sp lg a≠0)(g:dzO sp lg a=0)(k:dzK sp lg a≠2):feI sp lg a=0:=by unfold feI;rw[VX h,VX (fun n=>n g),VX k]
theorem adB (h:feI sp lg a=3):hwI sp lg a=2:=by unfold hwI;rw[VW h]
theorem adA (h:feI sp lg a=1):hwI sp lg a=3:=by unfold hwI;rw[VX (by omega),VW h]
theorem adC (h:feI sp lg a≠3)(g:feI sp lg a≠1):hwI sp lg a=4:=by unfold hwI;rw[VX h,VX g]
end
def foS (os:aa)(ad:Int):Int:=ab os (obI os ad) 2
def foT (os:aa)(ad:Int):Int:=ab os (obI os ad) 3
def jS (os:aa)(ad:Int):Int:=clsOf (foS os ad)
def foO (os:aa)(ad:Int):aa:=delL os (obI os ad) (obI os ad+1)
def foG (g:Bool)(os:aa)(ad:Int):Bool:=g&&decide (0<=obI os ad)
def fbL (g:Bool)(os:aa)(ad:Int):Bool:=foG g os ad&&decide (jS os ad<0)
def fbS (g:Bool)(es os:aa)(ad:Int):Bool:=foG g os ad&&(decide (0<=jS os ad)&&decide (peM es (ad/16)≠1))
def fbP (g:Bool)(es os b x:aa)(t ad:Int):Bool:=fbS g es os ad&&(decide (t≠foT os ad)&&sdB b x t (foT os ad) ad)
def fbQ (g:Bool)(es os:aa)(t ad:Int):Bool:=fbS g es os ad&&decide (t=foT os ad)
def fcC (cs es os:aa)(ad:Int):aa:=tcC cs es ad (clsSz (jS os ad))
def fqR (os:aa)(rm:Int)(qs:aa)(ck ad:Int):aa:=qaR rm qs ad (jS os ad) ck
def fqL (os:aa)(rm:Int)(qs:aa)(ck ad:Int):aa:=qaL rm qs ad (jS os ad) ck
def uO (lg:aa)(ad:Int):Int:=ab lg (lhI lg ad) 0
def yh (lg:aa)(ad:Int):Int:=ab lg (lhI lg ad) 1
structure FoT (es sp lg os cs:aa)(ad:Int):Prop where
 k0:0<=obI os ad
 k1:obI os ad<os.length
 e:ab os (obI os ad) 1=ad
 ok:okO sp lg ad (foS os ad)=true
 th:inR (foT os ad) 0 (cs.length-1)=true
 s0:1<=foS os ad
 s1:foS os ad<=1000
theorem Nj {sp lg:aa}{a s:Int}(F:QX sp lg)(h:okO sp lg a s=true)(c:0<=clsOf s):hlB sp lg a (clsOf s)=true:=by
 unfold okO at h;simp only[Zc,ZT,VV]at h;obtain⟨o,⟨k,e⟩|⟨k,e⟩⟩:=h
 ·unfold hlB;rw[VT k,VT o,VT e];simp
 ·exfalso;have b:=LO k;have q:=F.l (dnI sp lg a).toNat (by omega);rw[Zt b.1]at q;have r:=bH.1 (kn q).1;rw[e]at r;unfold clsOf at c;rw[VX (by omega),VX (by omega),VX (by omega),VX (by omega),VX (by omega)]at c;omega
section
variable {a0 a1 a2: aa} {a3: Int} {a4 a5 a6 a7 a8 a9 aA aB: aa} {aC: Int} {aD: aa} {aE aF aG aH: Int} {aI: Bool} {aJ aK: Int} {aL: aa} {aM aN t ad: Int}
theorem HH (h:hpI a0 a1 a2 a3 a4 a5 a6 a7 a8 a9 aA aB aC aD aE aF aG aH aI aJ aK aL aM aN=true)(k:0<=obI a8 ad):FoT a2 a6 a7 a8 a9 ad:=by
 have T:=jg h;have p:=fM (p:=fun j=>eqB (ab a8 j 1) ad) (n:=a8.length) k;have k1:obI a8 ad<a8.length:=p.1;have e:ab a8 (obI a8 ad) 1=ad:=VY p.2;have o:=dh.1 T.o (obI a8 ad) k k1;have b:=aeB T.o k k1;unfold BH at o;simp only[Zc]at o;have ok:=o.2.2.2.2;rw[e]at ok;exact⟨k,k1,e,ok,o.2.2.1,b.2.2.1,b.2.2.2⟩
structure TN (a0 a1 a2 a6 a8:aa)(ad:Int):Prop where
 lv:∃ i,rV a6 ad i
 d0:0<=ad
 d1:ad<=511
 mp:peM a2 (ad/16)≠0
 n0:1<=clsSz (jS a8 ad)
 n1:ad%16+clsSz (jS a8 ad)<=16
 m:rW (fcC a0 a2 a8 ad) a1 a2
 w:Rw [.sl [tI]] (fcC a0 a2 a8 ad)
theorem HJ (hc:o6 a0 a1 a2 a4 a5 a6 a7 a8 a9 aA aB aD aL)(h:hpI a0 a1 a2 a3 a4 a5 a6 a7 a8 a9 aA aB aC aD aE aF aG aH aI aJ aK aL aM aN=true)(F:FoT a2 a6 a7 a8 a9 ad)(c:0<=jS a8 ad):TN a0 a1 a2 a6 a8 ad:=by
 have T:=jg h;have g:=Oa (MW T.l);have hl:=Nj (MW T.l) F.ok c;have s0:=F.s0;have mp:=abJ (i:=0) T.l T.p F.ok (Yj _) (by omega);rw[Int.add_zero]at mp;have K:=(oR T.k).1;obtain⟨i,v⟩:=Mg hl;have bd:=vF g v;have kk:ab a6 i 1=jS a8 ad:=by
  unfold hlB at hl;simp only[Zc,ZT,VV]at hl;have d:=AS (L:=a7) g v;rcases hl.2.2 with q|q;exact absurd c (by unfold jS at c ⊢;omega)
  ·rw[d.2.1]at q;exact q
 have sp:=ku (g.s i v.l);have c4:=LL sp.2.2.1;rw[kk]at c4;have o:=v.o;rw[kk]at o;have p:=v.p;have fit:=Jd c4 (d:=ad-ab a6 i 0*16) (by omega) (by omega) o;have e16:ad-ab a6 i 0*16=ad%16:=by omega
 rw[e16]at fit;have n0:1<=clsSz (jS a8 ad):=by rcases c4 with q|q|q|q<;>omega
 have z:=Kh (f:=peF a2 (ad/16)) (k:=ad%16) (p:=ad/16) K hc.r0 mp.2.2 rfl (by omega) (clsSz (jS a8 ad)).toNat (by omega);exact⟨⟨i,v⟩,bd.1,bd.2.1,mp.2.2,n0,fit,z.m,z.w⟩
theorem aax {qs:aa}{a c s:Int}(h:La qs)(n:qtB qs a=false):La (qs++[Dk a c s]):=fun i j ij hj=>by
 rw[Ze]at hj;rw[Mc (by simp only[Zn,Zr]at hj;omega)];by_cases q:j<qs.length
 ·rw[Mc q];exact h i j ij q
 ·have e:j=qs.length:=by simp only[Zn,Zr]at hj;omega
  subst e;rw[RR];intro e;have z:=CO (VZ n) (j:=i) ij;unfold yg at z;have e':ab qs i 0=a:=e;rw[e']at z;unfold eqB at z;exact absurd rfl (VZ z)
theorem ac0 (hc:o6 a0 a1 a2 a4 a5 a6 a7 a8 a9 aA aB aD aL)(h9:ak a9<=1000000000)(h:hpI a0 a1 a2 a3 a4 a5 a6 a7 a8 a9 aA aB aC aD aE aF aG aH aI aJ aK aL aM aN=true)(S:TN a0 a1 a2 a6 a8 ad):
 La (fqR a8 aC aD aF ad)/\T0 (fqR a8 aC aD aF ad) a9.length 1000000000 0 ⟨⟨fcC a0 a2 a8 ad,a1,a2,a5,a6⟩,a9⟩/\(fqR a8 aC aD aF ad).length<=aD.length+1:=by
 have T:=jg h;have fr:=adf hc h;have fr2:QQ ⟨fcC a0 a2 a8 ad,a1,a2,a5,a6⟩:=⟨S.m,S.w,fr.ru,fr.re,fr.rf,fr.rs,fr.lf,fr.ls,fr.g⟩;unfold fqR;cases b:Gt aC aD ad (jS a8 ad) aF with
 | false=>
   rw[(EL b).2];exact⟨fun i j _ hj=>absurd hj (by simp),⟨fr2,fun j _ hj=>absurd hj (by simp),⟨hc.r9,rfl,h9⟩⟩,by simp⟩
 | true=>
   rw[(NG b).2];unfold Gt stlOk at b;simp only[Zc,YB]at b;have d:=aax (a:=ad) (c:=jS a8 ad) (s:=aF) (afe T.q) b.2.2.2.2.1;refine⟨Pp d,⟨fr2,fun j _ hj=>?_,⟨hc.r9,rfl,h9⟩⟩,by rw[Zk,Ze];simp only[Zn,Zr];omega⟩;rw[Zk]at hj;rw[aaQ (by omega)];by_cases q:j<aD.length
   ·rw[Mc q];exact adj h j q
   ·have e:j=aD.length:=by simp only[Ze,Zn,Zr]at hj;omega
    subst e;rw[RR];exact S.lv
end
end Go.V
namespace Go.V
theorem Ng {ls:aa}(h:Rw [.sl [tI]] ls)(hc:ak ls<=1099511627776):TV ls:=by
 refine⟨h,by unfold ak at hc;omega,fun i=>?_⟩;have:=jT (es:=ls) (i:=i) (j:=0);unfold ak at this hc;omega
theorem aeA {b x:aa}(hb:Rw [.sl [tI,tI]] b)(hx:Rw [.sl [tI]] x)(cb:ak b<=1099511627776)(cx:ak x<=1099511627776):K5 b x:=by
 refine⟨hb,hx,by unfold ak at cb;omega,by unfold ak at cx;omega,fun i=>?_,fun i=>?_⟩
 ·have:=jT (es:=b) (i:=i) (j:=0);unfold ak at this cb;omega
 ·have:=jT (es:=x) (i:=i) (j:=0);unfold ak at this cx;omega
section
variable {ls: aa} {k a: Int}
theorem acD (h:inR k 0 3=false):clB ls k=false:=by unfold clB;rw[h];rfl
theorem acE (h:inR k 0 3=true):clB ls k=caOk ls:=by unfold clB;rw[h];rfl
theorem acF (h:caOk ls=false):clB ls k=false:=by unfold clB;rw[h];simp
theorem acG (h:caOk ls=true):clB ls k=inR k 0 3:=by unfold clB;rw[h];simp
theorem agO (h:clB ls k=false):rY ls k a=false:=by unfold rY;rw[h];rfl
theorem agP (h:caOk (CI ls k a)=false):rY ls k a=false:=by unfold rY;rw[h];simp
theorem agQ (h:clB ls k=true)(g:caOk (CI ls k a)=true):rY ls k a=true:=by unfold rY;rw[h,g];rfl
theorem agS (h:Rw [.sl [tI]] ls)(g:clB ls k=true):rr (.s 1 (rr (.s 1 ls) [(k.toNat,0)] [.g])) [(k.toNat,0)] [.s 1 (aw ls k 0++[[.i a]])]=CI ls k a:=by
 have c:=FI g;rw[agW h c.1 (by omega)];rfl
theorem MI {b b':aa}{r r':Bool}(h1:b=b')(h3:r=r'):[DV.agg [.s 1 b],DV.k r]=[DV.agg [.s 1 b'],DV.k r']:=by rw[h1,h3]
theorem aaq (h:Rw [.sl [tI]] ls)(hc:ak ls<=1073741824)(g:clB ls k=true)(ha: -9223372036854775808<=a/\a<=9223372036854775807):Rw [.sl [tI]] (CI ls k a)/\ak (CI ls k a)<=1099511627776:=by
 have q:=Rr h g ha;exact⟨q.1,by omega⟩
theorem agR (h:Rw [.sl [tI]] ls)(hc:ak ls<=1073741824)(g:clB ls k=true):gZ (.s 1 ls) [(k.toNat,0)]=some (1,aw ls k 0)/\bY (aw ls k 0)/\((aw ls k 0).length+1)*8<=70368744177664/\(aw ls k 0).length+1<=70368744177664:=by
 have c:=FI g;have q:=agV (r:=[[.i 0]]) h c.1 (by omega) hc rfl;simp only[jm,Zn,Zr]at q;exact q
end
section
variable {b x: aa} {f to a t: Int}
theorem afK (h:Rw [.sl [tI,tI]] b)(f0:0<=f)(f1:f<b.length):rr (.s 1 (rr (.s 1 b) [(f.toNat,0)] [.g])) [(f.toNat,0)] [.s 2 (aw b f 0++[[.i to,.i a]])]=sdU b f to a:=by
 have q:rr (.s 1 b) [(f.toNat,0)] [.g]=b.set f.toNat [.g]:=gU (by rw[h.eta f0 f1];rfl);rw[q,gU (by rw[Zo,Xf (by omega)];rfl),Wm];rfl
theorem Qr (h:Rw [.sl [tI,tI]] b)(f0:0<=f)(f1:f<b.length):(rr (.s 1 b) [(f.toNat,0)] [.g]).length=b.length:=by
 have q:rr (.s 1 b) [(f.toNat,0)] [.g]=b.set f.toNat [.g]:=gU (by rw[h.eta f0 f1];rfl);rw[q,ZE]
theorem Qq (h:Rw [.sl [tI,tI]] b)(f0:0<=f)(f1:f<b.length):∃ rec o,bV (.s 1 (rr (.s 1 b) [(f.toNat,0)] [.g])) [(f.toNat,0)]=some (rec,o)/\o+1<=rec.length:=by
 have q:rr (.s 1 b) [(f.toNat,0)] [.g]=b.set f.toNat [.g]:=gU (by rw[h.eta f0 f1];rfl);rw[q];exact gS (by rw[ZE];omega) (by rw[Zo,Xf (by omega)];exact Zd _)
theorem afJ (h:Rw [.sl [tI,tI]] b)(hc:ak b<=1073741824)(f0:0<=f)(f1:f<b.length):gZ (.s 1 b) [(f.toNat,0)]=some (2,aw b f 0)/\bY (aw b f 0)/\((aw b f 0).length+1)*16<=70368744177664/\(aw b f 0).length+1<=70368744177664:=by
 obtain⟨es,e⟩:=Kz h f0 f1;have g:=jT (es:=b) (i:=f) (j:=0);have l:(aw b f 0).length<=ak (aw b f 0):=by unfold ak;omega
 have p:=Rs e;rw[jm]at p;exact⟨p,(Bg h f0 f1).scal rfl,by omega,by omega⟩
end
section
variable {D s: aa} {t ad: Int} {i: Nat}
theorem af0 {b x:aa}{i:Int}(h:Rw [.sl [.sl [tI]]] b)(h0:0<=i)(h1:i<b.length):rr (.s 1 b) [(i.toNat,0)] [.s 1 x]=b.set i.toNat [.s 1 x]:=gU (by rw[h.eta h0 h1];rfl)
theorem Ma {cs:aa}{fr:Int}(h:Rw [.sl [.sl [tI]]] cs)(h0:0<=fr)(h1:fr<cs.length):∃ rec o,bV (.s 1 cs) [(fr.toNat,0)]=some (rec,o)/\o+[L.s 1 []].length<=rec.length/\Ya [L.s 1 []].length (Yp o rec)=mN ah (.s 1 cs) [(fr.toNat,0)] 0 [L.s 1 []]:=by
 refine⟨[.s 1 (aw cs fr 0)],0,?_,Zd _,?_⟩
 ·show(cs[fr.toNat]?).map (·,0)=_;rw[yu h h0 h1];rfl
 ·show[L.s 1 (aw cs fr 0)]=[L.s 1 (qp (.s 1 cs) [(fr.toNat,0)])];rw[jm]
theorem Ky {cs:aa}{fr:Int}(h:Rw [.sl [.sl [tI]]] cs)(h0:0<=fr)(h1:fr<cs.length):gZ (.s 1 cs) [(fr.toNat,0)]=some (1,aw cs fr 0):=by
 unfold gZ;show(match(cs[fr.toNat]?).map (·,0)with
  | some (rec,o)=>match rec[o]? with
    |some (.s sz es)=>some (sz,es)
    |_=>none
  |none=>none)=_
 rw[yu h h0 h1];rfl
theorem Si {o:aa}{n:Int}(h:Rw [tI,tI,tI,tI] o)(n0:0<=n)(n1:n<o.length):∃ rec o',bV (L.s 4 o) [(n.toNat,0)]=some (rec,o')/\o'+[L.v (Zi Zp 0),L.v (Zi Zp 0),L.v (Zi Zp 0),L.v (Zi Zp 0)].length<=rec.length/\Ya [L.v (Zi Zp 0),L.v (Zi Zp 0),L.v (Zi Zp 0),L.v (Zi Zp 0)].length (Yp o' rec)=mN ah (L.s 4 o) [(n.toNat,0)] 0 [L.v (Zi Zp 0),L.v (Zi Zp 0),L.v (Zi Zp 0),L.v (Zi Zp 0)]:=
 fV (z0:=[.i 0,.i 0,.i 0,.i 0]) (z:=[.i 0,.i 0,.i 0,.i 0]) h.wf (by omega) rfl (by decide)
theorem MJ {o:aa}{n:Int}{j:Nat}(h:Rw [tI,tI,tI,tI] o)(n0:0<=n)(n1:n<o.length)(hj:j<4):∃ rec o',bV (L.s 4 o) [(n.toNat,j)]=some (rec,o')/\o'+[L.v (Zi Zp 0)].length<=rec.length/\Ya [L.v (Zi Zp 0)].length (Yp o' rec)=mN ah (L.s 4 o) [(n.toNat,j)] 0 [L.v (Zi Zp 0)]:=by
 rcases(show j=0\/j=1\/j=2\/j=3 by omega)with rfl|rfl|rfl|rfl
 ·exact fV (z0:=[.i 0,.i 0,.i 0,.i 0]) (z:=[.i 0]) h.wf (by omega) rfl (by decide)
 ·exact fV (z0:=[.i 0,.i 0,.i 0,.i 0]) (z:=[.i 0]) h.wf (by omega) rfl (by decide)
 ·exact fV (z0:=[.i 0,.i 0,.i 0,.i 0]) (z:=[.i 0]) h.wf (by omega) rfl (by decide)
 ·exact fV (z0:=[.i 0,.i 0,.i 0,.i 0]) (z:=[.i 0]) h.wf (by omega) rfl (by decide)
theorem Tf (g:uM s)(v:rV s ad i):OI s ad=ab s i 1:=by unfold OI;rw[(jy g v).1]
theorem Te (g:uM s)(v:rV s ad i):OH s D t ad=rY (aw D t 0) (ab s i 1) ad:=by unfold OH;rw[Tf g v]
theorem afk (g:uM s)(v:rV s ad i)(h:Rw [.sl [.sl [tI]]] D)(t0:0<=t)(t1:t<D.length)(b:rY (aw D t 0) (ab s i 1) ad=true):rr (.s 1 D) [(t.toNat,0)] [.s 1 (Kr (aw D t 0) (ab s i 1) ad)]=D.set t.toNat [.s 1 (CI (aw D t 0) (OI s ad) ad)]:=by
 rw[af0 h t0 t1,acJ b,Tf g v]
end
section
variable {k: Bool} {c t: Int} {m: aa}
theorem Tx (h:inR t 0 (m.length-1)=false):t0B k c t m=false:=by unfold t0B;rw[h];simp
theorem Tz (h:c=100000):t0B k c t m=false:=by unfold t0B;rw[VU (p:=c≠100000) (fun n=>n h)];simp
theorem TA (h:inR t 0 (m.length-1)=true)(g:c≠100000):t0B k c t m=k:=by unfold t0B;rw[h,VT g];simp
theorem TC (h:k=false):t0B k c t m=false:=by unfold t0B;rw[h];rfl
end
section
variable {ls: aa} {k n: Int}
end
end Go.V
namespace Go.V
theorem Ni {sp lg:aa}{a s:Int}(h:okO sp lg a s=true)(c:clsOf s<0):0<=ni lg a/\ni lg a<lg.length/\ab lg (ni lg a) 0*16=a:=by
 unfold okO at h;simp only[Zc,ZT,VV]at h;obtain⟨o,⟨k,e⟩|⟨k,e⟩⟩:=h
 ·exfalso;obtain⟨d,q,l,t⟩:=LP k;have b:=bH.1 (ku (sX.1 t).1).2.2.1;rw[d]at e;omega
 ·unfold dnK at k;by_cases z:0<=hD sp a
  ·rw[VW z]at k;split at k<;>omega
  ·rw[VX z]at k;by_cases y:0<=ni lg a
   ·have p:=fM (p:=BG lg a) (n:=lg.length) y;unfold dnO at o;rw[VX z,VW y]at o;unfold loA loI at o;have p2:lhB (ab lg (ni lg a) 0) (ab lg (ni lg a) 1) (ab lg (ni lg a) 2) a=true:=p.2;rw[VW p2]at o;exact⟨y,p.1,by omega⟩
   ·rw[VX y]at k;omega
structure LfT (a5 a7:aa)(ad:Int):Prop where
 k0:0<=lhI a7 ad
 k1:lhI a7 ad<a7.length
 p:uO a7 ad*16=ad
 p0:0<=uO a7 ad
 n1:1<=yh a7 ad
 m:uO a7 ad+yh a7 ad<=32
 f:a5.length<=32
section
variable {a0 a1 a2: aa} {a3: Int} {a4 a5 a6 a7 a8 a9 aA aB: aa} {aC: Int} {aD: aa} {aE aF aG aH: Int} {aI: Bool} {aJ aK: Int} {aL: aa} {aM aN t ad i: Int} {c u e f s x: aa}
theorem HZ (h:hpI a0 a1 a2 a3 a4 a5 a6 a7 a8 a9 aA aB aC aD aE aF aG aH aI aJ aK aL aM aN=true)(F:FoT a2 a6 a7 a8 a9 ad)(c:jS a8 ad<0):LfT a5 a7 ad:=by
 have T:=jg h;have L:=MW T.l;obtain⟨y,y1,ye⟩:=Ni F.ok c;have k0:0<=lhI a7 ad:=by
  have g:=kn (L.l (ni a7 ad).toNat (by omega));rw[Zt y]at g;have n:=lL g.1;refine qQ (p:=yf a7 ad) (i:=(ni a7 ad).toNat) (by omega) ?_;unfold yf pmB;rw[Zt y];have q:bO .mul Za (ab a7 (ni a7 ad) 0) 16=ab a7 (ni a7 ad) 0*16:=H4 (by omega);rw[q,ye];exact VT rfl
 have kk:=ahu k0;have g:=kn (L.l (lhI a7 ad).toNat (by omega));rw[Zt k0]at g;have n:=lL g.1;have q:bO .mul Za (ab a7 (lhI a7 ad) 0) 16=ab a7 (lhI a7 ad) 0*16:=H4 (by omega);exact⟨k0,kk.1,by unfold uO;have:=kk.2;omega,g.2.2.1,by unfold yh;omega,by unfold uO yh;omega,acX h⟩
theorem L3 (h:Rw [tI,tI,tI,tI] a8):Rw [tI,tI,tI,tI] (foO a8 ad)/\ak (foO a8 ad)<=ak a8:=by
 have d:=tV (i:=obI a8 ad) (j:=obI a8 ad+1) h (by omega);exact⟨d.1,by show ak (delL _ _ _)<=_;rw[d.1.cnt rfl,h.cnt rfl];exact d.2⟩
theorem aaE (hc:o6 a0 a1 a2 a4 a5 a6 a7 a8 a9 aA aB aD aL)(km:rW a0 a1 a2)(T:LfT a5 a7 ad):o6 (duC a0 a1 a2 (uO a7 ad) (yh a7 ad)) (duU a0 a1 a2 (uO a7 ad) (yh a7 ad)) (duE a0 a1 a2 (uO a7 ad) (yh a7 ad)) a4 (rpL (zlI (duE a0 a1 a2 (uO a7 ad) (yh a7 ad))) a5 (uO a7 ad) (yh a7 ad)) a6 (delL a7 (lhI a7 ad) (lhI a7 ad+1)) (foO a8 ad) a9 aA aB aD aL:=by
 have d:=acP (t:=uO a7 ad) (l:=yh a7 ad) km hc.r0 hc.r1 hc.r2;have f5:=T.f;have f:=ET (n:=zlI (duE a0 a1 a2 (uO a7 ad) (yh a7 ad))) (a0:=uO a7 ad) (l0:=yh a7 ad) hc.r5 (by omega);have g:=Qj (n:=zlI (duE a0 a1 a2 (uO a7 ad) (yh a7 ad))) (a0:=uO a7 ad) (l0:=yh a7 ad) hc.r5 (by omega);have l:=tV (i:=lhI a7 ad) (j:=lhI a7 ad+1) hc.r7 (by omega);have o:=L3 (ad:=ad) hc.r8;have c7:=hc.c7;have c8:=hc.c8;refine⟨d.2.1,d.2.2.1,d.2.2.2.1,hc.r4,f.1,hc.r6,l.1,o.1,hc.r9,hc.r10,hc.r11,hc.r13,hc.r21,?_,?_,?_,hc.c4,?_,hc.c6,?_,?_,hc.c9,hc.c10,hc.c11,hc.c13,hc.c21⟩;exact ZX d.2.2.2.2.2.1 (by decide);exact ZX d.2.2.2.2.2.2.1 (by decide);exact ZX d.2.2.2.2.2.2.2 (by decide);omega
 ·rw[l.1.cnt rfl];rw[hc.r7.cnt rfl]at c7;omega
 ·omega
theorem L0 (hc:o6 a0 a1 a2 a4 a5 a6 a7 a8 a9 aA aB aD aL)(S:TN a0 a1 a2 a6 a8 ad):o6 (fcC a0 a2 a8 ad) a1 a2 a4 a5 a6 a7 (foO a8 ad) a9 aA aB aD aL:=by
 have n:=Ey S.m S.w hc.r1 hc.r2;have o:=L3 (ad:=ad) hc.r8;have c8:=hc.c8;exact {hc with r0:=S.w,c0:=by omega,r8:=o.1,c8:=by omega}
theorem acZ (hc:o6 a0 a1 a2 a4 a5 a6 a7 a8 a9 aA aB aD aL)(h10:ak aA<=500000000)(S:TN a0 a1 a2 a6 a8 ad)(t0:0<=t)(t1:t<aA.length){o:Int}(ho: -9223372036854775808<=o/\o<=9223372036854775807):o6 (fcC a0 a2 a8 ad) a1 a2 a4 a5 a6 a7 (foO a8 ad) a9 (sdU aA t o ad) aB aD aL:=by
 have d0:=S.d0;have d1:=S.d1;have q:=NZ (to:=o) (a:=ad) hc.r10 t0 t1 (by omega) ho (by omega);exact {L0 hc S with r10:=q.1,c10:=by omega}
theorem abS {rm:Int}{qs:aa}(h:quarOk rm qs=true):qs.length<=500:=by
 unfold quarOk at h;simp only[Zc,VV]at h;have r:=bH.1 h.2.1;have q:∀ n:Nat,n<=qs.length->(n:Int)<=OG qs n:=fun n=>by
  induction n with
  |zero=>intro _;exact Yj _
  | succ n ih=>
    intro hn;have a:=dh.1 h.1 n (by omega) (by omega);unfold EQ stlOk at a;simp only[Zc]at a;have c:=LL a.1;have:=ih (by omega);rw[OG];rcases c with c|c|c|c<;>omega
 have:=q qs.length (Zd _);have e:qcI qs=OG qs qs.length:=rfl;omega
structure FqT (a8 a9:aa)(aC:Int)(aD:aa)(aF t ad:Int)(z:IP):Prop where
 t0:0<=t
 t1:t<a9.length
 d:La (fqR a8 aC aD aF ad)
 q:T0 (fqR a8 aC aD aF ad) a9.length 1000000000 0 ⟨z,a9⟩
 l:(fqR a8 aC aD aF ad).length<=501
 w:Rw [tI,tI,tI] (fqL a8 aC aD aF ad)
 wl:(fqL a8 aC aD aF ad).length<=501
 r:Rw [tI,tI,tI] (fqR a8 aC aD aF ad)
theorem HI (hc:o6 a0 a1 a2 a4 a5 a6 a7 a8 a9 aA aB aD aL)(h9:ak a9<=1000000000)(h:hpI a0 a1 a2 a3 a4 a5 a6 a7 a8 a9 aA aB aC aD aE aF aG aH aI aJ aK aL aM aN=true)(S:TN a0 a1 a2 a6 a8 ad)(g:inR t 0 (a9.length-1)=true):FqT a8 a9 aC aD aF t ad ⟨fcC a0 a2 a8 ad,a1,a2,a5,a6⟩:=by
 have T:=jg h;have r:=bH.1 g;have q:=ac0 hc h9 h S;have l:=abS T.q;have ck:=bH.1 T.t;have d0:=S.d0;have d1:=S.d1;have wk: -9223372036854775808<=jS a8 ad/\jS a8 ad<=9223372036854775807:=by
  unfold jS clsOf;repeat' split
  all_goals omega
 have wa:Rw [tI,tI,tI] (aD++[Dk ad (jS a8 ad) aF]):=Rw.append hc.r13 (Rw.one (show cp [tI,tI,tI] (Dk ad (jS a8 ad) aF)from⟨⟨rfl,show-9223372036854775808<=ad/\ad<=9223372036854775807 from by omega⟩,⟨rfl,wk⟩,⟨rfl,show-9223372036854775808<=aF/\aF<=9223372036854775807 from by omega⟩,trivial⟩)) (by unfold maxLen;simp only[Zn,Zr];omega);have w:Rw [tI,tI,tI] (fqL a8 aC aD aF ad)/\(fqL a8 aC aD aF ad).length<=501/\Rw [tI,tI,tI] (fqR a8 aC aD aF ad):=by
  unfold fqL fqR;cases b:Gt aC aD ad (jS a8 ad) aF with
  |false=>rw[(EL b).1,(EL b).2];exact⟨hc.r13,by omega,Rw.nil⟩
  | true=>
    rw[(NG b).1,(NG b).2];exact⟨Rw.drop wa _,by rw[Zu,Ze];simp only[Zn,Zr];omega,Rw.take wa _⟩
 exact⟨r.1,by omega,q.1,q.2.1,by omega,w.1,w.2.1,w.2.2⟩
theorem Ef (hc:o6 a0 a1 a2 a4 a5 a6 a7 a8 a9 aA aB aD aL)(h:hpI a0 a1 a2 a3 a4 a5 a6 a7 a8 a9 aA aB aC aD aE aF aG aH aI aJ aK aL aM aN=true)(hn:a3≠100000)(S:TN a0 a1 a2 a6 a8 ad)(T:FqT a8 a9 aC aD aF t ad ⟨fcC a0 a2 a8 ad,a1,a2,a5,a6⟩) 
 (P:OA aI aJ aK t (fqR a8 aC aD aF ad) ⟨⟨fcC a0 a2 a8 ad,a1,a2,a5,a6⟩,a9⟩ i c u e f s x) (i0:0<=i) (i1:i<(fqR a8 aC aD aF ad).length):
 o6 c u e a4 f s a7 (foO a8 ad) x aA aB (fqL a8 aC aD aF ad) aL/\kerOk c u e a3 a4=true/\a3≠100000/\f.length<=65/\uM s/\(∃ k,rV s (ab (fqR a8 aC aD aF ad) i 0) k)/\0<=t/\t<x.length:=by
 have I:=ab0 (me:=aI) (kp:=aJ) (mv:=aK) T.d T.q T.t0 T.t1 i.toNat (by omega);rw[<-afi P]at I;have k:=oR (jg h).k;have wl:=T.wl;have H:=RH (b13:=fqL a8 aC aD aF ad) (L0 hc S) I.fr T.w (by omega);have D:=I.d;have dw:=D.w;have dl:=D.l;have dc:=D.c;have tl:=T.l;have t0:=T.t0;have t1:=T.t1;simp only at dw dl dc;obtain⟨j,v⟩:=I.q i.toNat (Zd _) (by omega);rw[Zt i0]at v;exact⟨{H with r9:=dw,c9:=by omega},MD I.fr.m k.2.1 k.2.2.1 k.2.2.2,hn,I.fr.lf,I.fr.g,⟨j,v⟩,t0,by omega⟩
theorem ac1 (hc:o6 a0 a1 a2 a4 a5 a6 a7 a8 a9 aA aB aD aL)(S:TN a0 a1 a2 a6 a8 ad)(T:FqT a8 a9 aC aD aF t ad ⟨fcC a0 a2 a8 ad,a1,a2,a5,a6⟩):
 o6 (raC aI aJ aK (fcC a0 a2 a8 ad) a1 a2 a5 a6 a9 t (fqR a8 aC aD aF ad)) (raU aI aJ aK (fcC a0 a2 a8 ad) a1 a2 a5 a6 a9 t (fqR a8 aC aD aF ad)) (raE aI aJ aK (fcC a0 a2 a8 ad) a1 a2 a5 a6 a9 t (fqR a8 aC aD aF ad)) a4
  (raF aI aJ aK (fcC a0 a2 a8 ad) a1 a2 a5 a6 a9 t (fqR a8 aC aD aF ad)) (raS aI aJ aK (fcC a0 a2 a8 ad) a1 a2 a5 a6 a9 t (fqR a8 aC aD aF ad)) a7 (foO a8 ad) (raD aI aJ aK (fcC a0 a2 a8 ad) a1 a2 a5 a6 a9 t (fqR a8 aC aD aF ad)) aA aB (fqL a8 aC aD aF ad) aL:=by
 have I:=ab0 (me:=aI) (kp:=aJ) (mv:=aK) T.d T.q T.t0 T.t1 _ (Zd _);have wl:=T.wl;have H:=RH (b13:=fqL a8 aC aD aF ad) (L0 hc S) I.fr T.w (by omega);have D:=I.d;have dw:=D.w;have dc:=D.c;have tl:=T.l;exact {H with r9:=dw,c9:=by show ak (rN _ _ _ _ _ _ _).D<=_;omega}
end
def hfK (k:Bool)(c:Int)(es sp lg os m b x:aa)(t ad:Int):Int:=
 if k=false\/c=100000 then 6 else if inR t 0 (m.length-1)=false then 1 else if obI os ad<0 then hwI sp lg ad else if jS os ad<0 then 0 else if peM es (ad/16)=1 then 5 else if t=foT os ad then 0 else if sdB b x t (foT os ad) ad=true then 0 else 5
section
variable {k g: Bool} {c t ad: Int} {es sp lg os m b x: aa}
theorem HG (h:g=false):fbL g os ad=false/\fbP g es os b x t ad=false/\fbQ g es os t ad=false:=by
 subst h;exact⟨rfl,rfl,rfl⟩
theorem Kv (h:obI os ad<0):fbL g os ad=false/\fbP g es os b x t ad=false/\fbQ g es os t ad=false:=by
 have q:foG g os ad=false:=by unfold foG;rw[VU (p:=0<=obI os ad) (by omega)];simp
 unfold fbL fbP fbQ fbS;rw[q];exact⟨rfl,rfl,rfl⟩
theorem aaD (h:g=true)(o:0<=obI os ad)(c:jS os ad<0):fbL g os ad=true/\fbP g es os b x t ad=false/\fbQ g es os t ad=false:=by
 unfold fbL fbP fbQ fbS foG;rw[h,VT o,VT c,VU (p:=0<=jS os ad) (by omega)];exact⟨rfl,rfl,rfl⟩
theorem aaJ (c:0<=jS os ad)(r:peM es (ad/16)=1):fbL g os ad=false/\fbP g es os b x t ad=false/\fbQ g es os t ad=false:=by
 unfold fbL fbP fbQ fbS;rw[VU (p:=jS os ad<0) (by omega),VU (p:=peM es (ad/16)≠1) (fun n=>n r)];simp
theorem aaF (c:0<=jS os ad)(n:t≠foT os ad)(s:sdB b x t (foT os ad) ad=false):fbL g os ad=false/\fbP g es os b x t ad=false/\fbQ g es os t ad=false:=by
 unfold fbL fbP fbQ;rw[VU (p:=jS os ad<0) (by omega),VU (p:=t=foT os ad) n,s];simp
theorem aaG (h:g=true)(o:0<=obI os ad)(c:0<=jS os ad)(r:peM es (ad/16)≠1)(n:t≠foT os ad)(s:sdB b x t (foT os ad) ad=true):fbL g os ad=false/\fbP g es os b x t ad=true/\fbQ g es os t ad=false:=by
 unfold fbL fbP fbQ fbS foG;rw[h,VT o,VT c,VU (p:=jS os ad<0) (by omega),VT r,VT n,VU (p:=t=foT os ad) n,s];exact⟨rfl,rfl,rfl⟩
theorem aaH (h:g=true)(o:0<=obI os ad)(c:0<=jS os ad)(r:peM es (ad/16)≠1)(n:t=foT os ad):fbL g os ad=false/\fbP g es os b x t ad=false/\fbQ g es os t ad=true:=by
 unfold fbL fbP fbQ fbS foG;rw[h,VT o,VT c,VU (p:=jS os ad<0) (by omega),VT r,VT n,VU (p:=t≠foT os ad) (fun z=>z n)];exact⟨rfl,rfl,rfl⟩
theorem Ji (h:k=false\/c=100000):hfK k c es sp lg os m b x t ad=6:=by unfold hfK;rw[VW h]
theorem HL (h:k=true)(n:c≠100000):¬ (k=false\/c=100000):=by rw[h];rintro(q|q);cases q;exact n q
theorem RY (h:k=true)(n:c≠100000)(i:inR t 0 (m.length-1)=false):hfK k c es sp lg os m b x t ad=1:=by unfold hfK;rw[VX (HL h n),VW i]
theorem KA (i:inR t 0 (m.length-1)=true):¬ inR t 0 (m.length-1)=false:=by rw[i];exact XA
theorem Ga (h:k=true)(n:c≠100000)(i:inR t 0 (m.length-1)=true)(o:obI os ad<0):hfK k c es sp lg os m b x t ad=hwI sp lg ad:=by unfold hfK;rw[VX (HL h n),VX (KA i),VW o]
theorem RZ (h:k=true)(n:c≠100000)(i:inR t 0 (m.length-1)=true)(o:0<=obI os ad)(l:jS os ad<0):hfK k c es sp lg os m b x t ad=0:=by unfold hfK;rw[VX (HL h n),VX (KA i),VX (by omega),VW l]
theorem R3 (h:k=true)(n:c≠100000)(i:inR t 0 (m.length-1)=true)(o:0<=obI os ad)(l:0<=jS os ad)(r:peM es (ad/16)=1):hfK k c es sp lg os m b x t ad=5:=by unfold hfK;rw[VX (HL h n),VX (KA i),VX (by omega),VX (by omega),VW r]
theorem R2 (h:k=true)(n:c≠100000)(i:inR t 0 (m.length-1)=true)(o:0<=obI os ad)(l:0<=jS os ad)(r:peM es (ad/16)≠1)(q:t=foT os ad):hfK k c es sp lg os m b x t ad=0:=by unfold hfK;rw[VX (HL h n),VX (KA i),VX (by omega),VX (by omega),VX r,VW q]
theorem R1 (h:k=true)(n:c≠100000)(i:inR t 0 (m.length-1)=true)(o:0<=obI os ad)(l:0<=jS os ad)(r:peM es (ad/16)≠1)(q:t≠foT os ad)(s:sdB b x t (foT os ad) ad=true):hfK k c es sp lg os m b x t ad=0:=by unfold hfK;rw[VX (HL h n),VX (KA i),VX (by omega),VX (by omega),VX r,VX q,VW s]
theorem R0 (h:k=true)(n:c≠100000)(i:inR t 0 (m.length-1)=true)(o:0<=obI os ad)(l:0<=jS os ad)(r:peM es (ad/16)≠1)(q:t≠foT os ad)(s:sdB b x t (foT os ad) ad=false):hfK k c es sp lg os m b x t ad=5:=by unfold hfK;rw[VX (HL h n),VX (KA i),VX (by omega),VX (by omega),VX r,VX q,VX (by rw[s];exact XA)]
end
end Go.V
namespace Go.V
section
variable {rm a c s i: Int} {qs: aa}
theorem SV (h:quarOk rm qs=false):Gt rm qs a c s=false:=by unfold Gt;rw[h];rfl
theorem JW (h:stlOk qs a c s=false):Gt rm qs a c s=false:=by unfold Gt;rw[h];simp
theorem SX (h:quarOk rm qs=true)(g:stlOk qs a c s=true):Gt rm qs a c s=true:=by unfold Gt;rw[h,g];rfl
theorem ae4 (h:staB a c s=false):Gt rm qs a c s=false:=JW (by
 unfold staB at h;unfold stlOk
 revert h
 cases inR c 0 3<;>cases decide (0<=a)<;>cases decide (0<=s)<;>simp)
theorem ae5 (h:qtB qs a=true):Gt rm qs a c s=false:=JW (by unfold stlOk;rw[h];simp)
theorem ae6 (h:(0:Int)<qs.length)(g:s<ab qs (qs.length-1) 2):Gt rm qs a c s=false:=JW (by
 unfold stlOk;rw[VU (p:=qs.length=0) (by omega),VU (p:=ab qs (qs.length-1) 2<=s) (by omega)];simp)
theorem ae7 (h:quarOk rm qs=true)(g:staB a c s=true)(k:qtB qs a=false)(z:(qs.length:Int)<=0\/ab qs (qs.length-1) 2<=s):Gt rm qs a c s=true:=SX h (by
 unfold staB at g;simp only[Zc]at g;unfold stlOk;rw[g.1,g.2.1,g.2.2,k];rcases z with z|z
 ·rw[VT (p:=qs.length=0) (by omega)];rfl
 ·rw[VT z];simp)
theorem NF:((qs++[Dk a c s]).length:Int)=qs.length+1:=by rw[Ze];rfl
theorem SU (w:Rw [tI,tI,tI] qs)(l:qs.length<=1073741823)(ha: -9223372036854775808<=a/\a<=9223372036854775807)(hc: -9223372036854775808<=c/\c<=9223372036854775807)(hs: -9223372036854775808<=s/\s<=9223372036854775807):Rw [tI,tI,tI] (qs++[Dk a c s]):=
 Rw.append w (Rw.one (show cp [tI,tI,tI] (Dk a c s)from⟨⟨rfl,ha⟩,⟨rfl,hc⟩,⟨rfl,hs⟩,trivial⟩)) (by unfold maxLen;simp only[Zn,Zr];omega)
end
theorem afd {rm:Int}{qs:aa}(h:quarOk rm qs=true):inR rm 0 500=true:=by
 unfold quarOk at h;simp only[Zc]at h;exact h.2.1
def gi1 (l:aa)(i:Int):Int:=ab l i 1
def lgC (c u e l:aa)(ad:Int):aa:=duC c u e (uO l ad) (yh l ad)
def lgU (c u e l:aa)(ad:Int):aa:=duU c u e (uO l ad) (yh l ad)
def lgE (c u e l:aa)(ad:Int):aa:=duE c u e (uO l ad) (yh l ad)
def lgF (c u e f l:aa)(ad:Int):aa:=rpL (zlI (lgE c u e l ad)) f (uO l ad) (yh l ad)
def lgL (l:aa)(ad:Int):aa:=delL l (lhI l ad) (lhI l ad+1)
end Go.V
namespace Go.V
section
variable {a0 a1 a2: aa} {a3: Int} {a4 a5 a6 a7 a8 a9 aA aB: aa} {aC: Int} {aD: aa} {aE aF aG aH: Int} {aI: Bool} {aJ aK: Int} {aL: aa} {aM aN t ad: Int}
theorem MM (hc:o6 a0 a1 a2 a4 a5 a6 a7 a8 a9 aA aB aD aL):o6 a0 a1 a2 a4 a5 a6 (lgL a7 ad) (foO a8 ad) a9 aA aB aD aL:=by
 have l:=tV (i:=lhI a7 ad) (j:=lhI a7 ad+1) hc.r7 (by omega);have o:=L3 (ad:=ad) hc.r8;have c7:=hc.c7;have c8:=hc.c8;exact {hc with r7:=l.1,c7:=by show ak (delL _ _ _)<=_;rw[l.1.cnt rfl];rw[hc.r7.cnt rfl]at c7;omega,r8:=o.1,c8:=by omega}
theorem ad4 (hc:o6 a0 a1 a2 a4 a5 a6 a7 a8 a9 aA aB aD aL)(km:rW a0 a1 a2)(T:LfT a5 a7 ad):o6 (lgC a0 a1 a2 a7 ad) (lgU a0 a1 a2 a7 ad) (lgE a0 a1 a2 a7 ad) a4 (lgF a0 a1 a2 a5 a7 ad) a6 (lgL a7 ad) (foO a8 ad) a9 aA aB aD aL:=aaE hc km T
theorem L2 (h:Rw [tI,tI,tI,tI] a8)(k0:0<=obI a8 ad)(k1:obI a8 ad<a8.length):(-9223372036854775808<=foT a8 ad/\foT a8 ad<=9223372036854775807)/\ -9223372036854775808<=jS a8 ad/\jS a8 ad<=9223372036854775807:=by
 refine⟨AD h (j:=3) rfl (by omega),?_⟩;unfold jS clsOf;repeat' split
 all_goals omega
theorem SF (k0:0<=obI a8 ad):obI a8 ad<a8.length:=(fM (p:=ue a8 ad) (n:=a8.length) k0).1
theorem RX (hc:o6 a0 a1 a2 a4 a5 a6 a7 a8 a9 aA aB aD aL)(h9:ak a9<=1000000000)(h10:ak aA<=500000000){g:Bool}(e:g=t0B (hpI a0 a1 a2 a3 a4 a5 a6 a7 a8 a9 aA aB aC aD aE aF aG aH aI aJ aK aL aM aN) a3 t a9):
 o6 (ifR (fbL g a8 ad) (lgC a0 a1 a2 a7 ad) (ifR (fbP g a2 a8 aA aB t ad) (fcC a0 a2 a8 ad) (ifR (fbQ g a2 a8 t ad) (raC aI aJ aK (fcC a0 a2 a8 ad) a1 a2 a5 a6 a9 t (fqR a8 aC aD aF ad)) a0)))
  (ifR (fbL g a8 ad) (lgU a0 a1 a2 a7 ad) (ifR (fbQ g a2 a8 t ad) (raU aI aJ aK (fcC a0 a2 a8 ad) a1 a2 a5 a6 a9 t (fqR a8 aC aD aF ad)) a1))
  (ifR (fbL g a8 ad) (lgE a0 a1 a2 a7 ad) (ifR (fbQ g a2 a8 t ad) (raE aI aJ aK (fcC a0 a2 a8 ad) a1 a2 a5 a6 a9 t (fqR a8 aC aD aF ad)) a2)) a4
  (ifR (fbL g a8 ad) (lgF a0 a1 a2 a5 a7 ad) (ifR (fbQ g a2 a8 t ad) (raF aI aJ aK (fcC a0 a2 a8 ad) a1 a2 a5 a6 a9 t (fqR a8 aC aD aF ad)) a5))
  (ifR (fbQ g a2 a8 t ad) (raS aI aJ aK (fcC a0 a2 a8 ad) a1 a2 a5 a6 a9 t (fqR a8 aC aD aF ad)) a6) (ifR (fbL g a8 ad) (lgL a7 ad) a7)
  (ifR (fbL g a8 ad) (foO a8 ad) (ifR (fbP g a2 a8 aA aB t ad) (foO a8 ad) (ifR (fbQ g a2 a8 t ad) (foO a8 ad) a8)))
  (ifR (fbQ g a2 a8 t ad) (raD aI aJ aK (fcC a0 a2 a8 ad) a1 a2 a5 a6 a9 t (fqR a8 aC aD aF ad)) a9) (ifR (fbP g a2 a8 aA aB t ad) (sdU aA t (foT a8 ad) ad) aA) aB (ifR (fbQ g a2 a8 t ad) (fqL a8 aC aD aF ad) aD) aL:=by
 cases hg:g with
 | false=>
   have q:=HG (g:=false) (es:=a2) (os:=a8) (b:=aA) (x:=aB) (t:=t) (ad:=ad) rfl;rw[q.1,q.2.1,q.2.2];exact hc
 | true=>
   have G:=afT (e.symm.trans hg);have H:=jg G.1;by_cases o:obI a8 ad<0
   ·have q:=Kv (g:=true) (es:=a2) (os:=a8) (b:=aA) (x:=aB) (t:=t) (ad:=ad) o;rw[q.1,q.2.1,q.2.2];exact hc
   ·have FT:=HH G.1 (by omega:0<=obI a8 ad);have rg:=L2 hc.r8 (ad:=ad) (by omega) FT.k1;by_cases c:jS a8 ad<0
    ·have q:=aaD (g:=true) (es:=a2) (os:=a8) (b:=aA) (x:=aB) (t:=t) (ad:=ad) rfl (by omega) c;rw[q.1,q.2.1,q.2.2];exact ad4 hc (oR H.k).1 (HZ G.1 FT c)
    ·have S:=HJ hc G.1 FT (by omega);by_cases r:peM a2 (ad/16)=1
     ·have q:=aaJ (g:=true) (es:=a2) (os:=a8) (b:=aA) (x:=aB) (t:=t) (ad:=ad) (by omega) r;rw[q.1,q.2.1,q.2.2];exact hc
     ·by_cases n:t=foT a8 ad
      ·have q:=aaH (g:=true) (es:=a2) (os:=a8) (b:=aA) (x:=aB) (t:=t) (ad:=ad) rfl (by omega) (by omega) r n;rw[q.1,q.2.1,q.2.2];exact ac1 hc S (HI hc h9 G.1 S G.2.2)
      ·cases s:sdB aA aB t (foT a8 ad) ad with
       | false=>
         have q:=aaF (g:=true) (es:=a2) (os:=a8) (b:=aA) (x:=aB) (t:=t) (ad:=ad) (by omega) n s;rw[q.1,q.2.1,q.2.2];exact hc
       | true=>
         have q:=aaG (g:=true) (es:=a2) (os:=a8) (b:=aA) (x:=aB) (t:=t) (ad:=ad) rfl (by omega) (by omega) r n s;have i:=bH.1 G.2.2;have nn:a9.length=aA.length:=VY H.n;rw[q.1,q.2.1,q.2.2];exact acZ hc h10 S i.1 (by omega) rg.1
end
end Go.V