/- Plain facts. -/
import Derived.Test.YtpldpilhgjpkjaaGreatZW2
import Derived.Test.YtpldpilhgjpkjaaGreatZW1
set_option linter.all false
open Go
open BitVec renaming ofInt_natCast->Xh,toNat_ofNat->Y2
open Bool renaming and_eq_true->Zb,or_eq_true->Z5,and_false->Yc,true_and->Yz,eq_iff_iff->Xi
open Int renaming mul_nonneg->XO,mul_le_mul_of_nonneg_right->Xg,toNat_of_nonneg->Zj,add_mul->WP,ediv_nonneg->Wb,eq_ofNat_of_zero_le->ZX,mul_comm->Wg,le_refl->Yi,toNat_natCast->ZJ
open IntKind renaming i64->Zy,i64->Za
open IntWalk renaming i64_in->YZ
open List renaming length_map->YS,mem_append->Zh,length_append->Zf,append_assoc->Zs,length_cons->Zi,length_nil->Zk,mem_cons->Zl,mem_singleton->Yb,nodup_append->Zx,nodup_nil->ZR,mergeSort_perm->WQ,getD_eq_getElem?_getD->Zm,take_append_drop->ZU,take->Yh,drop->Yy,take_length->Y1,drop_eq_getElem_cons->WR,getElem?_eq_getElem->Zt,replicate->Zr,length_set->Zw,getElem_of_mem->Wj,mem_of_mem_drop->Yq,foldl_append->XQ,foldl_cons->Y3,foldl_nil->Xx,all_eq_true->Z7,length_take->Zg,length_drop->Zq,mem_of_mem_take->Y4,drop_zero->YH,drop_succ_cons->XR
open List.Pairwise renaming nil->Vy,imp₂->Vz
open Nat renaming zero_le->Zv,lt_trichotomy->We,le_refl->Ze,le_trans->ZH,lt_or_eq_of_le->WS
open Option.some renaming inj->YB
open Value renaming int->Zn
namespace Go.V
def Cs (sp:af)(i:Int):Nat->List Int
 |0=>[]
 |n+1=>Cs sp i n++(if hsB (ag sp i 2) n then[aaI (ag sp i 0) (ag sp i 1) (ag sp i 2) n]else[])
def Bo (sp:af):Nat->List Int
 |0=>[]
 |n+1=>Bo sp n++Cs sp n (slN (ag sp n 1)).toNat
def Eo (lg:af):Nat->List Int
 |0=>[]
 |n+1=>Eo lg n++[ag lg n 0*16]
def iaA (sp lg:af):List Int:=Bo sp sp.length++Eo lg lg.length
def iaL (sp lg:af):af:=if layOk sp lg then srtL (lY (iaA sp lg))else[]
def ux {a b:Int}(h: -9223372036854775808<=a*b/\a*b<=9223372036854775807):bQ .mul Za a b=a*b:=YZ _ h
def DR {l:af}:(srtL l).length=l.length:=by unfold srtL;rw[kT,List.length_mergeSort];unfold pE;rw[YS]
def RX (l:List Int):Prop:=∀ x∈l,-1<=x/\x<=1000
def GB {a b:List Int}(h:RX a)(g:RX b):RX (a++b):=fun x hx=>by
 rcases Zh.1 hx with q|q;exact h x q;exact g x q
def Pv {x:Int}(h: -1<=x/\x<=1000):RX [x]:=fun y hy=>by simp at hy;rw[hy];exact h
def ahc {p k b s:Int}: -1<=aaI p k b s/\aaI p k b s<=1000:=by
 unfold aaI;by_cases h:MO p k b s=true
 ·rw[VO h];unfold MO at h;simp only[Zb]at h;have t:=mU h.1;have c:=nk t.2.2.1;have s1:=ay.1 h.2;have m0:0<=s*clsSz k:=XO Uc Uc;have m1:s*clsSz k<=slN k*clsSz k:=Xg Uc Uc;omega
 ·rw[VP h];omega
def Bn {sp:af}{i k:Int}(h:0<=k):Cs sp i (k+1).toNat=Cs sp i k.toNat++(if hsB (ag sp i 2) k then[aaI (ag sp i 0) (ag sp i 1) (ag sp i 2) k]else[]):=by
 rw[show(k+1).toNat=k.toNat+1 from by omega,Cs,Zj h]
def Kh {sp:af}{i:Int}(h:0<=i):Bo sp (i+1).toNat=Bo sp i.toNat++Cs sp i (slN (ag sp i 1)).toNat:=by
 rw[show(i+1).toNat=i.toNat+1 from by omega,Bo,Zj h]
def E5 {lg:af}{i:Int}(h:0<=i):Eo lg (i+1).toNat=Eo lg i.toNat++[ag lg i 0*16]:=by
 rw[show(i+1).toNat=i.toNat+1 from by omega,Eo,Zj h]
structure IaP (sp:af)(i:Int)(o:af):Prop where
 e:o=lY (Bo sp i.toNat)
 b:RX (Bo sp i.toNat)
 l:(Bo sp i.toNat).length<=16*i.toNat
structure MG (sp:af)(i k:Int)(o:af):Prop where
 e:o=lY (Bo sp i.toNat++Cs sp i k.toNat)
 b:RX (Bo sp i.toNat++Cs sp i k.toNat)
 l:(Bo sp i.toNat).length<=16*i.toNat
 k:(Cs sp i k.toNat).length<=k.toNat
structure Pm (sp lg:af)(j:Int)(o:af):Prop where
 e:o=lY (Bo sp sp.length++Eo lg j.toNat)
 b:RX (Bo sp sp.length++Eo lg j.toNat)
 l:(Bo sp sp.length++Eo lg j.toNat).length<=16*sp.length+j.toNat
def aih {sp:af}:IaP sp 0 []:=⟨rfl,(fun x hx=>by cases hx),Zv _⟩
def aij {sp o:af}{i:Int}(h:IaP sp i o):MG sp i 0 o:=
 ⟨by rw[h.e];simp[Cs],by simpa[Cs]using h.b,h.l,Zv _⟩
def Tq {sp o:af}{i k:Int}(h:MG sp i k o):o.length<=16*i.toNat+k.toNat:=by
 have l:=h.l;have m:=h.k;rw[h.e,kT,Zf];omega
def Ts {sp o:af}{i k:Int}(h:MG sp i k o)(k0:0<=k)(hh:hsB (ag sp i 2) k=true):MG sp i (k+1) (o++[[.i (aaI (ag sp i 0) (ag sp i 1) (ag sp i 2) k)]]):=by
 have m:=h.k;have e:=h.e;refine⟨?_,?_,h.l,?_⟩
 ·rw[Bn k0,VO hh, <-Zs,BO, <-e];rfl
 ·rw[Bn k0,VO hh, <-Zs];exact GB h.b (Pv ahc)
 ·rw[Bn k0,VO hh,Zf,Zi,Zk];omega
def adq {sp o:af}{i k:Int}(h:MG sp i k o)(k0:0<=k)(hh:hsB (ag sp i 2) k=false):MG sp i (k+1) o:=by
 have m:=h.k;have e:=h.e;have u:Cs sp i (k+1).toNat=Cs sp i k.toNat:=by rw[Bn k0,hh];simp
 refine⟨?_,?_,h.l,?_⟩
 ·rw[u];exact e
 ·rw[u];exact h.b
 ·rw[u];omega
def ajZ {sp lg:af}{i:Int}(hl:layOk sp lg=true)(h0:0<=i)(h1:i<sp.length):0<=slN (ag sp i 1)/\slN (ag sp i 1)<=16:=by
 have t:=mU ((Ky hl).1 i h0 h1);have c:=nk t.2.2.1;omega
def Tp {sp o:af}{i k:Int}(h:MG sp i k o)(i0:0<=i)(k1:k<=slN (ag sp i 1))(k2:slN (ag sp i 1)<=k)(hs:0<=slN (ag sp i 1)/\slN (ag sp i 1)<=16):IaP sp (i+1) o:=by
 have ek:k=slN (ag sp i 1):=by omega
 have e:=h.e;have b:=h.b;have l:=h.l;have m:=h.k;rw[ek, <-Kh i0]at e b;rw[ek]at m;refine⟨e,b,?_⟩;rw[Kh i0,Zf];omega
def aik {sp lg o:af}{i:Int}(h:IaP sp i o)(h1:i<=sp.length)(h2:(sp.length:Int)<=i):Pm sp lg 0 o:=by
 have ei:i.toNat=sp.length:=by omega
 have e:=h.e;have b:=h.b;have l:=h.l;rw[ei]at e b l;exact⟨by rw[e];simp[Eo],by simpa[Eo]using b,by simpa[Eo]using l⟩
def Kk {sp lg o:af}{j:Int}(h:Pm sp lg j o):o.length<=16*sp.length+j.toNat:=by
 have l:=h.l;rw[h.e,kT];exact l
def ajc {sp lg:af}{j:Int}(hl:layOk sp lg=true)(h0:0<=j)(h1:j<lg.length):0<=ag lg j 0/\ag lg j 0<=32:=by
 have t:=oh ((Ky hl).2.1 j h0 h1);have b:=qL t.1;omega
def ads {sp lg o:af}{j:Int}(h:Pm sp lg j o)(j0:0<=j)(hb:0<=ag lg j 0/\ag lg j 0<=32):Pm sp lg (j+1) (o++[[.i (ag lg j 0*16)]]):=by
 have e:=h.e;have l:=h.l;refine⟨?_,?_,?_⟩
 ·rw[E5 j0, <-Zs,BO, <-e];rfl
 ·rw[E5 j0, <-Zs];exact GB h.b (Pv Uc)
 ·rw[E5 j0, <-Zs,Zf,Zi,Zk];omega
def adr {sp lg o:af}{j:Int}(h:Pm sp lg j o)(h1:sp.length<=1073741824)(h2:j<=1073741824):Rw [tI] o/\o.length<=70368744177664:=by
 have l:=Kk h;refine⟨?_,Uc⟩;have e:=h.e;have l2:=h.l;rw[e];exact LB (fun x hx=>by have:=h.b x hx;omega) Uc
def Tt {sp lg o:af}{j:Int}(h:Pm sp lg j o)(j1:j<=lg.length)(j2:(lg.length:Int)<=j)(hl:layOk sp lg=true):srtL o=iaL sp lg:=by
 have ej:j.toNat=lg.length:=by omega
 have e:=h.e;rw[ej]at e;unfold iaL iaA;rw[VO hl, <-e]
def aii {sp lg:af}(hl:layOk sp lg=false):([]:af)=iaL sp lg:=by unfold iaL;rw[hl];rfl
end Go.V
namespace Go.V
def w5:∀ {a b:List Int},a.Pairwise (· < ·)->b.Pairwise (· < ·)->(∀ x,x∈a↔x∈b)->a=b
 |[],[],_,_,_=>rfl
 |[],y::b,_,_,h=>by have:=(h y).2 (by simp);simp at this
 |x::a,[],_,_,h=>by have:=(h x).1 (by simp);simp at this
 | x::a,y::b,ha,hb,h=>by
   rw[List.pairwise_cons]at ha hb;have e:x=y:=by
    rcases Zl.1 ((h x).1 (by simp))with q|q;exact q
    ·rcases Zl.1 ((h y).2 (by simp))with r|r;exact r.symm
     ·have:=hb.1 x q;have:=ha.1 y r;omega
   subst e;rw[w5 ha.2 hb.2 (fun z=>?_)]
   constructor
   ·intro m;rcases Zl.1 ((h z).1 (by simp[m]))with q|q
    ·have:=ha.1 z m;omega
    ·exact q
   ·intro m;rcases Zl.1 ((h z).2 (by simp[m]))with q|q
    ·have:=hb.1 z m;omega
    ·exact q
def wJ {sp:af}{x:Int}:∀ {n:Nat},x∈nN sp n↔∃ i:Nat,i<n/\ag sp i 0=x
 |0=>by simp[nN]
 | n+1=>by
   rw[nN,Zh,wJ,Yb]
   constructor
   ·rintro(⟨i,h,e⟩|rfl);exact⟨i,Uc,e⟩;exact⟨n,Uc,rfl⟩
   ·rintro⟨i,h,e⟩;by_cases c:i=n
    ·subst c;exact .inr e.symm
    ·exact .inl ⟨i,Uc,e⟩
def By {p x:Int}:∀ {n:Nat},x∈vE p n↔p<=x/\x<p+n
 |0=>⟨(fun h=>by cases h),(fun h=>absurd h Uc)⟩
 | n+1=>by
   rw[vE,Zh,By,Yb];omega
def wF {lg:af}{x:Int}:∀ {n:Nat},x∈oZ lg n↔∃ j:Nat,j<n/\ag lg j 0<=x/\x<ag lg j 0+(ag lg j 1).toNat
 |0=>by simp[oZ]
 | n+1=>by
   rw[oZ,Zh,wF,By]
   constructor
   ·rintro(⟨i,h,e⟩|h);exact⟨i,Uc,e⟩;exact⟨n,Uc,h⟩
   ·rintro⟨i,h,e⟩;by_cases c:i=n
    ·subst c;exact .inr e
    ·exact .inl ⟨i,Uc,e⟩
def LY {sp:af}:∀ {n:Nat},(nN sp n).Nodup->∀ i i':Nat,i<i'->i'<n->ag sp i 0≠ag sp i' 0
 |0,_,i,i',_,h=>by omega
 | n+1,hn,i,i',h1,h2=>by
   rw[nN,Zx]at hn;by_cases c:i'=n
   ·subst c;exact hn.2.2 _ (wJ.2 ⟨i,h1,rfl⟩) _ (by simp)
   ·exact LY hn.1 i i' h1 Uc
def KD {lg:af}:∀ {n:Nat},(oZ lg n).Nodup->∀ (j j':Nat) (x:Int),j<j'->j'<n->ag lg j 0<=x->x<ag lg j 0+(ag lg j 1).toNat->ag lg j' 0<=x->x<ag lg j' 0+(ag lg j' 1).toNat->False
 |0,_,j,j',x,_,h,_,_,_,_=>by omega
 | n+1,hn,j,j',x,h1,h2,a,b,c,d=>by
   rw[oZ,Zx]at hn;by_cases e:j'=n
   ·subst e;exact hn.2.2 x (wF.2 ⟨j,h1,a,b⟩) x (By.2 ⟨c,d⟩) rfl
   ·exact KD hn.1 j j' x h1 Uc a b c d
structure Pn (sp lg:af):Prop where
 s:∀ i:Nat,i<sp.length->spOk (ag sp i 0) (ag sp i 1) (ag sp i 2)=true
 l:∀ j:Nat,j<lg.length->lgOk (ag lg j 0) (ag lg j 1) (ag lg j 2)=true
 ss:∀ i i':Nat,i<sp.length->i'<sp.length->ag sp i 0=ag sp i' 0->i=i'
 sl:∀ i j:Nat,i<sp.length->j<lg.length->ag lg j 0<=ag sp i 0->ag sp i 0<ag lg j 0+ag lg j 1->False
 ll:∀ (j j':Nat) (x:Int),j<lg.length->j'<lg.length->ag lg j 0<=x->x<ag lg j 0+ag lg j 1->ag lg j' 0<=x->x<ag lg j' 0+ag lg j' 1->j=j'
def Qm {sp lg:af}(h:layOk sp lg=true):Pn sp lg:=by
 obtain⟨h1,h2,h3⟩:=Ky h;unfold Dy at h3;rw[Zx]at h3;have n0:∀ j:Nat,j<lg.length->((ag lg j 1).toNat:Int)=ag lg j 1:=fun j hj=>by
  have t:=oh (h2 j Uc Uc);have b:=qL t.1;omega
 refine⟨fun i hi=>h1 i Uc Uc,fun j hj=>h2 j Uc Uc,fun i i' a b e=>?_,fun i j a b c d=>?_,fun j j' x a b c d e f=>?_⟩
 ·rcases We i i' with q|q|q;exact absurd e (LY h3.1 i i' q b);exact q;exact absurd e.symm (LY h3.1 i' i q a)
 ·exact h3.2.2 _ (wJ.2 ⟨i,a,rfl⟩) _ (wF.2 ⟨j,b,c,by rw[n0 j b];exact d⟩) rfl
 ·rcases We j j' with q|q|q;exact(KD h3.2.1 j j' x q b c (by rw[n0 j a];exact d) e (by rw[n0 j' b];exact f)).elim;exact q;exact(KD h3.2.1 j' j x q a e (by rw[n0 j' b];exact f) c (by rw[n0 j a];exact d)).elim
def rS {p k b s:Int}(h:spOk p k b=true)(h0:0<=s)(h1:s<slN k):aaI p k b s=p*16+s*clsSz k/\0<=s*clsSz k/\s*clsSz k+clsSz k<=16/\1<=clsSz k:=by
 have t:=mU h;have c:=nk t.2.2.1;have a:MO p k b s=true:=by unfold MO;rw[h,ay.2 ⟨h0,Uc⟩];rfl
 have m0:0<=s*clsSz k:=XO h0 Uc;have m1:(s+1)*clsSz k<=slN k*clsSz k:=Xg Uc Uc;rw[WP]at m1;unfold aaI;rw[VO a];exact⟨rfl,m0,Uc,Uc⟩
def wD {sp:af}{i x:Int}:∀ {n:Nat},x∈Cs sp i n↔∃ k:Nat,k<n/\hsB (ag sp i 2) k=true/\x=aaI (ag sp i 0) (ag sp i 1) (ag sp i 2) k
 |0=>by simp[Cs]
 | n+1=>by
   rw[Cs,Zh,wD]
   constructor
   ·rintro(⟨k,h,e⟩|h);exact⟨k,Uc,e⟩
    ·by_cases c:hsB (ag sp i 2) n=true
     ·rw[VO c,Yb]at h;exact⟨n,Uc,c,h⟩
     ·rw[VP c]at h;simp at h
   ·rintro⟨k,h,c,e⟩;by_cases q:k=n
    ·subst q;rw[VO c];exact .inr (by simp[e])
    ·exact .inl ⟨k,Uc,c,e⟩
def wE {sp:af}{x:Int}:∀ {n:Nat},x∈Bo sp n↔∃ i k:Nat,i<n/\k<(slN (ag sp i 1)).toNat/\hsB (ag sp i 2) k=true/\x=aaI (ag sp i 0) (ag sp i 1) (ag sp i 2) k
 |0=>by simp[Bo]
 | n+1=>by
   rw[Bo,Zh,wE,wD]
   constructor
   ·rintro(⟨i,k,h,e⟩|⟨k,h⟩);exact⟨i,k,Uc,e⟩;exact⟨n,k,Uc,h⟩
   ·rintro⟨i,k,h,e⟩;by_cases q:i=n
    ·subst q;exact .inr ⟨k,e⟩
    ·exact .inl ⟨i,k,Uc,e⟩
def wC {lg:af}{x:Int}:∀ {n:Nat},x∈Eo lg n↔∃ j:Nat,j<n/\x=ag lg j 0*16
 |0=>by simp[Eo]
 | n+1=>by
   rw[Eo,Zh,wC,Yb]
   constructor
   ·rintro(⟨i,h,e⟩|h);exact⟨i,Uc,e⟩;exact⟨n,Uc,h⟩
   ·rintro⟨i,h,e⟩;by_cases q:i=n
    ·subst q;exact .inr e
    ·exact .inl ⟨i,Uc,e⟩
def E6 {sp:af}{i:Nat}(h:spOk (ag sp i 0) (ag sp i 1) (ag sp i 2)=true):∀ {n:Nat},n<=(slN (ag sp i 1)).toNat->(Cs sp i n).Nodup
 |0,_=>ZR
 | n+1,hn=>by
   rw[Cs];by_cases c:hsB (ag sp i 2) n=true
   ·rw[VO c];refine sZ (E6 h Uc) (fun m=>?_);obtain⟨k,k1,_,k3⟩:=wD.1 m;have a:=rS (s:=(n:Int)) h Uc Uc;have b:=rS (s:=(k:Int)) h Uc Uc;have q:((k:Int)+1)*clsSz (ag sp i 1)<=(n:Int)*clsSz (ag sp i 1):=Xg Uc Uc;rw[WP]at q;omega
   ·rw[VP c,List.append_nil];exact E6 h Uc
def Kg {sp lg:af}(F:Pn sp lg):∀ {n:Nat},n<=sp.length->(Bo sp n).Nodup
 |0,_=>ZR
 | n+1,hn=>by
   rw[Bo,Zx];refine⟨Kg F Uc,E6 (F.s n Uc) (Ze _),fun x hx y hy e=>?_⟩;subst e;obtain⟨i,k,i1,k1,_,e1⟩:=wE.1 hx;obtain⟨k',k2,_,e2⟩:=wD.1 hy;have a:=rS (s:=(k:Int)) (F.s i Uc) Uc Uc;have b:=rS (s:=(k':Int)) (F.s n Uc) Uc Uc;have:=F.ss i n Uc Uc Uc;omega
def Kf {sp lg:af}(F:Pn sp lg):∀ {n:Nat},n<=lg.length->(Eo lg n).Nodup
 |0,_=>ZR
 | n+1,hn=>by
   rw[Eo];refine sZ (Kf F Uc) (fun m=>?_);obtain⟨j,j1,e⟩:=wC.1 m;have t:=oh (F.l j Uc);have b:=qL t.1;have t':=oh (F.l n Uc);have b':=qL t'.1;have:=F.ll j n (ag lg j 0) Uc Uc Uc Uc Uc Uc;omega
def To {sp lg:af}(F:Pn sp lg):(iaA sp lg).Nodup:=by
 unfold iaA;rw[Zx];refine⟨Kg F (Ze _),Kf F (Ze _),fun x hx y hy e=>?_⟩;subst e;obtain⟨i,k,i1,k1,_,e1⟩:=wE.1 hx;obtain⟨j,j1,e2⟩:=wC.1 hy;have a:=rS (s:=(k:Int)) (F.s i Uc) Uc Uc;have t:=oh (F.l j Uc);have b:=qL t.1;exact F.sl i j i1 j1 Uc Uc
end Go.V
namespace Go.V
def gu {p:Int->Bool}{n:Nat}(h:0<=da p n):da p n<n/\p (da p n)=true:=by
 refine⟨by rcases sM (p:=p) (n:=n)with q|q<;>omega,?_⟩;unfold da at h ⊢;split at h
 ·rename_i j e;have q:=List.find?_some e;exact q
 ·omega
def xM {p:Int->Bool}{n i:Nat}(h:i<n)(hp:p i=true):0<=da p n:=by
 unfold da;split;omega
 ·rename_i e;rw[List.find?_eq_none]at e;exact absurd hp (e i (List.mem_range.2 h))
def yC {sp:af}{a i:Int}:AJ sp a i=true↔Es (ag sp i 0) (ag sp i 1) (ag sp i 2) a=true:=by
 unfold AJ;rw[VN]
 constructor
 ·intro h;cases c:Es (ag sp i 0) (ag sp i 1) (ag sp i 2) a with
  |true=>rfl
  |false=>rw[(LC c).1]at h;omega
 ·intro h;obtain⟨h1,h2,h3⟩:=uC.1 h;have cb:=nk (mU h1).2.2.1;rw[(yD h).1];exact Wb Uc Uc
def lvP (sp lg:af)(x:Int):Prop:=(∃ i k:Nat,i<sp.length/\k<(slN (ag sp i 1)).toNat/\hsB (ag sp i 2) k=true/\x=aaI (ag sp i 0) (ag sp i 1) (ag sp i 2) k)\/∃ j:Nat,j<lg.length/\x=ag lg j 0*16
def N0 {sp lg:af}{x:Int}:x∈iaA sp lg↔lvP sp lg x:=by
 unfold iaA lvP;rw[Zh,wE,wC]
def SD {sp lg:af}{a:Int}(h:0<=gE sp a):dnK sp lg a=(if hsB (ag sp (gE sp a) 2) (zt sp a (gE sp a))then 1 else 2)/\dnO sp lg a=OR sp a (gE sp a):=by
 unfold dnK dnO;rw[VO h,VO h];exact⟨rfl,rfl⟩
def SC {sp lg:af}{a:Int}(h:¬ 0<=gE sp a)(g:0<=md lg a):dnK sp lg a=3/\dnO sp lg a=loA lg a (md lg a):=by
 unfold dnK dnO;rw[VP h,VP h,VO g,VO g];exact⟨rfl,rfl⟩
def ahu {sp lg:af}{a:Int}(h:¬ 0<=gE sp a)(g:¬ 0<=md lg a):dnK sp lg a=0/\dnO sp lg a=0:=by
 unfold dnK dnO;rw[VP h,VP h,VP g,VP g];exact⟨rfl,rfl⟩
def Qk {sp lg:af}{a:Int}(hl:layOk sp lg=true):KE sp lg a=true↔dnO sp lg a=0/\(dnK sp lg a=1\/dnK sp lg a=3):=by
 unfold KE dzO dzK;rw[VO hl,VO hl];simp only[Zb,Z5,VN]
def ad7 {sp lg:af}{x:Int}(F:Pn sp lg)(hl:layOk sp lg=true)(h:KE sp lg x=true):lvP sp lg x:=by
 obtain⟨h1,h2⟩:=(Qk hl).1 h;by_cases c:0<=gE sp x
 ·obtain⟨d1,d2⟩:=SD (lg:=lg) c;obtain⟨b,q⟩:=gu c;change gE sp x<sp.length at b;change AJ sp x (gE sp x)=true at q;rw[d1]at h2;rw[d2]at h1;generalize hF:gE sp x=f at*;obtain⟨f,rfl⟩:=ZX c;have bf:f<sp.length:=by omega
  have q':=yC.1 q;obtain⟨a1,a2,a3⟩:=uC.1 q';obtain⟨e1,e2⟩:=yD q';have cb:=nk (mU a1).2.2.1;have hh:hsB (ag sp f 2) (zt sp x f)=true:=by
   cases c:hsB (ag sp f 2) (zt sp x f)with
   |true=>rfl
   |false=>rw[c]at h2;simp at h2
  unfold OR at h1;rw[e2]at h1;unfold zt at hh;rw[e1]at hh;have dv:clsSz (ag sp f 1)*((x-ag sp f 0*16)/clsSz (ag sp f 1))=x-ag sp f 0*16:=Int.mul_ediv_cancel_of_emod_eq_zero h1;have nn:0<=(x-ag sp f 0*16)/clsSz (ag sp f 1):=Wb Uc Uc;generalize hs:(x-ag sp f 0*16)/clsSz (ag sp f 1)=s at*;have lt:s<slN (ag sp f 1):=by
   by_cases w:s<slN (ag sp f 1);exact w
   ·have m:slN (ag sp f 1)*clsSz (ag sp f 1)<=s*clsSz (ag sp f 1):=Xg Uc Uc;rw[Wg s]at m;omega
  obtain⟨s,rfl⟩:=ZX nn;have ae:=rS a1 nn lt;refine .inl ⟨f,s,bf,Uc,hh,?_⟩;have ae1:=ae.1;rw[Wg (s:Int)]at ae1;show x=aaI (ag sp f 0) (ag sp f 1) (ag sp f 2) s;rw[ae1];omega
 ·by_cases g:0<=md lg x
  ·obtain⟨d1,d2⟩:=SC c g;obtain⟨b,q⟩:=gu g;change md lg x<lg.length at b;change Ay lg x (md lg x)=true at q;rw[d2]at h1;generalize hF:md lg x=f at*;obtain⟨f,rfl⟩:=ZX g;refine .inr ⟨f,Uc,?_⟩;unfold loA loI at h1;unfold Ay at q;rw[VO q]at h1;show x=ag lg f 0*16;omega
  ·obtain⟨d1,d2⟩:=ahu c g;rw[d1]at h2;omega
def PY {sp lg:af}{x:Int}(h:0<=gE sp x):∃ f:Nat,gE sp x=f/\f<sp.length/\Es (ag sp f 0) (ag sp f 1) (ag sp f 2) x=true:=by
 obtain⟨b,q⟩:=gu h;obtain⟨f,e⟩:=ZX h;refine⟨f,e,?_,?_⟩
 ·have:gE sp x<sp.length:=b;rw[e]at this;exact Int.ofNat_lt.1 this
 ·have:AJ sp x (gE sp x)=true:=q;rw[e]at this;exact yC.1 this
def ad6 {sp lg:af}{x:Int}(F:Pn sp lg)(hl:layOk sp lg=true)(h:lvP sp lg x):KE sp lg x=true:=by
 rw[Qk hl];rcases h with⟨i,k,i1,k1,hh,e⟩|⟨j,j1,e⟩
 ·have a1:=F.s i i1;have cb:=nk (mU a1).2.2.1;have ae:=rS (s:=(k:Int)) a1 Uc Uc;have sb:Es (ag sp i 0) (ag sp i 1) (ag sp i 2) x=true:=uC.2 ⟨a1,Uc,Uc⟩;have c:0<=gE sp x:=xM i1 (yC.2 sb);obtain⟨f,e1,f1,f2⟩:=PY (lg:=lg) c;obtain⟨_,g2,g3⟩:=uC.1 f2;have:f=i:=F.ss f i f1 i1 Uc;subst this;obtain⟨d1,d2⟩:=SD (lg:=lg) c;rw[d1,d2,e1];obtain⟨y1,y2⟩:=yD sb;have xe:x-ag sp f 0*16=k*clsSz (ag sp f 1):=by omega
  unfold zt OR;rw[y1,y2,xe,Int.mul_ediv_cancel _ Uc,VO hh];exact⟨Int.mul_emod_left _ _,.inl rfl⟩
 ·have t:=oh (F.l j j1);have b:=qL t.1;have r:=ay.1 t.1;have c:¬ 0<=gE sp x:=fun c=>by
   obtain⟨f,e1,f1,f2⟩:=PY (lg:=lg) c;obtain⟨_,g2,g3⟩:=uC.1 f2;exact F.sl f j f1 j1 Uc Uc
  have lb:lhB (ag lg j 0) (ag lg j 1) (ag lg j 2) x=true:=aae.2 ⟨F.l j j1,Uc,Uc⟩;have g:0<=md lg x:=xM j1 (show Ay lg x j=true from lb);obtain⟨d1,d2⟩:=SC c g;obtain⟨b1,q⟩:=gu g;change md lg x<lg.length at b1;change Ay lg x (md lg x)=true at q;rw[d1,d2];generalize hF:md lg x=f at*;obtain⟨f,rfl⟩:=ZX g;have f1:f<lg.length:=by omega
  have q':lhB (ag lg f 0) (ag lg f 1) (ag lg f 2) x=true:=q;obtain⟨_,u1,u2⟩:=aae.1 q';have t2:=oh (F.l f f1);have b2:=qL t2.1;have:f=j:=F.ll f j (ag lg j 0) f1 j1 Uc Uc Uc Uc;subst this;refine⟨?_,.inr rfl⟩;show loI (ag lg f 0) (ag lg f 1) (ag lg f 2) x=0;unfold loI;rw[VO lb];omega
def lvN (sp lg:af):Nat->List Int
 |0=>[]
 |n+1=>lvN sp lg n++(if KE sp lg n then[(n:Int)]else[])
def Bt {sp lg:af}:∀ n:Nat,TX sp lg n=lY (lvN sp lg n)
 |0=>rfl
 | n+1=>by
   rw[TX,lvN,BO,Bt n];by_cases c:KE sp lg n=true
   ·rw[VO c,VO c];rfl
   ·rw[VP c,VP c];rfl
def wG {sp lg:af}{x:Int}:∀ {n:Nat},x∈lvN sp lg n↔0<=x/\x<n/\KE sp lg x=true
 |0=>⟨(fun h=>by cases h),(fun h=>absurd h.2.1 Uc)⟩
 | n+1=>by
   rw[lvN,Zh,wG]
   constructor
   ·rintro(h|h);exact⟨h.1,Uc,h.2.2⟩
    ·by_cases c:KE sp lg n=true
     ·rw[VO c,Yb]at h;subst h;exact⟨Uc,Uc,c⟩
     ·rw[VP c]at h;cases h
   ·rintro⟨h1,h2,h3⟩;by_cases q:x=n
    ·subst q;rw[VO h3];exact .inr (by simp)
    ·exact .inl ⟨h1,Uc,h3⟩
def Lj {sp lg:af}:∀ n:Nat,(lvN sp lg n).Pairwise (· < ·)
 |0=>Vy
 | n+1=>by
   rw[lvN,List.pairwise_append];refine⟨Lj n,?_,fun a ha b hb=>?_⟩
   ·by_cases c:KE sp lg n=true
    ·rw[VO c];simp
    ·rw[VP c];simp
   ·have m:=wG.1 ha;by_cases c:KE sp lg n=true
    ·rw[VO c,Yb]at hb;omega
    ·rw[VP c]at hb;cases hb
def Ou {l:List Int}(h:l.Nodup):(l.mergeSort fun x y=>decide (x<=y)).Pairwise (· < ·):=by
 have p:=List.pairwise_mergeSort (le:=fun x y:Int=>decide (x<=y)) (fun a b c h1 h2=>by simp only[VN]at*;omega) (fun a b=>by simp only[Z5,VN];omega) l;have n:(l.mergeSort fun x y=>decide (x<=y)).Nodup:=(WQ l _).nodup_iff.2 h;refine Vz (R:=fun a b=>decide (a<=b)=true) (S:=(· ≠ ·)) (T:=(· < ·)) (fun a b h1 h2=>?_) p n;simp only[VN]at h1;omega
def NX {sp lg:af}:iaL sp lg=Ep sp lg:=by
 unfold iaL Ep;by_cases hl:layOk sp lg=true
 ·rw[VO hl,VO hl];have F:=Qm hl;unfold srtL;rw[Fe,Bt];refine congrArg lY (w5 (Ou (To F)) (Lj 512) (fun x=>?_));rw[(WQ _ _).mem_iff,N0,wG]
  constructor
  ·intro h;have v:=ad6 F hl h;refine⟨?_,?_,v⟩
   ·rcases h with⟨i,k,i1,k1,_,e⟩|⟨j,j1,e⟩
    ·have ae:=rS (s:=(k:Int)) (F.s i i1) Uc Uc;have t:=mU (F.s i i1);omega
    ·have t:=oh (F.l j j1);omega
   ·rcases h with⟨i,k,i1,k1,_,e⟩|⟨j,j1,e⟩
    ·have ae:=rS (s:=(k:Int)) (F.s i i1) Uc Uc;have t:=mU (F.s i i1);omega
    ·have t:=oh (F.l j j1);have b:=qL t.1;omega
  ·rintro⟨_,_,h⟩;exact ad7 F hl h
 ·rw[VP hl,VP hl]
end Go.V
namespace Go.V
def Fg (qs:af)(a j:Int):Bool:=eqB (ag qs j 0) a
def qtI (qs:af)(a:Int):Int:=da (Fg qs a) qs.length
def qtB (qs:af)(a:Int):Bool:=decide (0<=qtI qs a)
end Go.V
namespace Go.V
structure RF (ls:af):Prop where
 w:Rw [.sl [tI]] ls
 l:ls.length<=1099511627776
 n:∀ i:Int,(aU ls i 0).length<=1099511627776
def RF.el {ls:af}(h:RF ls){i:Int}(h0:0<=i)(h1:i<ls.length):Rw [tI] (aU ls i 0)/\(aU ls i 0).length<=1099511627776:=
 ⟨Rw.sub (fs:=[.sl [tI]]) h.w Uc rfl,h.n i⟩
end Go.V
namespace Go.V
def Lb (b:af)(i k:Int):Bool:=inR (ag (aU b i 0) k 0) 0 ((b.length:Int)-1)&&decide (0<=ag (aU b i 0) k 1)
def MN (x:af)(i k:Int):Bool:=decide (0<=ag (aU x i 0) k 0)
def rOk (b x:af)(i:Int):Bool:=dI (Lb b i) (aU b i 0).length&&dI (MN x i) (aU x i 0).length
def Ob (b x:af):Nat->Int
 |0=>0
 |n+1=>Ob b x n+((aU b n 0).length+(aU x n 0).length)
def mailOk (b x:af):Bool:=inR b.length 1 4&&(decide (x.length=b.length)&&(dI (rOk b x) b.length&&decide (Ob b x b.length<=30)))
structure IW (b x:af):Prop where
 bw:Rw [.sl [tI,tI]] b
 xw:Rw [.sl [tI]] x
 bl:b.length<=1099511627776
 xl:x.length<=1099511627776
 bn:∀ i:Int,(aU b i 0).length<=1099511627776
 xn:∀ i:Int,(aU x i 0).length<=1099511627776
def Qr {b x:af}(h:IW b x):∀ n:Nat,0<=Ob b x n/\Ob b x n<=2199023255552*n
 |0=>⟨Yi _,Yi _⟩
 | n+1=>by
   have q:=Qr h n;have p1:=h.bn n;have p2:=h.xn n;rw[Ob];omega
structure RE (b x:af)(i t:Int):Prop where
 ok:upto (rOk b x) i
 t:t=Ob b x i.toNat
def ajm {b x:af}:RE b x 0 0:=⟨cr,rfl⟩
def ajn {b x:af}{i t:Int}(N:IW b x)(h:RE b x i t)(i0:0<=i)(i1:i<=4):0<=t/\t<=8796093022208:=by
 have q:=Qr N i.toNat;have e:=h.t;omega
def aeb {b x:af}{i t k j:Int}(h:RE b x i t)(i0:0<=i)(hp:upto (Lb b i) k)(k1:((aU b i 0).length:Int)<=k)(ha:upto (MN x i) j)(j1:((aU x i 0).length:Int)<=j):RE b x (i+1) (t+((aU b i 0).length+(aU x i 0).length)):=by
 refine⟨bU h.ok ?_,?_⟩
 ·unfold rOk;rw[cI hp k1,cI ha j1];rfl
 ·rw[show(i+1).toNat=i.toNat+1 from by omega,Ob, <-h.t,Zj i0]
def aam {b x:af}(h:inR b.length 1 4=false):mailOk b x=false:=by unfold mailOk;rw[h];rfl
def aan {b x:af}(h:(x.length:Int)≠b.length):mailOk b x=false:=by
 unfold mailOk;rw[VM (p:=x.length=b.length) Uc];simp
def Qp {b x:af}{i:Int}(i0:0<=i)(i1:i<b.length)(h:rOk b x i=false):mailOk b x=false:=by
 unfold mailOk;rw[cW i0 i1 h];simp
def KJ {b x:af}{i k:Int}(i0:0<=i)(i1:i<b.length)(k0:0<=k)(k1:k<(aU b i 0).length)(h:Lb b i k=false):mailOk b x=false:=
 Qp i0 i1 (by unfold rOk;rw[cW k0 k1 h];rfl)
def aao {b x:af}{i k:Int}(i0:0<=i)(i1:i<b.length)(k0:0<=k)(k1:k<(aU x i 0).length)(h:MN x i k=false):mailOk b x=false:=
 Qp i0 i1 (by unfold rOk;rw[cW k0 k1 h,Yc])
def aal {b x:af}{i t:Int}(h:RE b x i t)(h1:inR b.length 1 4=true)(h2:(x.length:Int)=b.length)(i1:i<=b.length)(i2:(b.length:Int)<=i):mailOk b x=decide (t<=30):=by
 have e:i.toNat=b.length:=by omega
 have q:=h.t;rw[e]at q;unfold mailOk;rw[h1,VL (p:=x.length=b.length) Uc,cI h.ok i2, <-q];rfl
def ae4 {b:af}{i k:Int}(h:inR (ag (aU b i 0) k 0) 0 ((b.length:Int)-1)=false):Lb b i k=false:=by unfold Lb;rw[h];rfl
def ae5 {b:af}{i k:Int}(h:ag (aU b i 0) k 1<0):Lb b i k=false:=by unfold Lb;rw[VM Uc,Yc]
def ae6 {b:af}{i k:Int}(h:inR (ag (aU b i 0) k 0) 0 ((b.length:Int)-1)=true)(g:0<=ag (aU b i 0) k 1):Lb b i k=true:=by unfold Lb;rw[h,VL g];rfl
def ahb {x:af}{i k:Int}(h:ag (aU x i 0) k 0<0):MN x i k=false:=by unfold MN;rw[VM Uc]
def abY {x:af}{i k:Int}(h:0<=ag (aU x i 0) k 0):MN x i k=true:=by unfold MN;rw[VL h]
end Go.V
namespace Go.V
def PS (b:af)(i:Int):Nat->af
 |0=>[]
 |n+1=>PS b i n++[[.i (ag (aU b i 0) n 1)]]
def JV (b:af):Nat->af
 |0=>[]
 |n+1=>JV b n++PS b n (aU b n 0).length
def H5 (x:af):Nat->af
 |0=>[]
 |n+1=>H5 x n++aU x n 0
def ifL (b x:af):af:=if mailOk b x then JV b b.length++H5 x x.length else[]
def aap {b x:af}(h:mailOk b x=true):b.length<=4/\x.length=b.length:=by
 unfold mailOk at h;simp only[Zb,VN,ay]at h;omega
structure FbP (b:af)(i:Int)(o:af):Prop where
 e:o=JV b i.toNat
 l:o.length<=1099511627776*i.toNat
structure FkP (b:af)(i k:Int)(o:af):Prop where
 e:o=JV b i.toNat++PS b i k.toNat
 l:o.length<=1099511627776*i.toNat+k.toNat
structure FxP (b x:af)(j:Int)(o:af):Prop where
 e:o=JV b b.length++H5 x j.toNat
 l:o.length<=1099511627776*b.length+1099511627776*j.toNat
def ahx {b:af}:FbP b 0 []:=⟨rfl,Zv _⟩
def ahH {b o:af}{i:Int}(h:FbP b i o):FkP b i 0 o:=⟨by rw[h.e];simp[PS],by have:=h.l;omega⟩
def acM {b o:af}{i k:Int}(h:FkP b i k o)(k0:0<=k):FkP b i (k+1) (o++[[.i (ag (aU b i 0) k 1)]]):=by
 have l:=h.l;have e:=h.e;refine⟨?_,?_⟩
 ·rw[show(k+1).toNat=k.toNat+1 from by omega,PS,Zj k0, <-Zs, <-e]
 ·rw[Zf,Zi,Zk];omega
def SL {b o:af}{i k:Int}(h:FkP b i k o)(i0:0<=i)(hn:(aU b i 0).length<=1099511627776)(k1:k<=((aU b i 0).length:Int))(k2:((aU b i 0).length:Int)<=k):FbP b (i+1) o:=by
 have l:=h.l;have e:=h.e;have ek:k.toNat=(aU b i 0).length:=by omega
 refine⟨?_,Uc⟩;rw[show(i+1).toNat=i.toNat+1 from by omega,JV,Zj i0, <-ek];exact e
def ahK {b x o:af}{i:Int}(h:FbP b i o)(i1:i<=b.length)(i2:(b.length:Int)<=i):FxP b x 0 o:=by
 have l:=h.l;have e:=h.e;have ei:i.toNat=b.length:=by omega
 rw[ei]at e l;exact⟨by rw[e];simp[H5],Uc⟩
def ac2 {b x o:af}{j:Int}(h:FxP b x j o)(j0:0<=j)(hn:(aU x j 0).length<=1099511627776):FxP b x (j+1) (o++aU x j 0):=by
 have l:=h.l;have e:=h.e;refine⟨?_,?_⟩
 ·rw[show(j+1).toNat=j.toNat+1 from by omega,H5,Zj j0, <-Zs, <-e]
 ·rw[Zf];omega
def S9 {b x o:af}{j:Int}(h:FxP b x j o)(hm:mailOk b x=true)(j1:j<=x.length)(j2:(x.length:Int)<=j):o=ifL b x:=by
 have e:=h.e;rw[show j.toNat=x.length from by omega]at e;unfold ifL;rw[VO hm];exact e
def ail {b x:af}(hm:mailOk b x=false):([]:af)=ifL b x:=by unfold ifL;rw[hm];rfl
end Go.V
namespace Go.V
structure NsC (cs:af):Prop where
 w:Rw [.sl [.sl [tI]]] cs
 l:cs.length<=1099511627776
 n:∀ i:Int,0<=i->i<cs.length->RF (aU cs i 0)
end Go.V
namespace Go.V
def Ac:∀ {fs:List Ty} {e:aT} {j:Nat},bV fs e->fs[j]?=some tI->∃ n,e[j]?=some (.i n)/\ -9223372036854775808<=n/\n<=9223372036854775807
 |[],_,j,_,h=>by simp at h
 |_::_,[],j,h,_=>h.elim
 | t::ts,l::ls,0,h,e=>by
   simp at e;subst e;have h1:=h.1;cases l with
   | v x=>cases x with
     |int k n=>simp only[dD]at h1;exact⟨n,by simp[h1.1],aim h1.2⟩
     |_=>simp[dD]at h1
   |_=>simp[dD]at h1
 | t::ts,l::ls,j+1,h,e=>by
   simp at e;obtain⟨n,h1,h2⟩:=Ac h.2 e;exact⟨n,by simpa using h1,h2⟩
def As {fs:List Ty}{es:af}{i:Int}{j:Nat}(h:Rw fs es)(hj:fs[j]?=some tI)(h1:i.toNat<es.length): -9223372036854775808<=ag es i j/\ag es i j<=9223372036854775807:=by
 obtain⟨n,e,b⟩:=Ac (h.at h1) hj;unfold ag;rw[Zm (l:=es.getD i.toNat []),e];exact b
def OF {x:Int}(h: -9223372036854775808<=x/\x<=9223372036854775807):Rw [tI] [[.i x]]:=Rw.one (fs:=[tI]) ⟨⟨rfl,h⟩,trivial⟩
def obR (os:af)(f:Nat):Nat->af
 |0=>[]
 |n+1=>obR os f n++[[.i (ag os n f)]]
def clR (ls:af):Nat->af
 |0=>[]
 |n+1=>clR ls n++aU ls n 0
def ccR (cs:af):Nat->af
 |0=>[]
 |n+1=>ccR cs n++clR (aU cs n 0) (aU cs n 0).length
def xT {es:af}{n j:Nat}(h:n<es.length):au (aU es n j)<=gV (es.getD n []):=by
 unfold aU;rw[ZJ];generalize es.getD n []=r;cases e:r[j]? with
 |none=>rw[Zm,e];exact Zv _
 | some l=>
   rw[Zm,e];have q:=GI e;cases l with
   |s sz es=>exact q
   |_=>exact Zv _
def nT {es:af}{n:Nat}(h:n<es.length):cZ (es.take (n+1))=cZ (es.take n)+gV (es.getD n []):=by
 rw[lN (d:=[]) h,eV];simp[cZ]
def CS {es:af}{n:Nat}:cZ (es.take n)<=cZ es:=by
 conv=>rhs;rw[<-ZU n es,eV]
 omega
def sN {b:af}{i:Int}:∀ n,(PS b i n).length=n
 |0=>rfl
 |n+1=>by rw[PS,Zf,sN n];rfl
def KT {b x:af}:∀ n:Nat,(((JV b n).length+(H5 x n).length:Nat):Int)=Ob b x n
 |0=>rfl
 | n+1=>by
   have q:=KT (b:=b) (x:=x) n;rw[Ob,JV,H5,Zf,Zf,sN, <-q];omega
def Tw {b x:af}:(ifL b x).length<=30:=by
 unfold ifL;by_cases c:mailOk b x=true
 ·rw[VO c,Zf];have t:=aap c;unfold mailOk at c;simp only[Zb,VN]at c;have q:=KT (b:=b) (x:=x) b.length;rw[t.2];omega
 ·rw[VP c];exact Zv _
def JY {b x:af}{i:Int}(h:IW b x)(i0:0<=i)(i1:i<b.length):∀ n,n<=(aU b i 0).length->Rw [tI] (PS b i n)
 |0,_=>Rw.nil
 | n+1,hn=>Rw.append (JY h i0 i1 n Uc) (OF (As (fs:=[tI,tI]) (Rw.sub (fs:=[.sl [tI,tI]]) h.bw Uc rfl) rfl Uc)) (by
    have:=h.bn i;rw[sN];unfold maxLen;simp only[Zi,Zk];omega)
def JW {b x:af}(h:IW b x)(hb:b.length<=4):∀ n,n<=b.length->Rw [tI] (JV b n)/\(JV b n).length<=n*1099511627776
 |0,_=>⟨Rw.nil,Zv _⟩
 | n+1,hn=>by
   obtain⟨q1,q2⟩:=JW h hb n Uc;have l:=h.bn n;refine⟨Rw.append q1 (JY h Uc Uc _ (Ze _)) (by rw[sN];unfold maxLen;omega),?_⟩;rw[JV,Zf,sN];omega
def J3 {b x:af}(h:IW b x)(hb:x.length<=4):∀ n,n<=x.length->Rw [tI] (H5 x n)/\(H5 x n).length<=n*1099511627776
 |0,_=>⟨Rw.nil,Zv _⟩
 | n+1,hn=>by
   obtain⟨q1,q2⟩:=J3 h hb n Uc;have l:=h.xn n;refine⟨Rw.append q1 (Rw.sub (fs:=[.sl [tI]]) h.xw Uc rfl) (by unfold maxLen;omega),?_⟩;rw[H5,Zf];omega
def adw {b x:af}(h:IW b x):Rw [tI] (ifL b x):=by
 unfold ifL;by_cases c:mailOk b x=true
 ·rw[VO c];have t:=aap c;obtain⟨q1,l1⟩:=JW h t.1 b.length (Ze _);obtain⟨q2,l2⟩:=J3 h Uc x.length (Ze _);exact Rw.append q1 q2 (by unfold maxLen;omega)
 ·rw[VP c];exact Rw.nil
structure NsH (sp lg os cs b x qs:af):Prop where
 sw:Rw [tI,tI,tI] sp
 lw:Rw [tI,tI,tI] lg
 ow:Rw [tI,tI,tI,tI] os
 cw:Rw [.sl [.sl [tI]]] cs
 qw:Rw [tI,tI,tI] qs
 m:IW b x
 c:NsC cs
 sl:sp.length<=1073741824
 ll:lg.length<=1073741824
 ol:os.length<=1073741824
 ql:qs.length<=1073741824
 cl:au cs<=1073741824
structure O1P (os:af)(i:Int)(o:af):Prop where
 e:o=obR os 1 i.toNat
structure O2P (os cs:af)(i:Int)(o:af):Prop where
 e:o=obR os 1 os.length++ccR cs i.toNat
structure O3P (os cs:af)(i k:Int)(o:af):Prop where
 e:o=obR os 1 os.length++ccR cs i.toNat++clR (aU cs i 0) k.toNat
structure O4P (os cs qs:af)(j:Int)(o:af):Prop where
 e:o=obR os 1 os.length++ccR cs cs.length++obR qs 0 j.toNat
section
variable {sp lg os cs b x qs o: af} {i k j: Int}
end
def hd1 (e:aT):Int:=Mv (e.getD 0 .g)
def flN (p:Int->Bool)(l:af):Nat->af
 |0=>[]
 |n+1=>flN p l n++(if p (ag l n 0)then[[.i (ag l n 0)]]else[])
structure akA (p:Int->Bool)(l:af)(i:Int)(o:af):Prop where
 e:o=flN p l i.toNat
 l:o.length<=i.toNat
section
variable {p: Int -> Bool} {l o: af} {i: Int}
end
def Kx {sp lg:af}:(Ep sp lg).length<=512:=by
 have k:∀ n,(TX sp lg n).length<=n:=by
  intro n
  induction n with
  |zero=>exact Ze _
  |succ n ih=>rw[TX,Zf];split<;>simp<;>omega
 unfold Ep;split;exact k 512;exact Zv _
def adZ {sp lg:af}:Rw [tI] (Ep sp lg):=by
 unfold Ep;by_cases c:layOk sp lg=true
 ·rw[VO c,Bt];refine LB (fun x hx=>?_) ?_
  ·have:=wG.1 hx;omega
  ·have q:=Kx (sp:=sp) (lg:=lg);unfold Ep at q;rw[VO c,Bt,kT]at q;omega
 ·rw[VP c];exact Rw.nil
def Qy {l:af}{i:Int}(h:Rw [tI] l)(h0:0<=i)(h1:i<l.length):∃ rec o,bZ (L.s 1 l) [(i.toNat,0)]=some (rec,o)/\o+[L.v (Zn Zy 0)].length<=rec.length/\Yh [L.v (Zn Zy 0)].length (Yy o rec)=kP aj (L.s 1 l) [(i.toNat,0)] 0 [L.v (Zn Zy 0)]:=
 fv (z0:=[.i 0]) (z:=[.i 0]) h.wf Uc rfl (by decide)
def jG {es:af}{i:Int}{j:Nat}:au (aU es i j)<=au es:=by
 by_cases c:i.toNat<es.length
 ·have q:=xT (j:=j) c;rw[show aU es (i.toNat:Nat) j=aU es i j from by unfold aU;rw[ZJ]]at q;have d:=nT c;have e:=CS (es:=es) (n:=i.toNat+1);unfold au at q ⊢;omega
 ·have e:aU es i j=[]:=by
   unfold aU;rw[Zm (l:=es),List.getElem?_eq_none Uc];simp[Qi]
  rw[e];exact Zv _
def aaK {ls:af}(h:Rw [.sl [tI]] ls)(hc:au ls<=1073741824):RF ls:=by
 refine⟨h,by unfold au at hc;omega,fun i=>?_⟩;have:=jG (es:=ls) (i:=i) (j:=0);unfold au at this hc;omega
def aaJ {cs:af}(h:Rw [.sl [.sl [tI]]] cs)(hc:au cs<=1073741824):NsC cs:=by
 refine⟨h,by unfold au at hc;omega,fun i i0 i1=>aaK (Rw.sub (fs:=[.sl [.sl [tI]]]) h Uc rfl) ?_⟩;exact ZH jG hc
def KY {b x:af}(hb:Rw [.sl [tI,tI]] b)(hx:Rw [.sl [tI]] x)(cb:au b<=1073741824)(cx:au x<=1073741824):IW b x:=by
 refine⟨hb,hx,by unfold au at cb;omega,by unfold au at cx;omega,fun i=>?_,fun i=>?_⟩
 ·have:=jG (es:=b) (i:=i) (j:=0);unfold au at this cb;omega
 ·have:=jG (es:=x) (i:=i) (j:=0);unfold au at this cx;omega
end Go.V
namespace Go.V
def LZ {i:Int}(h:0<=i)(h1:i<=9223372036854775807):bQ .sub Za i 1=i-1:=eR Uc
def BW {es:af}{i:Int}:mV es (Int.toNat 0) (zn i 0)=es.take i.toNat:=by simp[mV,zn]
def cmp_eq {a b:Int}:du .eql a b=decide (a=b):=by unfold du;by_cases c:a=b<;>simp[c]
def JG {a b:Int}:du .neq a b=decide (a≠b):=by unfold du;by_cases c:a=b<;>simp[c]
def rngIn (n a l:Int):Bool:=inR l 1 n&&inR a 0 (n-l)
def yw (n:Int)(rs:af)(i:Int):Bool:=rngIn n (ag rs i 0) (ag rs i 1)&& !(decide (0<i)&&decide (ag rs i 0<=bQ .add Za (ag rs (i-1) 0) (ag rs (i-1) 1)))
def rgOk (n:Int)(rs:af):Bool:=dI (yw n rs) rs.length&&inR n 1 32
section
variable {n i: Int} {rs: af}
def abb (i0:0<=i)(i1:i<rs.length)(h:rngIn n (ag rs i 0) (ag rs i 1)=false):rgOk n rs=false:=by
 unfold rgOk;rw[cW i0 i1 (by unfold yw;rw[h];rfl)];rfl
def abc (i0:0<=i)(i1:i<rs.length)(h:0<i)(g:ag rs i 0<=bQ .add Za (ag rs (i-1) 0) (ag rs (i-1) 1)):rgOk n rs=false:=by
 unfold rgOk;rw[cW i0 i1 (by unfold yw;rw[VL h,VL g];simp)];rfl
def OC (h:rngIn n (ag rs i 0) (ag rs i 1)=true)(g:i<=0):yw n rs i=true:=by
 unfold yw;rw[h,VM Uc];rfl
def OD (h:rngIn n (ag rs i 0) (ag rs i 1)=true)(g:bQ .add Za (ag rs (i-1) 0) (ag rs (i-1) 1)<ag rs i 0):yw n rs i=true:=by
 unfold yw;rw[h,VM (p:=ag rs i 0<=_) Uc];simp
def aba (h:upto (yw n rs) i)(g:(rs.length:Int)<=i):inR n 1 32=rgOk n rs:=by unfold rgOk;rw[cI h g];rfl
end
def Kq (rs:af)(p j:Int):Bool:=decide (ag rs j 0<=p)&&decide (p<bQ .add Za (ag rs j 0) (ag rs j 1))
def rhI (rs:af)(p:Int):Int:=da (Kq rs p) rs.length
def rhB (rs:af)(p:Int):Bool:=decide (0<=rhI rs p)
def rh1 (a l p:Int):Bool:=decide (a<=p)&&decide (p<bQ .add Za a l)
def mshB (p1 k1 b1 p2 k2 b2:Int):Bool:=spOk p1 k1 b1&&(spOk p2 k2 b2&&(decide (k1=k2)&&(decide (p1≠p2)&&decide (bQ .and Za b1 b2=0))))
def Mz (qs:af):Nat->Int
 |0=>0
 |n+1=>Mz qs n+clsSz (ag qs n 1)
def qcI (qs:af):Int:=Mz qs qs.length
def GF {k:Int}:0<=clsSz k/\clsSz k<=8:=by
 unfold clsSz;repeat' split
 all_goals omega
def QD {qs:af}:∀ n:Nat,0<=Mz qs n/\Mz qs n<=8*n
 |0=>⟨Yi _,Yi _⟩
 |n+1=>by have q:=QD (qs:=qs) n;have c:=GF (k:=ag qs n 1);rw[Mz];omega
structure RJ (qs:af)(i t:Int):Prop where
 e:t=Mz qs i.toNat
def ajG {qs:af}:RJ qs 0 0:=⟨rfl⟩
def ajH {qs:af}{i t:Int}(h:RJ qs i t)(i0:0<=i):0<=t/\t<=8*i:=by have q:=QD (qs:=qs) i.toNat;rw[<-h.e]at q;omega
def afn {qs:af}{i t:Int}(h:RJ qs i t)(i0:0<=i)(i1:i<=1099511627776):RJ qs (i+1) (bQ .add Za t (clsSz (ag qs i 1))):=by
 have b:=ajH h i0;have c:=GF (k:=ag qs i 1);refine⟨?_⟩;rw[show bQ .add Za t (clsSz (ag qs i 1))=t+clsSz (ag qs i 1)from b8 Uc,show(i+1).toNat=i.toNat+1 from by omega,Mz, <-h.e,Zj i0]
def aa1 {qs:af}{i t:Int}(h:RJ qs i t)(i1:i<=qs.length)(i2:(qs.length:Int)<=i):t=qcI qs:=by unfold qcI;rw[h.e,show i.toNat=qs.length from by omega]
def stlOk (b:af)(a c s:Int):Bool:=inR c 0 3&&(decide (0<=a)&&(decide (0<=s)&&(!qtB b a&&(decide (b.length=0)||decide (ag b (b.length-1:Int) 2<=s)))))
def QJ (qs:af)(i:Int):Bool:=stlOk (qs.take i.toNat) (ag qs i 0) (ag qs i 1) (ag qs i 2)
def quarOk (rm:Int)(qs:af):Bool:=dI (QJ qs) qs.length&&(inR rm 0 500&&decide (qcI qs<=rm))
def Nw {es:af}{n:Nat}{i:Int}{j:Nat}(h:i.toNat<n):ag (es.take n) i j=ag es i j:=by
 unfold ag;rw[Zm (l:=es.take n),List.getElem?_take,VO h,Zm (l:=es)]
section
variable {rm i: Int} {qs: af}
def afv (i0:0<=i)(i1:i<qs.length)(h:QJ qs i=false):quarOk rm qs=false:=by unfold quarOk;rw[cW i0 i1 h];rfl
def aa6 (h:upto (QJ qs) i)(g:(qs.length:Int)<=i):quarOk rm qs=(inR rm 0 500&&decide (qcI qs<=rm)):=by unfold quarOk;rw[cI h g];rfl
end
def zm (ls:af)(i:Int):Nat->List Int
 |0=>[]
 |n+1=>zm ls i n++[ag (aU ls i 0) n 0]
def xE (ls:af):Nat->List Int
 |0=>[]
 |n+1=>xE ls n++zm ls n (aU ls n 0).length
def M6 (ls:af)(i k:Int):Bool:=inR (ag (aU ls i 0) k 0) 0 511&&decide (bQ .rem Za (ag (aU ls i 0) k 0) (clsSz i)=0)
def M5 (ls:af)(i:Int):Bool:=decide ((aU ls i 0).length<=8)&&dI (M6 ls i) (aU ls i 0).length
def caOk (ls:af):Bool:=decide (ls.length=4)&&(dI (M5 ls) 4&&decide ((xE ls 4).Nodup))
def GC {ls:af}{i:Int}:∀ n,(zm ls i n).length=n
 |0=>rfl
 |n+1=>by rw[zm,Zf,GC n];rfl
def GD {ls:af}{i:Int}:∀ (m n:Nat),n<=m->∃ r,zm ls i m=zm ls i n++r
 |0,n,h=>⟨[],by rw[show n=0 from by omega];rfl⟩
 | m+1,n,h=>by
   by_cases c:n=m+1
   ·subst c;exact⟨[],by simp⟩
   ·obtain⟨r,e⟩:=GD (ls:=ls) (i:=i) m n Uc;exact⟨r++[ag (aU ls i 0) m 0],by rw[zm,e,Zs]⟩
def GE {ls:af}:∀ (m n:Nat),n<=m->∃ r,xE ls m=xE ls n++r
 |0,n,h=>⟨[],by rw[show n=0 from by omega];rfl⟩
 | m+1,n,h=>by
   by_cases c:n=m+1
   ·subst c;exact⟨[],by simp⟩
   ·obtain⟨r,e⟩:=GE (ls:=ls) m n Uc;exact⟨r++zm ls m (aU ls m 0).length,by rw[xE,e,Zs]⟩
def A4 {ls:af}{i k:Int}(h:0<=k):zm ls i (k+1).toNat=zm ls i k.toNat++[ag (aU ls i 0) k 0]:=by
 rw[show(k+1).toNat=k.toNat+1 from by omega,zm,Zj h]
def A5 {ls:af}{i:Int}(h:0<=i):xE ls (i+1).toNat=xE ls i.toNat++zm ls i (aU ls i 0).length:=by
 rw[show(i+1).toNat=i.toNat+1 from by omega,xE,Zj h]
structure Ru (ls:af)(i:Int):Prop where
 ok:upto (M5 ls) i
 nd:(xE ls i.toNat).Nodup
 l:i<=4
 b:∀ x∈xE ls i.toNat,0<=x/\x<=511
 n:(xE ls i.toNat).length<=8*i.toNat
structure CbP (ls:af)(i k:Int):Prop where
 ok:upto (M5 ls) i
 nd:(xE ls i.toNat++zm ls i k.toNat).Nodup
 l:i<=3
 s:(aU ls i 0).length<=8
 bk:upto (M6 ls i) k
 b:∀ x∈xE ls i.toNat++zm ls i k.toNat,0<=x/\x<=511
 n:(xE ls i.toNat).length<=8*i.toNat
section
variable {ls: af} {i k: Int}
def ahj:Ru ls 0:=⟨cr,ZR,Uc,(fun x hx=>by cases hx),Zv _⟩
def ahk (h:Ru ls i)(i0:0<=i)(c:inR i 0 3=true)(s:(aU ls i 0).length<=8):CbP ls i 0:=
 ⟨h.ok,by simpa[zm]using h.nd,(ay.1 c).2,s,cr,by simpa[zm]using h.b,h.n⟩
def ace (h:CbP ls i k)(k0:0<=k)(h1:inR (ag (aU ls i 0) k 0) 0 511=true)(h2:bQ .rem Za (ag (aU ls i 0) k 0) (clsSz i)=0)(h3:ag (aU ls i 0) k 0∉xE ls i.toNat++zm ls i k.toNat):CbP ls i (k+1):=by
 refine⟨h.ok,?_,h.l,h.s,bU h.bk (by unfold M6;rw[h1,VL h2];rfl),?_,h.n⟩
 ·rw[A4 k0, <-Zs];exact sZ h.nd h3
 ·rw[A4 k0, <-Zs];intro x hx;rcases Zh.1 hx with q|q;exact h.b x q
  ·simp at q;subst q;exact ay.1 h1
def ab9 (h:CbP ls i k)(i0:0<=i)(k1:k<=((aU ls i 0).length:Int))(k2:((aU ls i 0).length:Int)<=k):Ru ls (i+1):=by
 have e:k.toNat=(aU ls i 0).length:=by omega
 have nd:=h.nd;have b:=h.b;have n:=h.n;have s:=h.s;have l:=h.l;rw[e, <-A5 i0]at nd b;refine⟨bU h.ok (by unfold M5;rw[VL h.s,cI h.bk k2];rfl),nd,Uc,b,?_⟩;rw[A5 i0,Zf,GC];omega
def EI (h:(ls.length:Int)≠4):caOk ls=false:=by unfold caOk;rw[VM Uc];rfl
def Pw (i0:0<=i)(l:i<=3)(h:M5 ls i=false):caOk ls=false:=by unfold caOk;rw[cW (n:=4) i0 Uc h];simp
def R4 (i0:0<=i)(h:8<(aU ls i 0).length)(l:i<=3):caOk ls=false:=Pw i0 l (by unfold M5;rw[VM Uc];rfl)
def Jx (i0:0<=i)(l:i<=3)(k0:0<=k)(k1:k<(aU ls i 0).length)(h:M6 ls i k=false):caOk ls=false:=Pw i0 l (by unfold M5;rw[cW k0 k1 h,Yc])
def acb (h:inR (ag (aU ls i 0) k 0) 0 511=false):M6 ls i k=false:=by unfold M6;rw[h];rfl
def acd (h:bQ .rem Za (ag (aU ls i 0) k 0) (clsSz i)≠0):M6 ls i k=false:=by unfold M6;rw[VM h,Yc]
def R2 (i0:0<=i)(l:i<=3)(k0:0<=k)(k1:k<(aU ls i 0).length)(h:ag (aU ls i 0) k 0∈xE ls i.toNat++zm ls i k.toNat):caOk ls=false:=by
 obtain⟨r,e⟩:=GE (ls:=ls) 4 (i+1).toNat Uc;obtain⟨r2,e2⟩:=GD (ls:=ls) (i:=i) (aU ls i 0).length (k+1).toNat Uc;rw[A5 i0,e2,A4 k0]at e;have:¬ (xE ls 4).Nodup:=dup (a:=xE ls i.toNat++zm ls i k.toNat) (b:=r2++r) (x:=ag (aU ls i 0) k 0) (by rw[e];simp only[Zs];rfl) h;unfold caOk;rw[VM this];simp
def R5 (h:Ru ls i)(h1:(ls.length:Int)=4)(i2:4<=i):caOk ls=true:=by
 have l:=h.l;have e:i=4:=by omega
 subst e;unfold caOk;rw[VL Uc,cI h.ok Uc,VL (p:=(xE ls 4).Nodup) h.nd];rfl
def R3 (h:Ru ls i)(i1:i<=ls.length)(i2:(ls.length:Int)<=i):decide ((ls.length:Int)=4)=caOk ls:=by
 by_cases c:(ls.length:Int)=4
 ·rw[R5 h c Uc];exact VL c
 ·rw[EI c];exact VM c
end
structure ScP (ls:af)(i:Int)(o:af):Prop where
 p:Ru ls i
 e:o=lY (xE ls i.toNat)
structure SdP (ls:af)(i k:Int)(o:af):Prop where
 p:CbP ls i k
 e:o=lY (xE ls i.toNat++zm ls i k.toNat)
structure Ev (ls:af)(i:Int)(es:af):Prop where
 p:Ru ls i
 s:qN es (xE ls i.toNat)
structure Ew (ls:af)(i k:Int)(es:af):Prop where
 p:CbP ls i k
 s:qN es (xE ls i.toNat++zm ls i k.toNat)
section
variable {ls o es: af} {i k: Int}
def adt:Ev ls 0 []:=⟨ahj,F3⟩
def adu (h:Ev ls i es)(i0:0<=i)(c:inR i 0 3=true)(s:(aU ls i 0).length<=8):Ew ls i 0 es:=⟨ahk h.p i0 c s,by simpa[zm]using h.s⟩
def Tv (h:Ew ls i k es)(k0:0<=k)(h1:inR (ag (aU ls i 0) k 0) 0 511=true)(h2:bQ .rem Za (ag (aU ls i 0) k 0) (clsSz i)=0)(h3:mgbI es (ag (aU ls i 0) k 0)=false):Ew ls i (k+1) (nM es (ag (aU ls i 0) k 0) (.v (.bool true))):=by
 refine⟨ace h.p k0 h1 h2 (fun m=>by rw[(h.s.at_ _).2 m]at h3;cases h3),?_⟩;rw[A4 k0, <-Zs];exact wO h.s
def Tu (h:Ew ls i k es)(i0:0<=i)(k1:k<=((aU ls i 0).length:Int))(k2:((aU ls i 0).length:Int)<=k):Ev ls (i+1) es:=
 ⟨ab9 h.p i0 k1 k2,by have s:=h.s;rw[show k.toNat=(aU ls i 0).length from by omega]at s;rw[A5 i0];exact s⟩
def ND (h:Ew ls i k es)(i0:0<=i)(k0:0<=k)(k1:k<(aU ls i 0).length)(h3:mgbI es (ag (aU ls i 0) k 0)=true):caOk ls=false:=R2 i0 h.p.l k0 k1 ((h.s.at_ _).1 h3)
def NB (h:Ev ls i es)(i0:0<=i)(s:8<(aU ls i 0).length)(i1:i<ls.length):caOk ls=false:=by
 by_cases c:(ls.length:Int)=4;exact R4 i0 s Uc;exact EI c
def NC (h:Ev ls i es)(i0:0<=i)(c:inR i 0 3=false)(i1:i<ls.length):caOk ls=false:=by
 have:=Au.1 c;exact EI Uc
end
def Lf (cs:af)(i:Int):Bool:=inR (ag cs i 0) 0 15&& !(decide (0<i)&&decide (ag cs i 0<=ag cs (i-1) 0))
def plOk (k m:Int)(cs:af):Bool:=dI (Lf cs) cs.length&&(inR k 0 31&&(inR m 0 31&&decide (k≠m)))
def jbOk (k m:Int)(cs:af)(ph nx:Int):Bool:=plOk k m cs&&(inR ph 0 5&&inR nx 0 cs.length)
section
variable {k m i: Int} {cs: af}
def aaU (i0:0<=i)(i1:i<cs.length)(h:inR (ag cs i 0) 0 15=false):plOk k m cs=false:=by
 unfold plOk;rw[cW i0 i1 (by unfold Lf;rw[h];rfl)];rfl
def aaV (i0:0<=i)(i1:i<cs.length)(h:0<i)(g:ag cs i 0<=ag cs (i-1) 0):plOk k m cs=false:=by
 unfold plOk;rw[cW i0 i1 (by unfold Lf;rw[VL h,VL g];simp)];rfl
def Oo (h:inR (ag cs i 0) 0 15=true)(g:i<=0):Lf cs i=true:=by unfold Lf;rw[h,VM Uc];rfl
def Oq (h:inR (ag cs i 0) 0 15=true)(g:ag cs (i-1) 0<ag cs i 0):Lf cs i=true:=by
 unfold Lf;rw[h,VM (p:=ag cs i 0<=_) Uc];simp
def Lg (h:upto (Lf cs) i)(g:(cs.length:Int)<=i):plOk k m cs=(inR k 0 31&&(inR m 0 31&&decide (k≠m))):=by unfold plOk;rw[cI h g];rfl
end
end Go.V
namespace Go.V
def JK {sp lg:af}{a:Int}(h:dnK sp lg a=1):0<=dnI sp lg a/\dnI sp lg a<sp.length:=by
 unfold dnK at h;by_cases c:0<=gE sp a
 ·unfold dnI;rw[VO c];rcases sM (p:=AJ sp a) (n:=sp.length)with q|q
  ·have:gE sp a= -1:=q;omega
  ·exact q
 ·rw[VP c]at h;by_cases d:0<=md lg a
  ·rw[VO d]at h;omega
  ·rw[VP d]at h;omega
def PL {sp lg:af}{a:Int}(h:dnK sp lg a=3):0<=dnI sp lg a/\dnI sp lg a<lg.length:=by
 unfold dnK at h;by_cases c:0<=gE sp a
 ·rw[VO c]at h;split at h<;>omega
 ·rw[VP c]at h;by_cases d:0<=md lg a
  ·unfold dnI;rw[VP c,VO d];rcases sM (p:=Ay lg a) (n:=lg.length)with q|q
   ·have:md lg a= -1:=q;omega
   ·exact q
  ·rw[VP d]at h;omega
def Kp (os:af)(x j:Int):Bool:=eqB (ag os j 0) x
def oiI (os:af)(x:Int):Int:=da (Kp os x) os.length
def oiB (os:af)(x:Int):Bool:=decide (0<=oiI os x)
def okO (sp lg:af)(a s:Int):Bool:=decide (dnO sp lg a=0)&&((decide (dnK sp lg a=1)&&decide (ag sp (dnI sp lg a) 1=clsOf s))||(decide (dnK sp lg a=3)&&decide (ag lg (dnI sp lg a) 2=s)))
def BB (sp lg os cs:af)(nx i:Int):Bool:=
 !(decide (0<i)&&decide (ag os i 1<=ag os (i-1) 1))&&(inR (ag os i 0) 1 (bQ .sub Za nx 1)&&(inR (ag os i 3) 0 (cs.length-1:Int)&&(!oiB (os.take i.toNat) (ag os i 0)&&okO sp lg (ag os i 1) (ag os i 2))))
def objOk (sp lg os cs:af)(nx:Int):Bool:=dI (BB sp lg os cs nx) os.length
section
variable {sp lg os cs: af} {nx i k: Int}
def AC (i0:0<=i)(i1:i<os.length)(h:BB sp lg os cs nx i=false):objOk sp lg os cs nx=false:=cW i0 i1 h
def aaN (h:upto (BB sp lg os cs nx) i)(g:(os.length:Int)<=i):objOk sp lg os cs nx=true:=cI h g
def aeO (h:0<i)(g:ag os i 1<=ag os (i-1) 1):BB sp lg os cs nx i=false:=by unfold BB;rw[VL h,VL g];rfl
def aeP (h:inR (ag os i 0) 1 (bQ .sub Za nx 1)=false):BB sp lg os cs nx i=false:=by unfold BB;rw[h];simp
def aeQ (h:inR (ag os i 3) 0 (cs.length-1:Int)=false):BB sp lg os cs nx i=false:=by unfold BB;rw[h];simp
def aeR (h:oiB (os.take i.toNat) (ag os i 0)=true):BB sp lg os cs nx i=false:=by unfold BB;rw[h];simp
def Qw (h:okO sp lg (ag os i 1) (ag os i 2)=false):BB sp lg os cs nx i=false:=by unfold BB;rw[h];simp
def aeS (h1:i<=0\/ag os (i-1) 1<ag os i 1)(h2:inR (ag os i 0) 1 (bQ .sub Za nx 1)=true)(h3:inR (ag os i 3) 0 (cs.length-1:Int)=true)(h4:oiB (os.take i.toNat) (ag os i 0)=false)(h5:okO sp lg (ag os i 1) (ag os i 2)=true):BB sp lg os cs nx i=true:=by
 unfold BB;rw[h2,h3,h4,h5];rcases h1 with h|h
 ·rw[VM (p:=0<i) Uc];rfl
 ·rw[VM (p:=ag os i 1<=ag os (i-1) 1) Uc];simp
def aeW {a s:Int}(h:dnO sp lg a≠0):okO sp lg a s=false:=by unfold okO;rw[VM h];rfl
def ajx {a s:Int}(h1:dnK sp lg a≠1\/ag sp (dnI sp lg a) 1≠clsOf s)(h2:dnK sp lg a≠3\/ag lg (dnI sp lg a) 2≠s):okO sp lg a s=false:=by
 unfold okO;rcases h1 with h|h<;>rcases h2 with g|g<;>simp[h,g]
def aeX {a s:Int}(h0:dnO sp lg a=0)(h1:dnK sp lg a=1)(h2:ag sp (dnI sp lg a) 1=clsOf s):okO sp lg a s=true:=by unfold okO;rw[VL h0,VL h1,VL h2];rfl
def aeY {a s:Int}(h0:dnO sp lg a=0)(h1:dnK sp lg a=3)(h2:ag lg (dnI sp lg a) 2=s):okO sp lg a s=true:=by unfold okO;rw[VL h0,VL h1,VL h2];simp
end
end Go.V
namespace Go.V
def WfI (es:af):Prop:=∀ e∈es,∃ k b:Int,e=[.i k,.i b]
def vt {k b:Int}{es:af}{n:Int}:eg ([.i k,.i b]::es) n=if k=n then some (0,.int Za b)else(eg es n).map fun p=>(p.1+1,p.2):=rfl
def pI {k b:Int}{es:af}{n:Int}:jJ ([.i k,.i b]::es) n=if k=n then b else jJ es n:=by
 unfold jJ;rw[vt];by_cases c:k=n
 ·rw[VO c,VO c]
 ·rw[VP c,VP c];cases eg es n with
  |none=>rfl
  |some p=>obtain⟨j,v⟩:=p;cases v<;>rfl
def KU {k b x:Int}{es:af}{n:Int}:nM ([.i k,.i b]::es) n (.i x)=if k=n then[.i n,.i x]::es else[.i k,.i b]::nM es n (.i x):=by
 unfold nM;rw[vt];by_cases c:k=n
 ·rw[VO c,VO c];rfl
 ·rw[VP c,VP c];cases eg es n with
  |none=>rfl
  |some p=>rfl
def aeD {x n:Int}:∀ {es:af},WfI es->WfI (nM es n (.i x))/\∀ m,jJ (nM es n (.i x)) m=if m=n then x else jJ es m
 | [],_=>by
   refine⟨fun e he=>?_,fun m=>?_⟩
   ·have:e=[.i n,.i x]:=by simpa[nM,eg]using he
    exact⟨n,x,this⟩
   ·show jJ [[.i n,.i x]] m=_;rw[pI];by_cases c:m=n
    ·rw[VO c.symm,VO c]
    ·rw[VP (fun e=>c e.symm),VP c]
 | e::es,h=>by
   obtain⟨k,b,rfl⟩:=h e (by simp);have h':WfI es:=fun e he=>h e (by simp[he])
   obtain⟨a1,a2⟩:=aeD (x:=x) (n:=n) h';rw[KU];by_cases c:k=n
   ·rw[VO c];refine⟨fun e he=>?_,fun m=>?_⟩
    ·rcases Zl.1 he with rfl|he;exact⟨n,x,rfl⟩;exact h' e he
    ·rw[pI,pI];by_cases d:m=n
     ·rw[VO d.symm,VO d]
     ·rw[VP (fun e=>d e.symm),VP d,VP (fun e=>d (by rw[<-e,c]))]
   ·rw[VP c];refine⟨fun e he=>?_,fun m=>?_⟩
    ·rcases Zl.1 he with rfl|he;exact⟨k,b,rfl⟩;exact a1 e he
    ·rw[pI,pI,a2 m];by_cases d:k=m
     ·rw[VO d,VO d,VP (fun e=>c (d.trans e))]
     ·rw[VP d,VP d]
def huI (es:af)(a:Int):af:=nM es a (.i (bQ .add Za (jJ es a) 1))
structure AR (es:af)(l:List Int):Prop where
 wf:WfI es
 c:∀ m,jJ es m=(l.count m:Int)
def ahl:AR [] []:=⟨(fun e he=>by cases he),fun m=>rfl⟩
def GH {es:af}{l:List Int}{a:Int}(h:AR es l)(hl:l.length<=1099511627776):AR (huI es a) (l++[a]):=by
 have q:=aeD (x:=bQ .add Za (jJ es a) 1) (n:=a) h.wf;refine⟨q.1,fun m=>?_⟩;show jJ (nM es a _) m=_;have b:l.count a<=l.length:=List.count_le_length;have e:=h.c a;rw[q.2 m,List.count_append,show bQ .add Za (jJ es a) 1=jJ es a+1 from b8 Uc];by_cases c:m=a
 ·subst c;rw[VO rfl,e];simp
 ·rw[VP c,h.c m];have:[a].count m=0:=List.count_eq_zero.2 (by simpa using c);rw[this];rfl
def o5 (l:af)(f:Nat):Nat->List Int
 |0=>[]
 |n+1=>o5 l f n++[ag l n f]
def EL (ls:af):Nat->List Int
 |0=>[]
 |n+1=>EL ls n++o5 (aU ls n 0) 0 (aU ls n 0).length
def zF (cs:af):Nat->List Int
 |0=>[]
 |n+1=>zF cs n++EL (aU cs n 0) (aU cs n 0).length
def kQ {l:af}{f:Nat}:∀ n,(o5 l f n).length=n
 |0=>rfl
 |n+1=>by rw[o5,Zf,kQ n];rfl
def Br {l:af}{f:Nat}{i:Int}(h:0<=i):o5 l f (i+1).toNat=o5 l f i.toNat++[ag l i f]:=by
 rw[show(i+1).toNat=i.toNat+1 from by omega,o5,Zj h]
def Sf {l:af}{i:Int}(h:0<=i):EL l (i+1).toNat=EL l i.toNat++o5 (aU l i 0) 0 (aU l i 0).length:=by
 rw[show(i+1).toNat=i.toNat+1 from by omega,EL,Zj h]
def R7 {l:af}{i:Int}(h:0<=i):zF l (i+1).toNat=zF l i.toNat++EL (aU l i 0) (aU l i 0).length:=by
 rw[show(i+1).toNat=i.toNat+1 from by omega,zF,Zj h]
def A6 {ls:af}:∀ n,n<=ls.length->(EL ls n).length<=cZ (ls.take n)
 |0,_=>Zv _
 | n+1,h=>by
   have q:=A6 n (by omega:n<=ls.length);have c:=xT (es:=ls) (n:=n) (j:=0) Uc;unfold au at c;rw[EL,Zf,kQ,nT Uc];omega
def sE {cs:af}:∀ n,n<=cs.length->(zF cs n).length<=cZ (cs.take n)
 |0,_=>Zv _
 | n+1,h=>by
   have q:=sE n (by omega:n<=cs.length);have c:=xT (es:=cs) (n:=n) (j:=0) Uc;have d:=A6 (ls:=aU cs n 0) (aU cs n 0).length (Ze _);rw[Y1]at d;unfold au at c;rw[zF,Zf,nT Uc];omega
def M7 {cs:af}{i k:Int}(i0:0<=i)(i1:i<cs.length)(k1:k<=(aU cs i 0).length):(zF cs i.toNat++EL (aU cs i 0) k.toNat).length+cZ ((aU cs i 0).drop k.toNat)<=cZ cs:=by
 have q:=sE (cs:=cs) i.toNat Uc;have c:=CS (es:=cs) (n:=i.toNat+1);have d:=nT (es:=cs) (n:=i.toNat) Uc;have e:=xT (es:=cs) (n:=i.toNat) (j:=0) Uc;rw[Zj i0]at e;have f:=A6 (ls:=aU cs i 0) k.toNat Uc;have g:cZ (aU cs i 0)=cZ ((aU cs i 0).take k.toNat)+cZ ((aU cs i 0).drop k.toNat):=by rw[<-eV,ZU]
 rw[Zf];unfold au at e;omega
def M8 {cs:af}{i k j:Int}(i0:0<=i)(i1:i<cs.length)(k0:0<=k)(k1:k<(aU cs i 0).length)(j0:0<=j)(j1:j<=(aU (aU cs i 0) k 0).length):(zF cs i.toNat++EL (aU cs i 0) k.toNat++o5 (aU (aU cs i 0) k 0) 0 j.toNat).length<=cZ cs:=by
 have q:=M7 i0 i1 (by omega:k<=(aU cs i 0).length);have e:=xT (es:=aU cs i 0) (n:=k.toNat) (j:=0) Uc;rw[Zj k0]at e;have d:gV ((aU cs i 0).getD k.toNat [])<=cZ ((aU cs i 0).drop k.toNat):=by
  rw[WR Uc];rw[Zm,Zt Uc];simp[cZ]
 rw[Zf,kQ];unfold au at e;omega
def hlB (sp lg:af)(a k:Int):Bool:=decide (dnK sp lg a=1)&&(decide (dnO sp lg a=0)&&(decide (k<0)||decide (ag sp (dnI sp lg a) 1=k)))
def jA (sp lg l:af)(k j:Int):Bool:=hlB sp lg (ag l j 0) k
def kA (sp lg ls:af)(k:Int):Bool:=dI (jA sp lg (aU ls k 0) k) (aU ls k 0).length
def iA (sp lg cs:af)(i:Int):Bool:=dI (kA sp lg (aU cs i 0)) (aU cs i 0).length
def qA (sp lg qs:af)(i:Int):Bool:=hlB sp lg (ag qs i 0) (ag qs i 1)
def sA (qs:af)(c i:Int):Bool:=decide (ag qs i 2<=c)
def Iz (sp lg qs:af)(c i:Int):Bool:=qA sp lg qs i&&sA qs c i
def hoA (os cs qs fl:af):List Int:=zF cs cs.length++o5 qs 0 qs.length++o5 fl 0 fl.length++o5 os 1 os.length
def hoB (os cs qs fl:af):List Int:=o5 os 1 os.length++zF cs cs.length++o5 qs 0 qs.length++o5 fl 0 fl.length
def c1A (l:List Int)(lv:af)(i:Int):Bool:=decide (l.count (ag lv i 0)=1)
def hoI (sp lg os cs b x qs:af)(c:Int):Bool:=dI (iA sp lg cs) cs.length&&(dI (Iz sp lg qs c) qs.length&&(dI (jA sp lg (ifL b x) (-1)) (ifL b x).length&&dI (c1A (hoA os cs qs (ifL b x)) (Ep sp lg)) (Ep sp lg).length))
section
variable {sp lg os cs b x qs fl es: af} {i k j c: Int}
def aig (k0:0<=k)(k1:k<(aU cs i 0).length)(j0:0<=j)(j1:j<(aU (aU cs i 0) k 0).length)(h:hlB sp lg (ag (aU (aU cs i 0) k 0) j 0) k=false):iA sp lg cs i=false:=
 cW k0 k1 (cW (p:=jA sp lg (aU (aU cs i 0) k 0) k) j0 j1 h)
def Ti (i0:0<=i)(i1:i<cs.length)(h:iA sp lg cs i=false):hoI sp lg os cs b x qs c=false:=by unfold hoI;rw[cW i0 i1 h];rfl
def Kc (i0:0<=i)(i1:i<qs.length)(h:Iz sp lg qs c i=false):hoI sp lg os cs b x qs c=false:=by unfold hoI;rw[cW i0 i1 h];simp
def Tj (i0:0<=i)(i1:i<(ifL b x).length)(h:hlB sp lg (ag (ifL b x) i 0) (-1)=false):hoI sp lg os cs b x qs c=false:=by unfold hoI;rw[cW (p:=jA sp lg (ifL b x) (-1)) i0 i1 h];simp
def Tl (i0:0<=i)(i1:i<(Ep sp lg).length)(h:c1A (hoA os cs qs (ifL b x)) (Ep sp lg) i=false):hoI sp lg os cs b x qs c=false:=by unfold hoI;rw[cW i0 i1 h];simp
def afy (h:hlB sp lg (ag qs i 0) (ag qs i 1)=false):Iz sp lg qs c i=false:=by unfold Iz qA;rw[h];rfl
def afz (h:c<ag qs i 2):Iz sp lg qs c i=false:=by unfold Iz sA;rw[VM Uc,Yc]
def ajM (h:hlB sp lg (ag qs i 0) (ag qs i 1)=true)(g:ag qs i 2<=c):Iz sp lg qs c i=true:=by unfold Iz qA sA;rw[h,VL g];rfl
structure HiP (sp lg cs:af)(i:Int)(es:af):Prop where
 ok:upto (iA sp lg cs) i
 c:AR es (zF cs i.toNat)
structure HkP (sp lg cs:af)(i k:Int)(es:af):Prop where
 ok:upto (iA sp lg cs) i
 ok2:upto (kA sp lg (aU cs i 0)) k
 c:AR es (zF cs i.toNat++EL (aU cs i 0) k.toNat)
structure HjP (sp lg cs:af)(i k j:Int)(es:af):Prop where
 ok:upto (iA sp lg cs) i
 ok2:upto (kA sp lg (aU cs i 0)) k
 ok3:upto (jA sp lg (aU (aU cs i 0) k 0) k) j
 c:AR es (zF cs i.toNat++EL (aU cs i 0) k.toNat++o5 (aU (aU cs i 0) k 0) 0 j.toNat)
structure HqP (sp lg cs qs:af)(t j:Int)(es:af):Prop where
 ok:dI (iA sp lg cs) cs.length=true
 ok2:upto (Iz sp lg qs t) j
 c:AR es (zF cs cs.length++o5 qs 0 j.toNat)
structure HfP (sp lg cs qs fl:af)(t j:Int)(es:af):Prop where
 ok:dI (iA sp lg cs) cs.length=true
 ok2:dI (Iz sp lg qs t) qs.length=true
 ok3:upto (jA sp lg fl (-1)) j
 c:AR es (zF cs cs.length++o5 qs 0 qs.length++o5 fl 0 j.toNat)
structure Rx (sp lg os cs qs fl:af)(t j:Int)(es:af):Prop where
 ok:dI (iA sp lg cs) cs.length=true
 ok2:dI (Iz sp lg qs t) qs.length=true
 ok3:dI (jA sp lg fl (-1)) fl.length=true
 c:AR es (zF cs cs.length++o5 qs 0 qs.length++o5 fl 0 fl.length++o5 os 1 j.toNat)
def ahQ:HiP sp lg cs 0 []:=⟨cr,ahl⟩
def ahS (h:HiP sp lg cs i es):HkP sp lg cs i 0 es:=⟨h.ok,cr,by simpa[EL]using h.c⟩
def ahR (h:HkP sp lg cs i k es):HjP sp lg cs i k 0 es:=⟨h.ok,h.ok2,cr,by simpa[o5]using h.c⟩
def adf (h:HjP sp lg cs i k j es)(i0:0<=i)(i1:i<cs.length)(k0:0<=k)(k1:k<(aU cs i 0).length)(j0:0<=j)(j1:j<(aU (aU cs i 0) k 0).length)(hc:au cs<=1073741824)(hh:hlB sp lg (ag (aU (aU cs i 0) k 0) j 0) k=true):
 HjP sp lg cs i k (j+1) (huI es (ag (aU (aU cs i 0) k 0) j 0)):=by
 have l:=M8 (cs:=cs) i0 i1 k0 k1 j0 Uc;unfold au at hc;exact⟨h.ok,h.ok2,bU h.ok3 hh,by rw[Br j0, <-Zs];exact GH h.c Uc⟩
def adg (h:HjP sp lg cs i k j es)(k0:0<=k)(j1:j<=((aU (aU cs i 0) k 0).length:Int))(j2:((aU (aU cs i 0) k 0).length:Int)<=j):HkP sp lg cs i (k+1) es:=by
 refine⟨h.ok,bU h.ok2 (cI h.ok3 j2),?_⟩;have c:=h.c;rw[show j.toNat=(aU (aU cs i 0) k 0).length from by omega,Zs, <-Sf k0]at c;exact c
def ade (h:HkP sp lg cs i k es)(i0:0<=i)(k1:k<=((aU cs i 0).length:Int))(k2:((aU cs i 0).length:Int)<=k):HiP sp lg cs (i+1) es:=by
 refine⟨bU h.ok (cI h.ok2 k2),?_⟩;have c:=h.c;rw[show k.toNat=(aU cs i 0).length from by omega, <-R7 i0]at c;exact c
def aic (h:HiP sp lg cs i es)(i1:i<=cs.length)(i2:(cs.length:Int)<=i):HqP sp lg cs qs c 0 es:=
 ⟨cI h.ok i2,cr,by have c:=h.c;rw[show i.toNat=cs.length from by omega]at c;simpa[o5]using c⟩
def adn (h:HqP sp lg cs qs c j es)(j0:0<=j)(j1:j<qs.length)(hc:au cs<=1073741824)(hq:qs.length<=1073741824)(hh:Iz sp lg qs c j=true):HqP sp lg cs qs c (j+1) (huI es (ag qs j 0)):=by
 have l:=sE (cs:=cs) cs.length (Ze _);rw[Y1]at l;unfold au at hc;refine⟨h.ok,bU h.ok2 hh,?_⟩;rw[Br j0, <-Zs];refine GH h.c ?_;rw[Zf,kQ];omega
def ahP (h:HqP sp lg cs qs c i es)(i1:i<=qs.length)(i2:(qs.length:Int)<=i):HfP sp lg cs qs fl c 0 es:=
 ⟨h.ok,cI h.ok2 i2,cr,by have c:=h.c;rw[show i.toNat=qs.length from by omega]at c;simpa[o5]using c⟩
def ac6 (h:HfP sp lg cs qs fl c j es)(j0:0<=j)(j1:j<fl.length)(hc:au cs<=1073741824)(hq:qs.length<=1073741824)(hf:fl.length<=30)(hh:hlB sp lg (ag fl j 0) (-1)=true):HfP sp lg cs qs fl c (j+1) (huI es (ag fl j 0)):=by
 have l:=sE (cs:=cs) cs.length (Ze _);rw[Y1]at l;unfold au at hc;refine⟨h.ok,h.ok2,bU h.ok3 hh,?_⟩;rw[Br j0, <-Zs];refine GH h.c ?_;rw[Zf,Zf,kQ,kQ];omega
def ahX (h:HfP sp lg cs qs fl c i es)(i1:i<=fl.length)(i2:(fl.length:Int)<=i):Rx sp lg os cs qs fl c 0 es:=
 ⟨h.ok,h.ok2,cI h.ok3 i2,by have c:=h.c;rw[show i.toNat=fl.length from by omega]at c;simpa[o5]using c⟩
def adk (h:Rx sp lg os cs qs fl c j es)(j0:0<=j)(j1:j<os.length)(hc:au cs<=1073741824)(hq:qs.length<=1073741824)(ho:os.length<=1073741824)(hf:fl.length<=30):Rx sp lg os cs qs fl c (j+1) (huI es (ag os j 1)):=by
 have l:=sE (cs:=cs) cs.length (Ze _);rw[Y1]at l;unfold au at hc;refine⟨h.ok,h.ok2,h.ok3,?_⟩;rw[Br j0, <-Zs];refine GH h.c ?_;rw[Zf,Zf,Zf,kQ,kQ,kQ];omega
structure Pj (sp lg os cs qs fl:af)(t i:Int)(es:af):Prop where
 p:Rx sp lg os cs qs fl t os.length es
 ok:upto (c1A (hoA os cs qs fl) (Ep sp lg)) i
def ahT (h:Rx sp lg os cs qs fl c i es)(i1:i<=os.length)(i2:(os.length:Int)<=i):Pj sp lg os cs qs fl c 0 es:=⟨by rw[show(os.length:Int)=i from by omega];exact h,cr⟩
def adh (h:Pj sp lg os cs qs fl c i es)(m:Int):jJ es m=((hoA os cs qs fl).count m:Int):=by
 have q:=h.p.c.c m;rw[ZJ]at q;exact q
def adi (h:Pj sp lg os cs qs fl c i es)(e:jJ es (ag (Ep sp lg) i 0)=1):Pj sp lg os cs qs fl c (i+1) es:=
 ⟨h.p,bU h.ok (by unfold c1A;rw[adh h]at e;exact VL Uc)⟩
def ahU (h:Pj sp lg os cs qs (ifL b x) c i es)(i0:0<=i)(i1:i<(Ep sp lg).length)(e:jJ es (ag (Ep sp lg) i 0)≠1):hoI sp lg os cs b x qs c=false:=
 Tl i0 i1 (by unfold c1A;rw[adh h]at e;exact VM Uc)
def Te (h:Pj sp lg os cs qs (ifL b x) c i es)(i2:((Ep sp lg).length:Int)<=i):hoI sp lg os cs b x qs c=true:=by
 unfold hoI;rw[h.p.ok,h.p.ok2,h.p.ok3,cI h.ok i2];rfl
end
end Go.V
namespace Go.V
structure S1P (os:af)(i:Int)(o:af):Prop where
 e:o=lY (o5 os 1 i.toNat)
structure S2P (sp lg os cs:af)(i:Int)(o:af):Prop where
 ok:upto (iA sp lg cs) i
 e:o=lY (o5 os 1 os.length++zF cs i.toNat)
structure S3P (sp lg os cs:af)(i k:Int)(o:af):Prop where
 ok:upto (iA sp lg cs) i
 ok2:upto (kA sp lg (aU cs i 0)) k
 e:o=lY (o5 os 1 os.length++(zF cs i.toNat++EL (aU cs i 0) k.toNat))
structure S4P (sp lg os cs:af)(i k j:Int)(o:af):Prop where
 ok:upto (iA sp lg cs) i
 ok2:upto (kA sp lg (aU cs i 0)) k
 ok3:upto (jA sp lg (aU (aU cs i 0) k 0) k) j
 e:o=lY (o5 os 1 os.length++(zF cs i.toNat++EL (aU cs i 0) k.toNat++o5 (aU (aU cs i 0) k 0) 0 j.toNat))
structure S5P (sp lg os cs qs:af)(j:Int)(o:af):Prop where
 ok:dI (iA sp lg cs) cs.length=true
 ok2:upto (qA sp lg qs) j
 e:o=lY (o5 os 1 os.length++zF cs cs.length++o5 qs 0 j.toNat)
structure S6P (sp lg os cs qs fl:af)(j:Int)(o:af):Prop where
 ok:dI (iA sp lg cs) cs.length=true
 ok2:dI (qA sp lg qs) qs.length=true
 ok3:upto (jA sp lg fl (-1)) j
 e:o=lY (o5 os 1 os.length++zF cs cs.length++o5 qs 0 qs.length++o5 fl 0 j.toNat)
structure S7P (sp lg os cs qs fl:af)(j:Int)(o:af):Prop where
 ok:dI (iA sp lg cs) cs.length=true
 ok2:dI (qA sp lg qs) qs.length=true
 ok3:dI (jA sp lg fl (-1)) fl.length=true
 e:o=lY (hoB os cs qs fl)
 nd:((hoB os cs qs fl).take j.toNat).Nodup
section
variable {sp lg os cs b x qs fl o: af} {i k j: Int}
def nI {p:Int->Bool}{n:Nat}(h:dI p n=true):∀ k:Nat,k<n->p k=true:=fun k hk=>ez.1 h k Uc Uc
end
end Go.V
namespace Go.V
def G5 {n:Int}:∀ {es:af},WfB es->∀ m,m∈oc (nM es n (.v (.bool true)))↔m∈oc es\/m=n
 | [],_,m=>by
   show m∈oc [[.i n,.v (.bool true)]]↔_;simp[oc,kOf]
 | e::es,h,m=>by
   obtain⟨k,b,rfl⟩:=h e (by simp);have h':WfB es:=fun e he=>h e (by simp[he])
   have ih:=G5 (n:=n) h' m;rw[Hh];by_cases c:k=n
   ·rw[VO c];subst c;show m∈k::oc es↔m∈k::oc es\/m=k;simp only[Zl]
    constructor;exact fun h=>.inl h
    ·rintro(h|h);exact h;exact .inl h
   ·rw[VP c];show m∈k::oc (nM es n (.v (.bool true)))↔m∈k::oc es\/m=n;simp only[Zl,ih,or_assoc]
structure wU (es:af)(l:List Int):Prop where
 s:qN es l
 k:∀ m,m∈oc es↔m∈l
def ae2:wU [] []:=⟨F3,fun m=>Iff.rfl⟩
def K7 {es:af}{l:List Int}{n:Int}(h:wU es l):wU (nM es n (.v (.bool true))) (l++[n]):=
 ⟨wO h.s,fun m=>by rw[G5 h.s.wf,h.k,Zh,Yb]⟩
def Cu (sp:af)(i:Int):Bool:= !(decide (0<i)&&decide (ag sp i 0<=ag sp (i-1) 0))
def PP (es:af)(p:Int):Bool:=decide ((fpg es p).length=1)
def Fp (es lg:af)(i:Int):Bool:=Cu lg i&&dI (fun k=>PP es (ag lg i 0+k)) (ag lg i 1).toNat
def ownB (sp lg:af)(p:Int):Bool:=decide (p∈Dy sp lg)
def mapB (es:af)(p:Int):Bool:=decide (peM es p≠0)
def I0 (es fr sp lg:af)(p:Int):Bool:=(mapB es p==ownB sp lg p)&& !(rhB fr p==ownB sp lg p)
def odB (es sp lg:af):Bool:=decide (∀ p∈Dy sp lg,p<es.length)
def N9 (sp:af)(i j:Int):Bool:=mshB (ag sp i 0) (ag sp i 1) (ag sp i 2) (ag sp j 0) (ag sp j 1) (ag sp j 2)
def Mx (es sp:af)(i j:Int):Bool:= !decide (peF es (ag sp i 0)=peF es (ag sp j 0))||N9 sp i j
def My (es sp:af)(i:Int):Bool:=dI (Mx es sp i) i.toNat
def pgI (es fr sp lg:af):Bool:=dI (Cu sp) sp.length&&(dI (Fp es lg) lg.length&&(dI (I0 es fr sp lg) es.length&&(odB es sp lg&&dI (My es sp) sp.length)))
section
variable {es fr sp lg m: af} {i j k p: Int} {vs: List Int}
def QW (h:0<i)(g:ag sp i 0<=ag sp (i-1) 0):Cu sp i=false:=by unfold Cu;rw[VL h,VL g];rfl
def QX (h:i<=0):Cu sp i=true:=by unfold Cu;rw[VM Uc];rfl
def QY (h:ag sp (i-1) 0<ag sp i 0):Cu sp i=true:=by unfold Cu;rw[VM (p:=ag sp i 0<=_) Uc];simp
def afa (i0:0<=i)(i1:i<sp.length)(h:Cu sp i=false):pgI es fr sp lg=false:=by unfold pgI;rw[cW i0 i1 h];rfl
def QA (i0:0<=i)(i1:i<lg.length)(h:Fp es lg i=false):pgI es fr sp lg=false:=by unfold pgI;rw[cW i0 i1 h];simp
def QB (i0:0<=i)(i1:i<es.length)(h:I0 es fr sp lg i=false):pgI es fr sp lg=false:=by unfold pgI;rw[cW i0 i1 h];simp
def afb (h:odB es sp lg=false):pgI es fr sp lg=false:=by unfold pgI;rw[h];simp
def afc (i0:0<=i)(i1:i<sp.length)(h:My es sp i=false):pgI es fr sp lg=false:=by unfold pgI;rw[cW i0 i1 h];simp
def ajB {a b c d:Int}(h1:upto (Cu sp) a)(g1:(sp.length:Int)<=a)(h2:upto (Fp es lg) b)(g2:(lg.length:Int)<=b)(h3:upto (I0 es fr sp lg) c)(g3:(es.length:Int)<=c)(h4:odB es sp lg=true)(h5:upto (My es sp) d)(g5:(sp.length:Int)<=d):pgI es fr sp lg=true:=by
 unfold pgI;rw[cI h1 g1,cI h2 g2,cI h3 g3,h4,cI h5 g5];rfl
def ad0 (h:Cu lg i=false):Fp es lg i=false:=by unfold Fp;rw[h];rfl
def ad1 (k0:0<=k)(k1:k<ag lg i 1)(h:(fpg es (ag lg i 0+k)).length≠1):Fp es lg i=false:=by
 unfold Fp;rw[cW (i:=k) (n:=(ag lg i 1).toNat) k0 Uc (show PP es (ag lg i 0+k)=false from VM h),Yc]
def ajb (h:Cu lg i=true)(g:upto (fun k=>PP es (ag lg i 0+k)) k)(k1:ag lg i 1<=k)(n0:0<=ag lg i 1):Fp es lg i=true:=by
 unfold Fp;rw[h,cI g Uc];rfl
def acJ (g:upto (fun k=>PP es (ag lg i 0+k)) k)(h:(fpg es (ag lg i 0+k)).length=1):upto (fun k=>PP es (ag lg i 0+k)) (k+1):=bU g (VL h)
structure PlP (es sp lg:af)(j:Int)(m:af):Prop where
 ok:upto (Fp es lg) j
 o:wU m (nN sp sp.length++oZ lg j.toNat)
structure PkP (es sp lg:af)(j k:Int)(m:af):Prop where
 ok:upto (Fp es lg) j
 h:Cu lg j=true
 g:upto (fun k=>PP es (ag lg j 0+k)) k
 o:wU m (nN sp sp.length++oZ lg j.toNat++vE (ag lg j 0) k.toNat)
def ajC (h:wU m (nN sp i.toNat))(i1:i<=sp.length)(i2:(sp.length:Int)<=i):PlP es sp lg 0 m:=⟨cr,by rw[show i.toNat=sp.length from by omega]at h;simpa[oZ]using h⟩
def afd (h:PlP es sp lg j m)(g:Cu lg j=true):PkP es sp lg j (ag lg j 0-ag lg j 0) m:=by
 rw[Int.sub_self];exact⟨h.ok,g,cr,by simpa[vE]using h.o⟩
def aff (h:PkP es sp lg j (p-ag lg j 0) m)(p0:ag lg j 0<=p)(g:(fpg es p).length=1):PkP es sp lg j (p+1-ag lg j 0) (nM m p (.v (.bool true))):=by
 have e:ag lg j 0+(p-ag lg j 0)=p:=by omega
 rw[show p+1-ag lg j 0=(p-ag lg j 0)+1 from by omega];refine⟨h.ok,h.h,acJ h.g (by rw[e];exact g),?_⟩;rw[FU Uc,e, <-Zs];exact K7 h.o
def afe (p0:ag lg j 0<=p)(p1:p<ag lg j 0+ag lg j 1)(h:(fpg es p).length≠1):Fp es lg j=false:=
 ad1 (k:=p-ag lg j 0) Uc Uc (by rw[show ag lg j 0+(p-ag lg j 0)=p from by omega];exact h)
def afg (h:PkP es sp lg j (p-ag lg j 0) m)(j0:0<=j)(n0:0<=ag lg j 1)(p1:p<=ag lg j 0+ag lg j 1)(p2:ag lg j 0+ag lg j 1<=p):PlP es sp lg (j+1) m:=by
 refine⟨bU h.ok (ajb h.h h.g Uc n0),?_⟩;have o:=h.o;rw[show(p-ag lg j 0).toNat=(ag lg j 1).toNat from by omega,Zs, <-Fw j0]at o;exact o
def aaW (h:PlP es sp lg j m)(j1:j<=lg.length)(j2:(lg.length:Int)<=j):wU m (Dy sp lg):=by
 have o:=h.o;rw[show j.toNat=lg.length from by omega]at o;exact o
def ae3 (h:wU m (Dy sp lg))(p:Int):mgbI m p=ownB sp lg p:=by
 refine o8 ?_;unfold ownB;rw[h.s.at_,VN]
def acC (h:mapB es p≠ownB sp lg p):I0 es fr sp lg p=false:=by unfold I0;rw[beq_eq_false_iff_ne.2 h];rfl
def acD (h:rhB fr p=ownB sp lg p):I0 es fr sp lg p=false:=by unfold I0;rw[h];simp
def ahw (h:mapB es p=ownB sp lg p)(g:rhB fr p≠ownB sp lg p):I0 es fr sp lg p=true:=by unfold I0;rw[h,beq_eq_false_iff_ne.2 g];simp
def ajv (h:p∈Dy sp lg)(g:(es.length:Int)<=p):odB es sp lg=false:=VM (fun c=>by have:=c p h;omega)
def ajw (o:wU m (Dy sp lg))(h:∀ k∈vs,k<es.length)(g:∀ k∈oc m,k∈vs):odB es sp lg=true:=VL (fun p hp=>h p (g p ((o.k p).2 hp)))
def agB {q:Int}(h:∀ k∈vs,k<(es.length:Int))(g:q<es.length):∀ k∈q::vs,k<(es.length:Int):=fun k hk=>by
 rcases Zl.1 hk with rfl|hk;exact g;exact h k hk
def ajf (j0:0<=j)(j1:j<i)(h:peF es (ag sp i 0)=peF es (ag sp j 0))(g:N9 sp i j=false):My es sp i=false:=by
 unfold My;exact cW j0 Uc (by unfold Mx;rw[g,VL h];rfl)
def ad8 (h:peF es (ag sp i 0)≠peF es (ag sp j 0)):Mx es sp i j=true:=by unfold Mx;rw[VM h];rfl
def ad9 (h:N9 sp i j=true):Mx es sp i j=true:=by unfold Mx;rw[h,Bool.or_true]
def ajg (h:upto (Mx es sp i) j)(g:i<=j)(i0:0<=i):My es sp i=true:=by unfold My;exact cI h Uc
structure QlP (es sp lg:af)(j:Int)(o:af):Prop where
 ok:upto (Fp es lg) j
 e:o=lY (nN sp sp.length++oZ lg j.toNat)
 l:(oZ lg j.toNat).length<=64*j.toNat
structure QkP (es sp lg:af)(j k:Int)(o:af):Prop where
 ok:upto (Fp es lg) j
 h:Cu lg j=true
 g:upto (fun k=>PP es (ag lg j 0+k)) k
 e:o=lY (nN sp sp.length++oZ lg j.toNat++vE (ag lg j 0) k.toNat)
 l:(oZ lg j.toNat).length<=64*j.toNat
structure QsP (sp:af)(i:Int)(o:af):Prop where
 ok:upto (Cu sp) i
 e:o=lY (nN sp i.toNat)
variable {o: af}
end
end Go.V
namespace Go.V
def adE (k m:Int)(cs:af)(ph nx:Int):Bool:=decide (ph=0)&&(decide (nx=0)&&(decide (k=0)&&(decide (m=0)&&decide (cs.length=0))))
def zI (sp:af)(me:Bool)(k m:Int)(cs:af)(ph nx:Int):Bool:=
 bif me then(jbOk k m cs ph nx&&(decide (0<=spI sp k)&&decide (0<=spI sp m)))else adE k m cs ph nx
def ccA (cs:af)(i:Int):Bool:=caOk (aU cs i 0)
def hpI (a0 a1 a2:af)(a3:Int)(a4 a5 a6 a7 a8 a9 aA aB:af)(aC:Int)(aD:af)(aE aF aG aH:Int)(aI:Bool)(aJ aK:Int)(aL:af)(aM aN:Int):Bool:=
 kerOk a0 a1 a2 a3 a4&&(rgOk a2.length a5&&(layOk a6 a7&&(pgI a2 a5 a6 a7&&(mailOk aA aB&&(decide (a9.length=aA.length)&&(quarOk aC aD&&(dI (ccA a9) a9.length&&
  (objOk a6 a7 a8 a9 aH&&(hoI a6 a7 a8 a9 aA aB aD aF&&(inR aE 0 1073741823&&(inR aF 0 1000000&&(inR aG 0 1000&&(inR aH 1 1000000&&zI a6 aI aJ aK aL aM aN)))))))))))))
structure HpN (a0 a1 a2 a4 a5 a6 a7 a8 a9 aA aB aD aL:af):Prop where
 n:NsH a6 a7 a8 a9 aA aB aD
 c:Rw [.sl [tI]] a0
 u:Rw [tB] a1
 e:Rw [tI,tI] a2
 el:a2.length<=1073741824
 r:Rw [tI] a4
 f:Rw [tI,tI] a5
 fl:a5.length<=1073741824
 j:Rw [tI] aL
 jl:aL.length<=1073741824
section
variable {a0 a1 a2: af} {a3: Int} {a4 a5 a6 a7 a8 a9 aA aB: af} {aC: Int} {aD: af} {aE aF aG aH: Int} {aI: Bool} {aJ aK: Int} {aL: af} {aM aN: Int} {i: Int}
def ah0 (h:kerOk a0 a1 a2 a3 a4=false):hpI a0 a1 a2 a3 a4 a5 a6 a7 a8 a9 aA aB aC aD aE aF aG aH aI aJ aK aL aM aN=false:=by unfold hpI;rw[h];simp
def ah7 (h:rgOk a2.length a5=false):hpI a0 a1 a2 a3 a4 a5 a6 a7 a8 a9 aA aB aC aD aE aF aG aH aI aJ aK aL aM aN=false:=by unfold hpI;rw[h];simp
def ah1 (h:layOk a6 a7=false):hpI a0 a1 a2 a3 a4 a5 a6 a7 a8 a9 aA aB aC aD aE aF aG aH aI aJ aK aL aM aN=false:=by unfold hpI;rw[h];simp
def ah5 (h:pgI a2 a5 a6 a7=false):hpI a0 a1 a2 a3 a4 a5 a6 a7 a8 a9 aA aB aC aD aE aF aG aH aI aJ aK aL aM aN=false:=by unfold hpI;rw[h];simp
def ah2 (h:mailOk aA aB=false):hpI a0 a1 a2 a3 a4 a5 a6 a7 a8 a9 aA aB aC aD aE aF aG aH aI aJ aK aL aM aN=false:=by unfold hpI;rw[h];simp
def ah3 (h:decide (a9.length=aA.length)=false):hpI a0 a1 a2 a3 a4 a5 a6 a7 a8 a9 aA aB aC aD aE aF aG aH aI aJ aK aL aM aN=false:=by unfold hpI;rw[h];simp
def ah6 (h:quarOk aC aD=false):hpI a0 a1 a2 a3 a4 a5 a6 a7 a8 a9 aA aB aC aD aE aF aG aH aI aJ aK aL aM aN=false:=by unfold hpI;rw[h];simp
def ahY (h:dI (ccA a9) a9.length=false):hpI a0 a1 a2 a3 a4 a5 a6 a7 a8 a9 aA aB aC aD aE aF aG aH aI aJ aK aL aM aN=false:=by unfold hpI;rw[h];simp
def ah4 (h:objOk a6 a7 a8 a9 aH=false):hpI a0 a1 a2 a3 a4 a5 a6 a7 a8 a9 aA aB aC aD aE aF aG aH aI aJ aK aL aM aN=false:=by unfold hpI;rw[h];simp
def ahZ (h:hoI a6 a7 a8 a9 aA aB aD aF=false):hpI a0 a1 a2 a3 a4 a5 a6 a7 a8 a9 aA aB aC aD aE aF aG aH aI aJ aK aL aM aN=false:=by unfold hpI;rw[h];simp
def ah8 (h:inR aE 0 1073741823=false):hpI a0 a1 a2 a3 a4 a5 a6 a7 a8 a9 aA aB aC aD aE aF aG aH aI aJ aK aL aM aN=false:=by unfold hpI;rw[h];simp
def ah9 (h:inR aF 0 1000000=false):hpI a0 a1 a2 a3 a4 a5 a6 a7 a8 a9 aA aB aC aD aE aF aG aH aI aJ aK aL aM aN=false:=by unfold hpI;rw[h];simp
def aia (h:inR aG 0 1000=false):hpI a0 a1 a2 a3 a4 a5 a6 a7 a8 a9 aA aB aC aD aE aF aG aH aI aJ aK aL aM aN=false:=by unfold hpI;rw[h];simp
def aib (h:inR aH 1 1000000=false):hpI a0 a1 a2 a3 a4 a5 a6 a7 a8 a9 aA aB aC aD aE aF aG aH aI aJ aK aL aM aN=false:=by unfold hpI;rw[h];simp
def adm (h:(a9.length:Int)≠aA.length):hpI a0 a1 a2 a3 a4 a5 a6 a7 a8 a9 aA aB aC aD aE aF aG aH aI aJ aK aL aM aN=false:=ah3 (VM Uc)
def adl (i0:0<=i)(i1:i<a9.length)(h:caOk (aU a9 i 0)=false):hpI a0 a1 a2 a3 a4 a5 a6 a7 a8 a9 aA aB aC aD aE aF aG aH aI aJ aK aL aM aN=false:=ahY (cW i0 i1 h)
def Tm (hk:kerOk a0 a1 a2 a3 a4=true)(hr:rgOk a2.length a5=true)(hl:layOk a6 a7=true)(hp:pgI a2 a5 a6 a7=true)(hm:mailOk aA aB=true)(hn:decide (a9.length=aA.length)=true)(hq:quarOk aC aD=true)(hc:dI (ccA a9) a9.length=true)(ho:objOk a6 a7 a8 a9 aH=true)(hh:hoI a6 a7 a8 a9 aA aB aD aF=true)(hs:inR aE 0 1073741823=true)(ht:inR aF 0 1000000=true)(hw:inR aG 0 1000=true)(hx:inR aH 1 1000000=true):hpI a0 a1 a2 a3 a4 a5 a6 a7 a8 a9 aA aB aC aD aE aF aG aH aI aJ aK aL aM aN=zI a6 aI aJ aK aL aM aN:=by unfold hpI;rw[hk,hr,hl,hp,hm,hn,hq,hc,ho,hh,hs,ht,hw,hx];rfl
structure HpT (a0 a1 a2:af)(a3:Int)(a4 a5 a6 a7 a8 a9 aA aB:af)(aC:Int)(aD:af)(aE aF aG aH:Int)(aI:Bool)(aJ aK:Int)(aL:af)(aM aN:Int):Prop where
 k:kerOk a0 a1 a2 a3 a4=true
 r:rgOk a2.length a5=true
 l:layOk a6 a7=true
 p:pgI a2 a5 a6 a7=true
 m:mailOk aA aB=true
 n:decide (a9.length=aA.length)=true
 q:quarOk aC aD=true
 c:dI (ccA a9) a9.length=true
 o:objOk a6 a7 a8 a9 aH=true
 h:hoI a6 a7 a8 a9 aA aB aD aF=true
 s:inR aE 0 1073741823=true
 t:inR aF 0 1000000=true
 w:inR aG 0 1000=true
 x:inR aH 1 1000000=true
 j:zI a6 aI aJ aK aL aM aN=true
def hY (h:hpI a0 a1 a2 a3 a4 a5 a6 a7 a8 a9 aA aB aC aD aE aF aG aH aI aJ aK aL aM aN=true):HpT a0 a1 a2 a3 a4 a5 a6 a7 a8 a9 aA aB aC aD aE aF aG aH aI aJ aK aL aM aN:=by
 unfold hpI at h;simp only[Zb]at h;obtain⟨hk,hr,hl,hp,hm,hn,hq,hc,ho,hh,hs,ht,hw,hx,hj⟩:=h;exact⟨hk,hr,hl,hp,hm,hn,hq,hc,ho,hh,hs,ht,hw,hx,hj⟩
def adF (h:jbOk aJ aK aL aM aN=false):false=zI a6 true aJ aK aL aM aN:=by unfold zI;rw[h];rfl
def adG (h:spI a6 aJ<0):false=zI a6 true aJ aK aL aM aN:=by unfold zI;rw[VM (p:=0<=spI a6 aJ) Uc];simp
def adH (h:jbOk aJ aK aL aM aN=true)(g:0<=spI a6 aJ):du .geq (spI a6 aK) 0=zI a6 true aJ aK aL aM aN:=by unfold zI;rw[h,VL g];rfl
end
end Go.V
namespace Go.V
def obD (a s ad:Int):Bool:=inR ad a (bQ .sub Za (bQ .add Za a s) 1)
def obC (os:af)(ad j:Int):Bool:=obD (ag os j 1) (ag os j 2) ad
def ofI (os:af)(ad:Int):Int:=da (obC os ad) os.length
def ooI (b:Bool)(os:af)(ad:Int):Int:=if b=true then ofI os ad else-1
def aeV {sp lg:af}{a s:Int}(h:okO sp lg a s=true):0<=a/\a<=2000/\1<=s/\s<=1000:=by
 unfold okO at h;simp only[Zb,Z5,VN]at h;obtain⟨_,⟨k,c⟩|⟨k,c⟩⟩:=h
 ·have e:=JK k;have q:0<=gE sp a:=by
   unfold dnK at k;by_cases w:0<=gE sp a;exact w
   ·rw[VP w]at k;split at k<;>omega
  have t:=(gu q).2;change AJ sp a (gE sp a)=true at t;obtain⟨t1,t2,t3⟩:=uC.1 (yC.1 t);have hs:=mU t1;have hk:=ay.1 hs.2.2.1;have w:dnI sp lg a=gE sp a:=by unfold dnI;rw[VO q]
  rw[w]at c;have b:=Px (s:=s) Uc;omega
 ·have q:¬ 0<=gE sp a:=fun w=>by
   unfold dnK at k;rw[VO w]at k;split at k<;>omega
  have g:0<=md lg a:=by
   unfold dnK at k;rw[VP q]at k;by_cases w:0<=md lg a;exact w
   ·rw[VP w]at k;omega
  have t:=(gu g).2;change Ay lg a (md lg a)=true at t;have w:dnI sp lg a=md lg a:=by unfold dnI;rw[VP q,VO g]
  rw[w]at c;unfold Ay lhB at t;rw[Zb]at t;obtain⟨t1,t2,t3,t4⟩:=oh t.1;have u:=ay.1 t.2;have v:=ay.1 t1;have pf:0<=ag lg (md lg a) 1:=by rw[t2];unfold pfN;split<;>omega
  omega
def aeT {sp lg os cs:af}{nx i:Int}(h:objOk sp lg os cs nx=true)(i0:0<=i)(i1:i<os.length):0<=ag os i 1/\ag os i 1<=2000/\1<=ag os i 2/\ag os i 2<=1000:=by
 have t:=ez.1 h i i0 i1;unfold BB at t;simp only[Zb]at t;exact aeV t.2.2.2.2
structure ObB (os:af):Prop where
 w:Rw [tI,tI,tI,tI] os
 l:os.length<=1099511627776
 b:∀ i:Int,0<=i->i<os.length->0<=ag os i 1/\ag os i 1<=2000/\1<=ag os i 2/\ag os i 2<=1000
end Go.V
namespace Go.V
def Et (us:af):Nat->Int
 |0=>0
 |n+1=>if qi us n 0=true then Et us n+1 else Et us n
def L3 {us:af}:∀ {n:Nat},0<=Et us n/\Et us n<=n
 |0=>by simp[Et]
 | n+1=>by
   have:=L3 (us:=us) (n:=n);unfold Et;split<;>omega
def Pd {us:af}{i:Int}(hi:0<=i)(h:qi us i 0=true):Et us (i+1).toNat=Et us i.toNat+1:=by
 have e:((i.toNat:Nat):Int)=i:=Zj hi;rw[show(i+1).toNat=i.toNat+1 from by omega,Et,VO (by rw[e];exact h)]
def abF {us:af}{i:Int}(hi:0<=i)(h:qi us i 0=false):Et us (i+1).toNat=Et us i.toNat:=by
 have e:((i.toNat:Nat):Int)=i:=Zj hi;rw[show(i+1).toNat=i.toNat+1 from by omega,Et,VP (by rw[e,h];decide)]
def ufN (cs us:af):Int:=if framesOk cs us=true then Et us us.length else 0
def abE {cs us:af}{i:Int}(h:framesOk cs us=true)(h0:i<=us.length)(h1:(us.length:Int)<=i):ufN cs us=Et us i.toNat:=by
 unfold ufN;rw[VO h,show i.toNat=us.length by omega]
def agu {cs us:af}(h:framesOk cs us=false):ufN cs us=0:=by unfold ufN;rw[h];rfl
def ldV (cs us es:af)(a:Int):Int:=if machOk cs us es=true/\T0 es a≠0 then ag (aU cs (TZ es a) 0) (leK a) 0 else 0
end Go.V
namespace Go.V
def Io (es:af):Nat->Int
 |0=>0
 |n+1=>if ag es n 0=0 then Io es n else Io es n+1
def mpT (es:af):Int:=Io es es.length
def KM {es:af}:∀ {n:Nat},0<=Io es n/\Io es n<=n
 |0=>⟨Yi _,Yi _⟩
 | n+1=>by
   have:=KM (es:=es) (n:=n);unfold Io;split<;>omega
def aau {es:af}{i:Int}(i1:i<=es.length)(i2:(es.length:Int)<=i):Io es i.toNat=mpT es:=by unfold mpT;rw[show i.toNat=es.length by omega]
def aee {es:af}{i:Int}(i0:0<=i)(h:ag es i 0=0):Io es (i+1).toNat=Io es i.toNat:=by
 obtain⟨k,rfl⟩:=ZX i0;rw[show((k:Int)+1).toNat=k+1 by omega,show(k:Int).toNat=k by omega];show(if ag es k 0=0 then _ else _)=_;rw[VO h]
def aav {es:af}{i:Int}(i0:0<=i)(h:ag es i 0≠0):Io es (i+1).toNat=Io es i.toNat+1:=by
 obtain⟨k,rfl⟩:=ZX i0;rw[show((k:Int)+1).toNat=k+1 by omega,show(k:Int).toNat=k by omega];show(if ag es k 0=0 then _ else _)=_;rw[VP h]
def hlV (o v:Int):Int:=if o<0 then 0 else v
def hlK (o:Int):Int:=if o<0 then 1 else 0
def sfI (b:Bool)(m u:Int):Int:=if b=true then bQ .sub Za m u else 0
def ajX {b:Bool}{m u:Int}(h:b=false):sfI b m u=0:=by subst h;rfl
def ajY {b:Bool}{m u:Int}(h:b=true):sfI b m u=bQ .sub Za m u:=by subst h;rfl
end Go.V
namespace Go.V
def JL {sp lg:af}{a:Int}(h:dnK sp lg a=1):dnI sp lg a=gE sp a/\0<=gE sp a/\gE sp a<sp.length/\Es (ag sp (gE sp a) 0) (ag sp (gE sp a) 1) (ag sp (gE sp a) 2) a=true:=by
 have q:0<=gE sp a:=by
  unfold dnK at h;by_cases w:0<=gE sp a;exact w
  ·rw[VP w]at h;split at h<;>omega
 have t:=gu q;change gE sp a<sp.length/\AJ sp a (gE sp a)=true at t;exact⟨by unfold dnI;rw[VO q],q,t.1,yC.1 t.2⟩
end Go.V
namespace Go.V
def MQ {a b:Int}:bQ .and Za a b=(tG a&&&tG b).toInt:=Cp _
def abZ {m:Nat}(h:m<65536):bQ .and Za (m:Int) 1=((m%2:Nat):Int):=by
 rw[MQ];have e:tG (m:Int)&&&tG 1=BitVec.ofNat 64 (m%2):=by
  apply BitVec.eq_of_toNat_eq;unfold tG;rw[BitVec.toNat_and,Xh,Y2,Y2];show(m%18446744073709551616)&&&1=_;rw[Nat.and_one_is_mod];omega
 rw[e,BitVec.toInt_eq_toNat_of_lt (by rw[Y2];omega),Y2];omega
def afT {n t:Nat}(ht:t<=15):LM .shr Za (n:Int) (t:Int)=((n/2^t:Nat):Int):=by
 show Int.fdiv (n:Int) (2^(min (t:Int).toNat 64))=_;rw[show min (t:Int).toNat 64=t by omega,Int.fdiv_eq_ediv_of_nonneg _ (Int.le_of_lt (Int.pow_pos Uc))];rw[Int.natCast_ediv,Int.natCast_pow];rfl
def E3 {b:Int}{t:Nat}(hb:0<=b)(hb2:b<65536)(ht:t<=15):hsB b t=(tG b).getLsbD t:=by
 obtain⟨n,rfl⟩:=ZX hb;have hs:slB (n:Int) (t:Int)=true:=DN.2 ⟨Uc,Uc,Uc⟩;have hd:n/2^t<65536:=Nat.lt_of_le_of_lt (Nat.div_le_self _ _) Uc;unfold hsB;rw[hs,afT ht,abZ hd];unfold tG;rw[Xh,BitVec.getLsbD_ofNat,Nat.testBit_eq_decide_div_mod_eq];rw[VL (show t<64 by omega)];simp only[Yz];by_cases c:n/2^t%2=1
 ·rw[VL c,VL Uc]
 ·rw[VM c,VM Uc]
def BV {p k b:Int}(h:spOk p k b=true):0<=b/\b<65536:=by
 have t:=(mU h).2.2.2;unfold bmOk at t;simp only[Zb,ay]at t;obtain⟨⟨n0,n1⟩,b0,b1⟩:=t;have q:(2:Int)^(slN k).toNat<=2^16:=by
  have:=Nat.pow_le_pow_right (n:=2) Uc (show(slN k).toNat<=16 by omega)
  exact_mod_cast this
 have:(2:Int)^16=65536:=rfl;omega
end Go.V
namespace Go.V
structure PgT (es fr sp lg:af):Prop where
 l:∀ j:Nat,j<lg.length->∀ q:Int,ag lg j 0<=q->q<ag lg j 0+ag lg j 1->(fpg es q).length=1
 m:∀ q:Int,0<=q->q<es.length->(peM es q≠0↔q∈Dy sp lg)
 o:∀ q∈Dy sp lg,q<es.length
 c:∀ i j:Nat,i<sp.length->j<sp.length->peF es (ag sp i 0)=peF es (ag sp j 0)->ag sp i 1=ag sp j 1
def pgT {es fr sp lg:af}(h:pgI es fr sp lg=true):PgT es fr sp lg:=by
 unfold pgI at h;simp only[Zb]at h;obtain⟨h1,h2,h3,h4,h5⟩:=h;have half:∀ i j:Nat,i<sp.length->j<i->peF es (ag sp i 0)=peF es (ag sp j 0)->ag sp i 1=ag sp j 1:=fun i j hi hj e=>by
  have a:=nI h5 i hi;unfold My at a;have b:=nI a j Uc;unfold Mx at b;rw[VL e]at b;simp only[Bool.not_true,Bool.false_or]at b;unfold N9 mshB at b;simp only[Zb,VN]at b;exact b.2.2.1
 refine⟨fun j hj q q0 q1=>?_,fun q q0 q1=>?_,VQ h4,fun i j hi hj e=>?_⟩
 ·have a:=nI h2 j hj;unfold Fp at a;rw[Zb]at a;have b:=nI a.2 (q-ag lg j 0).toNat Uc;unfold PP at b;rw[show ag lg j 0+((q-ag lg j 0).toNat:Int)=q by omega]at b;exact VQ b
 ·have a:=nI h3 q.toNat Uc;rw[Zj q0]at a;unfold I0 at a;rw[Zb]at a;have b:=eq_of_beq a.1;unfold mapB ownB at b;by_cases c:peM es q≠0
  ·rw[VL c]at b;exact⟨fun _=>VQ b.symm,fun _=>c⟩
  ·rw[VM c]at b;exact⟨fun x=>absurd x c,fun x=>absurd x (VR b.symm)⟩
 ·by_cases c:i=j
  ·rw[c]
  ·by_cases d:j<i;exact half i j hi d e;exact(half j i hj Uc e.symm).symm
end Go.V
namespace Go.V
def poN (sp lg fl:af):Nat->Int
 |0=>0
 |n+1=>poN sp lg fl n+clsSz (ag sp (dnI sp lg (ag fl n 0)) 1)
def ocF (s:Int):Int:=if 0<=clsOf s then clsSz (clsOf s)else s
def ocN (os:af):Nat->Int
 |0=>0
 |n+1=>ocN os n+ocF (ag os n 2)
end Go.V
namespace Go.V
def GG {k:Int}(h:inR k 0 3=true):clsSz k=1\/clsSz k=2\/clsSz k=4\/clsSz k=8:=by
 have:=ay.1 h;unfold clsSz;repeat' split<;>omega
def GU {c d:Int}(hc:c=1\/c=2\/c=4\/c=8)(d0:0<=d)(d1:d<=15)(h:d%c=0):d+c<=16:=by
 rcases hc with rfl|rfl|rfl|rfl<;>omega
def aaL {es fr sp lg:af}{a s i:Int}(hl:layOk sp lg=true)(hp:pgI es fr sp lg=true)(h:okO sp lg a s=true)(i0:0<=i)(i1:i<s):0<=(a+i)/16/\(a+i)/16<es.length/\peM es ((a+i)/16)≠0:=by
 have F:=Qm hl;have T:=pgT hp
 suffices h:0<=(a+i)/16/\(a+i)/16∈Dy sp lg from⟨h.1,T.o _ h.2,(T.m _ h.1 (T.o _ h.2)).2 h.2⟩
 unfold okO at h;simp only[Zb,Z5,VN]at h;obtain⟨o,⟨k,c⟩|⟨k,c⟩⟩:=h
 ·obtain⟨e,q,l,t⟩:=JL k;obtain⟨t1,t2,t3⟩:=uC.1 t;obtain⟨e1,e2⟩:=yD t;have hs:=mU t1;rw[e]at c;have b:=Px (s:=s) (by have:=ay.1 hs.2.2.1;omega);rw[<-c]at b;have o':OR sp a (gE sp a)=0:=by rw[<- (SD (lg:=lg) q).2];exact o
  unfold OR at o';rw[e2]at o';have fit:=GU (GG hs.2.2.1) Uc Uc o';have p:(a+i)/16=ag sp (gE sp a) 0:=by omega
  rw[p];refine⟨hs.1,Zh.2 (.inl (wJ.2 ⟨(gE sp a).toNat,Uc,?_⟩))⟩;rw[Zj q]
 ·have q:¬ 0<=gE sp a:=fun w=>by
   unfold dnK at k;rw[VO w]at k;split at k<;>omega
  have g:0<=md lg a:=by
   unfold dnK at k;rw[VP q]at k;by_cases w:0<=md lg a;exact w
   ·rw[VP w]at k;omega
  have t:=gu g;change md lg a<lg.length/\Ay lg a (md lg a)=true at t;have w:dnI sp lg a=md lg a:=by unfold dnI;rw[VP q,VO g]
  rw[w]at c;rw[(SC q g).2]at o;obtain⟨tl,tt⟩:=t;unfold loA loI at o;unfold Ay at tt;rw[VO tt]at o;unfold lhB at tt;rw[Zb]at tt;obtain⟨t1,t2,t3,t4⟩:=oh tt.1;have v:ag lg (md lg a) 1=(ag lg (md lg a) 2+15)/16:=by rw[t2];unfold pfN;rw[VO t1]
  refine⟨Uc,Zh.2 (.inr (wF.2 ⟨(md lg a).toNat,Uc,?_,?_⟩))⟩
  ·rw[Zj g];omega
  ·rw[Zj g];omega
end Go.V
namespace Go.V
def ceI (cs es:af)(a:Int):Int:=ag (aU cs (peF es (a/16)) 0) (a%16) 0
def clN (cs es:af)(a:Int):Nat->af
 |0=>[]
 |n+1=>clN cs es a n++[[.i (ceI cs es (a+n))]]
structure ClP (cs es:af)(a i:Int)(o:af):Prop where
 e:o=clN cs es a i.toNat
structure ObC (cs es os:af):Prop where
 b:ObB os
 f:∀ j:Int,0<=j->j<os.length->∀ i:Int,0<=i->i<ag os j 2->0<=peF es ((ag os j 1+i)/16)/\peF es ((ag os j 1+i)/16)<cs.length/\(aU cs (peF es ((ag os j 1+i)/16)) 0).length=16
end Go.V
namespace Go.V
end Go.V
namespace Go.V
def zM (k b:Int):Nat->af
 |0=>[]
 |n+1=>if hsB b ((n:Int)/clsSz k)=true then zM k b n++[[.i n]]else zM k b n
def sclL (p k b:Int):af:=if spOk p k b=true then zM k b 16 else[]
def tg {k b:Int}:∀ n:Nat,(zM k b n).length<=n
 |0=>Ze _
 | n+1=>by
   have:=tg (k:=k) (b:=b) n;unfold zM;split
   ·rw[Zf];show _+1<=_;omega
   ·omega
def DJ {p k b:Int}:(sclL p k b).length<=16:=by unfold sclL;split;exact tg 16;exact Zv _
structure AV (k b i:Int)(o:af):Prop where
 e:o=zM k b i.toNat
def abh {k b:Int}:AV k b 0 []:=⟨rfl⟩
def LG {k b i:Int}{o:af}(h:AV k b i o)(i0:0<=i)(g:hsB b (i/clsSz k)=true):AV k b (i+1) (o++[[.i i]]):=⟨by
 rw[h.e,show(i+1).toNat=i.toNat+1 by omega,zM,Zj i0,VO g]⟩
def OJ {k b i:Int}{o:af}(h:AV k b i o)(i0:0<=i)(g:hsB b (i/clsSz k)=false):AV k b (i+1) o:=⟨by
 rw[h.e,show(i+1).toNat=i.toNat+1 by omega,zM,Zj i0,g];rfl⟩
def afL {p k b:Int}(h:spOk p k b=false):sclL p k b=[]:=by unfold sclL;rw[h];rfl
def OH {p k b i:Int}{o:af}(h:AV k b i o)(s:spOk p k b=true)(i0:i<=16)(i1:16<=i):o=sclL p k b:=by
 have:i=16:=by omega
 subst this;rw[h.e];unfold sclL;rw[VO s];rfl
def scS (sp:af):Nat->Int
 |0=>0
 |n+1=>scS sp n+(sclL (ag sp n 0) (ag sp n 1) (ag sp n 2)).length
def lgS (lg:af):Nat->Int
 |0=>0
 |n+1=>lgS lg n+ag lg n 2
def R8 (ls:af):Nat->Int
 |0=>0
 |n+1=>R8 ls n+(aU ls n 0).length*clsSz n
end Go.V
namespace Go.V
structure MkP (f:Int->Bool)(o:af):Prop where
 w:Rw [tB] o
 l:o.length=16
 v:∀ c:Int,0<=c->c<16->qi o c 0=f c
def mkI (f:Int->Bool)(x:af)(i c:Int):Bool:=f c||hasB (x.take i.toNat) c
def mkJ (f g:Int->Bool)(i c:Int):Bool:=f c||(decide (c<i)&&g c)
def mbS (es sp:af)(p:Int):Nat->Int->Bool
 |0,_=>false
 |n+1,c=>mbS es sp p n c||(hasB (fpg es p) (ag sp n 0)&&hasB (sclL (ag sp n 0) (ag sp n 1) (ag sp n 2)) c)
def mbG (es sp lg:af)(p:Int):Nat->Int->Bool
 |0,c=>mbS es sp p sp.length c
 |n+1,c=>mbG es sp lg p n c||lhB (ag lg n 0) (ag lg n 1) (ag lg n 2) (p*16+c)
end Go.V
namespace Go.V
def ab8 {ls:af}(h:caOk ls=true):ls.length=4/\∀ n:Nat,n<4->(aU ls n 0).length<=8:=by
 unfold caOk at h;simp only[Zb,VN]at h;refine⟨h.1,fun n hn=>?_⟩;have t:=ez.1 h.2.1 n Uc Uc;unfold M5 at t;simp only[Zb,VN]at t;exact t.1
def ceC (ls:af):Int:=if caOk ls=true then R8 ls ls.length else 0
structure akz (ls:af)(i t:Int):Prop where
 e:t=R8 ls i.toNat
def acN (cs:af):Nat->Int
 |0=>0
 |n+1=>acN cs n+ceC (aU cs n 0)
structure AcP (cs:af)(i t:Int):Prop where
 e:t=acN cs i.toNat
structure OcP (os:af)(i t:Int):Prop where
 e:t=ocN os i.toNat
structure PoP (sp lg fl:af)(i t:Int):Prop where
 e:t=poN sp lg fl i.toNat
def OI {k b i:Int}{o:af}(h:AV k b i o)(i0:0<=i):(o.length:Int)<=i:=by
 rw[h.e];have:=tg (k:=k) (b:=b) i.toNat;omega
structure akE (sp:af)(i t:Int):Prop where
 e:t=scS sp i.toNat
structure akB (sp lg:af)(i t:Int):Prop where
 e:t=scS sp sp.length+lgS lg i.toNat
def ifZ (b:Bool)(x:Int):Int:=if b=true then x else 0
def zlI (es:af):Int:=es.length
end Go.V
namespace Go.V
section
variable {cs es fr sp lg: af} {p k: Int} (hl: layOk sp lg = true) (hp: pgI es fr sp lg = true) (hm: peM es p ≠ 0) (k0: 0 <= k) (k1: k < 16)
include hl hp hm k0 k1
end
structure MsP (es sp:af)(p i:Int)(o:af):Prop where
 m:MkP (mbS es sp p i.toNat) o
structure McP (es sp:af)(p i j:Int)(o:af):Prop where
 m:MkP (mkI (mbS es sp p i.toNat) (sclL (ag sp i 0) (ag sp i 1) (ag sp i 2)) j) o
structure MgP (es sp lg:af)(p i:Int)(o:af):Prop where
 m:MkP (mbG es sp lg p i.toNat) o
structure MdP (es sp lg:af)(p i j:Int)(o:af):Prop where
 m:MkP (mkJ (mbG es sp lg p i.toNat) (fun c=>lhB (ag lg i 0) (ag lg i 1) (ag lg i 2) (p*16+c)) j) o
def BP {k b:Int}:∀ n:Nat,n<=16->Rw [tI] (zM k b n)
 |0,_=>Rw.nil
 | n+1,h=>by
   have l:=tg (k:=k) (b:=b) n;unfold zM;split;exact Rw.append (BP n Uc) (OF Uc) (by unfold maxLen;simp only[Zi,Zk];omega);exact BP n Uc
def HF {p k b:Int}:Rw [tI] (sclL p k b):=by unfold sclL;split;exact BP 16 (Ze _);exact Rw.nil
end Go.V
namespace Go.V
section
variable {r0 r1 r2 r3 r4 r5 r6 r7 r8 r9 r10 r11 r12: af}
def Pz {n:Nat}(h:Ab [r0,r1,r2,r3,r4,r5,r6,r7,r8,r9,r10,r11,r12]<=n):au r0<=n/\au r1<=n/\au r2<=n/\au r3<=n/\au r4<=n/\au r5<=n/\au r6<=n/\au r7<=n/\au r8<=n/\au r9<=n/\au r10<=n/\au r11<=n/\au r12<=n:=⟨fI h (by simp),fI h (by simp),fI h (by simp),fI h (by simp),fI h (by simp),fI h (by simp),fI h (by simp),fI h (by simp),fI h (by simp),fI h (by simp),fI h (by simp),fI h (by simp),fI h (by simp)⟩
end
end Go.V
namespace Go.V
def dlT (b:af)(f:Int):Int:=ag (aU b f 0) 0 0
structure DlT (b x:af)(f:Int):Prop where
 m:mailOk b x=true
 f0:0<=f
 f1:f<b.length
 n:0<(aU b f 0).length
 t0:0<=dlT b f
 t1:dlT b f<b.length
 l:x.length=b.length
end Go.V
namespace Go.V
structure HsT (cs us es:af)(a:Int):Prop where
 a0:0<=a
 m:smM cs us es a=peM es (a/16)
 f:smF cs us es a=peF es (a/16)
 n:smM cs us es a≠0
section
variable {a0 a1 a2: af} {a3: Int} {a4 a5 a6 a7 a8 a9 aA aB: af} {aC: Int} {aD: af} {aE aF aG aH: Int} {aI: Bool} {aJ aK: Int} {aL: af} {aM aN: Int}
end
end Go.V
namespace Go.V
abbrev Pr :=Int×Int
def jnS (o:List Pr)(x:Pr):List Pr:=match o.getLast? with
 |some y=>if y.1+y.2=x.1 then o.dropLast++[(y.1,y.2+x.2)]else o++[x]
 |none=>o++[x]
structure Ip where
 o:List Pr
 r:Pr
 d:Bool
def ipS (s:Ip)(x:Pr):Ip:=
 if x.1+x.2=s.r.1 then⟨s.o,(x.1,x.2+s.r.2),s.d⟩
 else if s.r.1+s.r.2=x.1 then⟨s.o,(s.r.1,s.r.2+x.2),s.d⟩
 else if s.r.1<x.1/\s.d=false then⟨s.o++[s.r,x],s.r,true⟩
 else⟨s.o++[x],s.r,s.d⟩
def ipE (s:Ip):List Pr:=if s.d then s.o else s.o++[s.r]
def ipL (l:List Pr)(r:Pr):List Pr:=ipE (l.foldl ipS ⟨[],r,false⟩)
structure Sp where
 o:List Pr
 d:Bool
def rsS (r:Pr)(s:Sp)(x:Pr):Sp:=if s.d=false/\r.1<x.1 then⟨s.o++[r]++[x],true⟩else⟨s.o++[x],s.d⟩
def Mt:List Pr->Prop
 |[]=>True
 |[x]=>0<x.2
 |x::y::l=>0<x.2/\x.1+x.2<y.1/\Mt (y::l)
def JC {x:Pr}{l:List Pr}(h:Mt (x::l)):Mt l:=by
 cases l with
 |nil=>trivial
 |cons y l=>exact h.2.2
def Sd {x:Pr}{l:List Pr}(h:Mt (x::l)):0<x.2:=by
 cases l with
 |nil=>exact h
 |cons y l=>exact h.1
def EJ {x:Pr}:∀ {l:List Pr},Mt (x::l)->∀ y∈l,x.1+x.2<y.1
 |[],_,y,hy=>by cases hy
 | z::l,h,y,hy=>by
   rcases Zl.1 hy with rfl|hy;exact h.2.1
   ·have:=EJ h.2.2 y hy;have:=Sd h.2.2;have:=h.2.1;omega
end Go.V
namespace Go.V
structure ig (cs us es:af):Prop where
 n0:1<=cs.length
 n1:cs.length<=32
 u:us.length=cs.length
 l:∀ i:Int,0<=i->i<cs.length->(aU cs i 0).length=16
 c:∀ i k:Int,0<=i->i<cs.length->0<=k->k<16->0<=ag (aU cs i 0) k 0/\ag (aU cs i 0) k 0<=999/\(qi us i 0=false->ag (aU cs i 0) k 0=0)
 e0:1<=es.length
 e1:es.length<=32
 e:∀ i:Int,0<=i->i<es.length->0<=ag es i 0/\ag es i 0<=2/\(ag es i 0=0->ag es i 1=0)/\(0<ag es i 0->0<=ag es i 1/\ag es i 1<cs.length)
 m:∀ i:Int,0<=i->i<cs.length->qi us i 0=fL es i
def aaj {cs us es:af}(h:machOk cs us es=true):ig cs us es:=by
 obtain⟨h1,h2,h3⟩:=KG h;have a:=uk h1;have b:=Ga h2;refine⟨a.2.1,a.2.2,a.1,fun i i0 i1=>PU h1 i0 i1,fun i k i0 i1 k0 k1=>?_,b.1,b.2,fun i i0 i1=>Rc h2 i0 i1,h3⟩;have q:=h1;unfold framesOk at q;simp only[Zb,VN]at q;have r:=ez.1 q.2 i i0 i1;unfold jR at r;simp only[Zb,VN]at r;have s:=ez.1 r.2 k k0 Uc;unfold pv at s;simp only[Zb,Z5,VN]at s;have t:=ay.1 s.1;refine⟨t.1,t.2,fun f=>?_⟩;rcases s.2 with w|w
 ·rw[f]at w;cases w
 ·exact w
def aak {cs us es:af}(h:ig cs us es):machOk cs us es=true:=by
 have f:framesOk cs us=true:=E0 (i:=cs.length) (ay.2 ⟨by have:=h.n0;omega,by have:=h.n1;omega⟩) h.u (fun i i0 i1=>JZ (k:=16) (h.l i i0 i1) (fun k k0 k1=>by
  have c:=h.c i k i0 i1 k0 k1;refine JA (ay.2 ⟨c.1,c.2.1⟩) ?_;cases q:qi us i 0 with
  |true=>exact .inl rfl
  |false=>exact .inr (c.2.2 q)) (Yi _)) (Yi _)
 have t:tableOk es us.length=true:=by
  rw[Gb (i:=es.length) (fun i i0 i1=>L1 (by have:=h.e i i0 i1;rw[h.u];exact this)) (Yi _)];exact ay.2 ⟨by have:=h.e0;omega,by have:=h.e1;omega⟩
 exact Fz (i:=us.length) f t (fun i i0 i1=>KF (h.m i i0 (by rw[h.u]at i1;exact i1))) (Yi _)
def KH {es:af}{f:Int}:∀ {n:Nat},0<(ym es f n).length↔∃ i:Nat,i<n/\ag es i 0≠0/\ag es i 1=f
 |0=>⟨fun h=>absurd h (Nat.lt_irrefl _),fun⟨i,h,_⟩=>absurd h Uc⟩
 | n+1=>by
   by_cases c:ag es n 0≠0/\ag es n 1=f
   ·rw[ym,VO c,Zf];exact⟨fun _=>⟨n,Uc,c⟩,fun _=>by simp only[Zi,Zk];omega⟩
   ·rw[ym,VP c,KH (n:=n)]
    constructor
    ·rintro⟨i,h,q⟩;exact⟨i,Uc,q⟩
    ·rintro⟨i,h,q⟩;by_cases z:i=n
     ·subst z;exact absurd q c
     ·exact⟨i,Uc,q⟩
def gL {es:af}{f:Int}:fL es f=true↔∃ i:Nat,i<es.length/\ag es i 0≠0/\ag es i 1=f:=Bw.trans KH
def nu {es:af}{n i:Nat}{r:aT}(h:n<es.length):(es.set n r).getD i []=if i=n then r else es.getD i []:=by
 simp only[Zm,List.getElem?_set];by_cases c:n=i
 ·subst c;rw[VO rfl,VO h,VO rfl];rfl
 ·rw[VP c,VP (Ne.symm c)]
def P1 {es:af}{n i:Int}{r:aT}{j:Nat}(n0:0<=n)(n1:n<es.length)(i0:0<=i):ag (es.set n.toNat r) i j=if i=n then Mv (r.getD j .g)else ag es i j:=by
 unfold ag;rw[nu Uc];by_cases c:i=n
 ·rw[VO Uc,VO c]
 ·rw[VP Uc,VP c]
def gbS {es:af}{n i:Int}{r:aT}{j:Nat}(n0:0<=n)(n1:n<es.length)(i0:0<=i):qi (es.set n.toNat r) i j=if i=n then lfB (r.getD j .g)else qi es i j:=by
 unfold qi;rw[nu Uc];by_cases c:i=n
 ·rw[VO Uc,VO c]
 ·rw[VP Uc,VP c]
def gsS {es:af}{n i:Int}{r:aT}{j:Nat}(n0:0<=n)(n1:n<es.length)(i0:0<=i):aU (es.set n.toNat r) i j=if i=n then Qi (r.getD j .g)else aU es i j:=by
 unfold aU;rw[nu Uc];by_cases c:i=n
 ·rw[VO Uc,VO c]
 ·rw[VP Uc,VP c]
def Cw (es:af)(p:Int):af:=es.set p.toNat [.i 0,.i 0]
def dfU (us es:af)(f:Int):af:=if fL es f=true then us else us.set f.toNat [.v (.bool false)]
def dfC (cs es:af)(f:Int):af:=if fL es f=true then cs else cs.set f.toNat [.s 1 (FZ 16 [.i 0])]
def Nx {k:Int}(k0:0<=k)(k1:k<16):ag (FZ 16 [.i 0]) k 0=0:=by
 show ag (Zr 16 [L.i 0]) k 0=0;unfold ag;rw[Zm (l:=Zr _ _),List.getElem?_replicate,VO Uc];rfl
def PG {cs us es es':af}{f:Int}(h:ig cs us es)(f0:0<=f)(f1:f<cs.length)(l:es'.length=es.length) 
 (e:∀ i:Int,0<=i->i<es.length->0<=ag es' i 0/\ag es' i 0<=2/\(ag es' i 0=0->ag es' i 1=0)/\(0<ag es' i 0->0<=ag es' i 1/\ag es' i 1<cs.length))
 (m:∀ i:Int,0<=i->i<cs.length->i≠f->fL es' i=fL es i) (g:fL es' f=true->fL es f=true):ig (dfC cs es' f) (dfU us es' f) es':=by
 unfold dfC dfU;by_cases q:fL es' f=true
 ·rw[VO q,VO q];refine⟨h.n0,h.n1,h.u,h.l,h.c,by rw[l];exact h.e0,by rw[l];exact h.e1,fun i i0 i1=>e i i0 Uc,fun i i0 i1=>?_⟩;by_cases c:i=f
  ·rw[c,q,h.m f f0 f1,g q]
  ·rw[m i i0 i1 c];exact h.m i i0 i1
 ·have hu:=h.u;rw[VP q,VP q];refine⟨by rw[Zw];exact h.n0,by rw[Zw];exact h.n1,by rw[Zw,Zw];exact h.u,fun i i0 i1=>?_,fun i k i0 i1 k0 k1=>?_,by rw[l];exact h.e0,by rw[l];exact h.e1,fun i i0 i1=>by rw[Zw];exact e i i0 Uc,fun i i0 i1=>?_⟩
  ·rw[Zw]at i1;rw[gsS f0 f1 i0];split;rfl;exact h.l i i0 i1
  ·rw[Zw]at i1;rw[gsS f0 f1 i0,gbS f0 Uc i0];split
   ·show 0<=ag (FZ 16 [.i 0]) k 0/\ag (FZ 16 [.i 0]) k 0<=999/\(_->ag (FZ 16 [.i 0]) k 0=0);rw[Nx k0 k1];exact⟨Uc,Uc,fun _=>rfl⟩
   ·exact h.c i k i0 i1 k0 k1
  ·rw[Zw]at i1;rw[gbS f0 Uc i0];split
   ·rename_i c;subst c;show false=_;cases z:fL es' i with
    |false=>rfl
    |true=>exact absurd z q
   ·rename_i c;rw[m i i0 i1 c];exact h.m i i0 i1
def agv {cs us es:af}{p:Int}(h:ig cs us es)(hp:peM es p≠0):ig (dfC cs (Cw es p) (peF es p)) (dfU us (Cw es p) (peF es p)) (Cw es p):=by
 have pr:0<=p/\p<es.length:=by
  by_cases c:0<=p/\p<es.length;exact c;exact absurd (Dx c).1 hp
 have em:peM es p=ag es p 0:=by unfold peM;rw[VO pr]
 have ef:peF es p=ag es p 1:=by unfold peF;rw[VO pr]
 rw[em]at hp;have ep:=h.e p pr.1 pr.2;have fr:=ep.2.2.2 Uc;rw[ef];have z:∀ i:Int,0<=i->ag (Cw es p) i 0=(if i=p then 0 else ag es i 0)/\ag (Cw es p) i 1=if i=p then 0 else ag es i 1:=fun i i0=>⟨P1 pr.1 pr.2 i0,P1 pr.1 pr.2 i0⟩
 have lu:(Cw es p).length=es.length:=Zw;have mp:∀ f:Int,fL (Cw es p) f=true↔∃ i:Nat,i<es.length/\(i:Int)≠p/\ag es i 0≠0/\ag es i 1=f:=fun f=>by
  rw[gL,lu]
  constructor
  ·rintro⟨i,i1,a,b⟩;rw[(z i Uc).1]at a;rw[(z i Uc).2]at b;by_cases c:(i:Int)=p
   ·rw[VO c]at a;exact absurd rfl a
   ·rw[VP c]at a b;exact⟨i,i1,c,a,b⟩
  ·rintro⟨i,i1,c,a,b⟩;exact⟨i,i1,by rw[(z i Uc).1,VP c];exact a,by rw[(z i Uc).2,VP c];exact b⟩
 refine PG h fr.1 fr.2 lu (fun i i0 i1=>?_) (fun i i0 i1 ne=>?_) (fun q=>?_)
 ·rw[(z i i0).1,(z i i0).2];split;exact⟨Uc,Uc,fun _=>rfl,fun q=>by omega⟩;exact h.e i i0 i1
 ·rw[Xi,mp,gL]
  constructor
  ·rintro⟨i,i1,_,a,b⟩;exact⟨i,i1,a,b⟩
  ·rintro⟨k,k1,a,b⟩;refine⟨k,k1,fun c=>?_,a,b⟩;rw[c]at b;exact ne b.symm
 ·obtain⟨i,i1,_,a,b⟩:=(mp _).1 q;exact gL.2 ⟨i,i1,a,b⟩
end Go.V
namespace Go.V
def AG {es:af}{p:Int}(h:peM es p≠0):(0<=p/\p<es.length)/\peM es p=ag es p 0/\peF es p=ag es p 1:=by
 have pr:0<=p/\p<es.length:=by
  by_cases c:0<=p/\p<es.length;exact c;exact absurd (Dx c).1 h
 exact⟨pr,by unfold peM;rw[VO pr],by unfold peF;rw[VO pr]⟩
def qz (es:af)(p m f:Int):af:=es.set p.toNat [.i m,.i f]
def kU {es:af}{p m f:Int}:(qz es p m f).length=es.length:=Zw
def pV {es:af}{p m f:Int}(p0:0<=p)(p1:p<es.length)(i:Int)(i0:0<=i):ag (qz es p m f) i 0=(if i=p then m else ag es i 0)/\ag (qz es p m f) i 1=if i=p then f else ag es i 1:=⟨P1 p0 p1 i0,P1 p0 p1 i0⟩
def pW {es:af}{p m f g:Int}(p0:0<=p)(p1:p<es.length)(hm:m≠0):fL (qz es p m f) g=true↔f=g\/∃ i:Nat,i<es.length/\(i:Int)≠p/\ag es i 0≠0/\ag es i 1=g:=by
 rw[gL,kU]
 constructor
 ·rintro⟨i,i1,a,b⟩;rw[(pV p0 p1 i Uc).1]at a;rw[(pV p0 p1 i Uc).2]at b;by_cases c:(i:Int)=p
  ·rw[VO c]at b;exact .inl b
  ·rw[VP c]at a b;exact .inr ⟨i,i1,c,a,b⟩
 ·rintro(q|⟨i,i1,c,a,b⟩)
  ·obtain⟨n,rfl⟩:=ZX p0;exact⟨n,Uc,by rw[(pV p0 p1 n Uc).1,VO rfl];exact hm,by rw[(pV p0 p1 n Uc).2,VO rfl];exact q⟩
  ·exact⟨i,i1,by rw[(pV p0 p1 i Uc).1,VP c];exact a,by rw[(pV p0 p1 i Uc).2,VP c];exact b⟩
def LH {es:af}{p m f:Int}{n:Nat}(p0:0<=p)(p1:p<es.length)(hm:1<=m/\m<=2)(hf:0<=f/\f<n) 
 (e:∀ i:Int,0<=i->i<es.length->0<=ag es i 0/\ag es i 0<=2/\(ag es i 0=0->ag es i 1=0)/\(0<ag es i 0->0<=ag es i 1/\ag es i 1<n)):
 ∀ i:Int,0<=i->i<es.length->0<=ag (qz es p m f) i 0/\ag (qz es p m f) i 0<=2/\(ag (qz es p m f) i 0=0->ag (qz es p m f) i 1=0)/\(0<ag (qz es p m f) i 0->0<=ag (qz es p m f) i 1/\ag (qz es p m f) i 1<n):=fun i i0 i1=>by
 rw[(pV p0 p1 i i0).1,(pV p0 p1 i i0).2];split;exact⟨Uc,Uc,fun q=>by omega,fun _=>hf⟩;exact e i i0 i1
def aec {cs us es:af}{p f:Int}(h:ig cs us es)(p0:0<=p)(p1:p<es.length)(hp:ag es p 0=0)(f0:0<=f)(f1:f<cs.length):ig cs (us.set f.toNat [.v (.bool true)]) (qz es p 2 f):=by
 have hu:=h.u;refine⟨h.n0,h.n1,by rw[Zw];exact h.u,h.l,fun i k i0 i1 k0 k1=>?_,by rw[kU];exact h.e0,by rw[kU];exact h.e1,fun i i0 i1=>LH p0 p1 Uc ⟨f0,f1⟩ h.e i i0 (by rw[kU]at i1;exact i1),fun i i0 i1=>?_⟩
 ·have c:=h.c i k i0 i1 k0 k1;refine⟨c.1,c.2.1,fun q=>?_⟩;rw[gbS f0 Uc i0]at q;split at q
  ·cases q
  ·exact c.2.2 q
 ·rw[gbS f0 Uc i0];split
  ·rename_i c;subst c;show true=_;exact((pW p0 p1 Uc).2 (.inl rfl)).symm
  ·rename_i c;rw[h.m i i0 i1,Xi,pW p0 p1 Uc,gL]
   constructor
   ·rintro⟨k,k1,a,b⟩;refine .inr ⟨k,k1,fun q=>?_,a,b⟩;rw[q]at a;exact a hp
   ·rintro(q|⟨k,k1,_,a,b⟩);exact absurd q.symm c;exact⟨k,k1,a,b⟩
def afi {cs us es:af}{p m:Int}(h:ig cs us es)(hp:peM es p≠0)(hm:1<=m/\m<=2):ig cs us (qz es p m (peF es p)):=by
 obtain⟨pr,em,ef⟩:=AG hp;rw[em]at hp;have ep:=h.e p pr.1 pr.2;have fr:=ep.2.2.2 Uc;rw[ef];refine⟨h.n0,h.n1,h.u,h.l,h.c,by rw[kU];exact h.e0,by rw[kU];exact h.e1,fun i i0 i1=>LH pr.1 pr.2 hm fr h.e i i0 (by rw[kU]at i1;exact i1),fun i i0 i1=>?_⟩;rw[h.m i i0 i1,Xi,pW pr.1 pr.2 Uc,gL]
 constructor
 ·rintro⟨k,k1,a,b⟩;by_cases c:(k:Int)=p
  ·rw[c]at b;exact .inl b
  ·exact .inr ⟨k,k1,c,a,b⟩
 ·rintro(q|⟨k,k1,_,a,b⟩)
  ·obtain⟨n,rfl⟩:=ZX pr.1;exact⟨n,Uc,hp,q⟩
  ·exact⟨k,k1,a,b⟩
def aed {cs us es:af}{p q:Int}(h:ig cs us es)(hp:peM es p≠0)(hq:peM es q≠0)(ne:p≠q):ig (dfC cs (qz es p 2 (peF es q)) (peF es p)) (dfU us (qz es p 2 (peF es q)) (peF es p)) (qz es p 2 (peF es q)):=by
 obtain⟨pr,em,ef⟩:=AG hp;obtain⟨qr,qm,qf⟩:=AG hq;rw[em]at hp;rw[qm]at hq;have ep:=h.e p pr.1 pr.2;have eq:=h.e q qr.1 qr.2;have fp:=ep.2.2.2 Uc;have fq:=eq.2.2.2 Uc;rw[ef,qf];obtain⟨n,rfl⟩:=ZX qr.1;refine PG h fp.1 fp.2 kU (LH pr.1 pr.2 Uc fq h.e) (fun i i0 i1 nf=>?_) (fun z=>?_)
 ·rw[Xi,pW pr.1 pr.2 Uc,gL]
  constructor
  ·rintro(c|⟨k,k1,_,a,b⟩);exact⟨n,Uc,hq,c⟩;exact⟨k,k1,a,b⟩
  ·rintro⟨k,k1,a,b⟩;refine .inr ⟨k,k1,fun c=>?_,a,b⟩;rw[c]at b;exact nf b.symm
 ·rcases(pW pr.1 pr.2 Uc).1 z with c|⟨k,k1,_,a,b⟩;exact gL.2 ⟨n,Uc,hq,c⟩;exact gL.2 ⟨k,k1,a,b⟩
def LU {cs us es:af}{p f k v:Int}(h:ig cs us es)(hp:peM es p≠0)(ef':peF es p=f)(k0:0<=k)(k1:k<16)(v0:0<=v)(v1:v<=999):ig (oV cs f k v) us es:=by
 obtain⟨pr,em,ef⟩:=AG hp;rw[em]at hp;have ep:=h.e p pr.1 pr.2;have fr:=ep.2.2.2 Uc;rw[<-ef,ef']at fr;have used:qi us f 0=true:=by
  rw[h.m f fr.1 fr.2];obtain⟨n,rfl⟩:=ZX pr.1;exact gL.2 ⟨n,Uc,hp,by rw[<-ef,ef']⟩
 have lf:=h.l f fr.1 fr.2;unfold oV;refine⟨by rw[Zw];exact h.n0,by rw[Zw];exact h.n1,by rw[Zw];exact h.u,fun i i0 i1=>?_,fun i j i0 i1 j0 j1=>?_,h.e0,h.e1,fun i i0 i1=>by rw[Zw];exact h.e i i0 i1,fun i i0 i1=>by rw[Zw]at i1;exact h.m i i0 i1⟩
 ·rw[Zw]at i1;rw[gsS fr.1 fr.2 i0];split
  ·show((aU cs f 0).set k.toNat _).length=16;rw[Zw,lf]
  ·exact h.l i i0 i1
 ·rw[Zw]at i1;rw[gsS fr.1 fr.2 i0];split
  ·rename_i c;subst c;show 0<=ag ((aU cs i 0).set k.toNat [.i v]) j 0/\ag ((aU cs i 0).set k.toNat [.i v]) j 0<=999/\(_->ag ((aU cs i 0).set k.toNat [.i v]) j 0=0);rw[P1 k0 Uc j0];have c:=h.c i j i0 i1 j0 j1;split;exact⟨v0,v1,fun q=>by rw[used]at q;cases q⟩;exact c
  ·exact h.c i j i0 i1 j0 j1
end Go.V
namespace Go.V
def aki (e:aT):Pr:=(Mv (e.getD 0 .g),Mv (e.getD 1 .g))
def rP (es:af):List Pr:=es.map aki
def frP (p:Pr):aT:=[.i p.1,.i p.2]
def rowP (l:List Pr):af:=l.map frP
def qC {es:af}:(rP es).length=es.length:=YS _
def Lv {l:List Pr}:(rowP l).length=l.length:=YS _
def kI {es:af}{i:Int}(i0:0<=i)(i1:i<es.length):(rP es)[i.toNat]?=some (ag es i 0,ag es i 1):=by
 unfold rP ag;rw[List.getElem?_map,Zm (l:=es),Zt Uc];rfl
def O8 {es:af}{x:Pr}(h:x∈rP es):∃ i:Nat,i<es.length/\x=(ag es i 0,ag es i 1):=by
 obtain⟨i,hi,e⟩:=Wj h;rw[qC]at hi;refine⟨i,hi,?_⟩;have q:=kI (es:=es) (i:=(i:Int)) Uc Uc;rw[ZJ,Zt (by rw[qC];exact hi)]at q;rw[<-e];exact YB q
def Hz {l:List Pr}(h:∀ x∈l,(-9223372036854775808<=x.1/\x.1<=9223372036854775807)/\(-9223372036854775808<=x.2/\x.2<=9223372036854775807))(n:l.length<=maxLen):Rw [tI,tI] (rowP l):=⟨by rw[Lv];exact n,fun e he=>by
 obtain⟨x,hx,rfl⟩:=List.mem_map.1 he;exact⟨⟨rfl,(h x hx).1⟩,⟨rfl,(h x hx).2⟩,trivial⟩⟩
def yz {a b:List Pr}:rowP (a++b)=rowP a++rowP b:=List.map_append
def JB:∀ {l:List Pr},(∀ x∈l,0<x.2)->(∀ i:Nat,i+1<l.length->∀ x y,l[i]?=some x->l[i+1]?=some y->x.1+x.2<y.1)->Mt l
 |[],_,_=>trivial
 |[x],h,_=>h x (by simp)
 |x::y::l,h,g=>⟨h x (by simp),g 0 (by simp) x y rfl rfl,JB (fun z hz=>h z (by simp[hz])) (fun i hi a b ha hb=>g (i+1) (by simp at hi ⊢;omega) a b (by simpa using ha) (by simpa using hb))⟩
structure MI (n:Int)(rs:af):Prop where
 n0:1<=n
 n1:n<=32
 c:Mt (rP rs)
 b:∀ x∈rP rs,0<=x.1/\1<=x.2/\x.1+x.2<=n
def yv {n:Int}{rs:af}(h:rgOk n rs=true):MI n rs:=by
 unfold rgOk at h;rw[Zb]at h;obtain⟨h1,h2⟩:=h;have r:=ay.1 h2;have at':∀ i:Int,0<=i->i<rs.length->(0<=ag rs i 0/\1<=ag rs i 1/\ag rs i 0+ag rs i 1<=n)/\(0<i->¬ ag rs i 0<=bQ .add Za (ag rs (i-1) 0) (ag rs (i-1) 1)):=fun i i0 i1=>by
  have a:=ez.1 h1 i i0 i1;unfold yw at a;simp only[Zb,Bool.not_eq_true',Bool.and_eq_false_iff,decide_eq_false_iff_not]at a;have b:=a.1;unfold rngIn at b;simp only[Zb]at b;have b1:=ay.1 b.1;have b2:=ay.1 b.2;refine⟨Uc,fun p=>?_⟩;rcases a.2 with q|q;exact absurd p q;exact q
 have bd:∀ x∈rP rs,0<=x.1/\1<=x.2/\x.1+x.2<=n:=fun x hx=>by
  obtain⟨i,hi,rfl⟩:=O8 hx;exact(at' i Uc Uc).1
 refine⟨r.1,r.2,JB (fun x hx=>by have:=(bd x hx).2.1;omega) (fun i hi x y hx hy=>?_),bd⟩;rw[qC]at hi;have qx:=kI (es:=rs) (i:=(i:Int)) Uc Uc;have qy:=kI (es:=rs) (i:=((i+1:Nat):Int)) Uc Uc;rw[ZJ]at qx qy;rw[hx]at qx;rw[hy]at qy;cases qx;cases qy;have a:=(at' ((i+1:Nat):Int) Uc Uc).2 Uc;have b:=(at' (i:Int) Uc Uc).1;rw[show((i+1:Nat):Int)-1=(i:Int)by omega,b8 Uc]at a;show ag rs i 0+ag rs i 1<_;omega
def FK (x r:Pr):Bool:=decide (x.1<r.1+r.2)&&decide (r.1<x.1+x.2)
def rpB (n:Int)(rs:af)(a l:Int):Bool:=rgOk n rs&&(rngIn n a l&&(rP rs).all fun x=> !FK x (a,l))
def rpL (n:Int)(rs:af)(a l:Int):af:=if rpB n rs a l=true then rowP (ipL (rP rs) (a,l))else rs
structure Ez (rs:af)(a0 l0 i:Int)(o:af)(a l:Int)(d:Bool):Prop where
 s:∃ o',o=rowP o'/\((rP rs).take i.toNat).foldl ipS ⟨[],(a0,l0),false⟩=⟨o',(a,l),d⟩
 n:∀ x∈(rP rs).take i.toNat,FK x (a0,l0)=false
 v:∀ x∈(rP rs).drop i.toNat,FK x (a,l)=FK x (a0,l0)
 b:0<=a/\1<=l/\a+l<=32
end Go.V
namespace Go.V
def CO:∀ {l:List Pr} {i:Nat} {y:Pr},Mt l->l[i]?=some y->∀ x∈l.drop (i+1),y.1+y.2<x.1
 |[],i,y,_,h=>by simp at h
 | z::l,0,y,c,h=>by
   simp at h;subst h;intro x hx;exact EJ c x (by simpa using hx)
 | z::l,i+1,y,c,h=>by
   intro x hx;exact CO (JC c) (by simpa using h) x (by simpa using hx)
def take_at {l:List Pr}{i:Int}{y:Pr}(i0:0<=i)(h:l[i.toNat]?=some y):l.take (i+1).toNat=l.take i.toNat++[y]:=by
 rw[show(i+1).toNat=i.toNat+1 by omega,List.take_add_one,h];rfl
def drop_at {l:List Pr}{i:Int}{y:Pr}(i0:0<=i)(h:l[i.toNat]?=some y):l.drop i.toNat=y::l.drop (i+1).toNat:=by
 rw[show(i+1).toNat=i.toNat+1 by omega];obtain⟨h1,h2⟩:=List.getElem?_eq_some_iff.1 h;rw[WR h1,h2]
def FM {x r:Pr}:FK x r=true↔x.1<r.1+r.2/\r.1<x.1+x.2:=by unfold FK;rw[Zb,VN,VN]
section
variable {n: Int} {rs: af} {a0 l0 i: Int} {o: af} {a l: Int} {d: Bool}
def QO (b:0<=a0/\1<=l0/\a0+l0<=32):Ez rs a0 l0 0 [] a0 l0 false:=⟨⟨[],rfl,rfl⟩,fun x hx=>by simp at hx,fun _ _=>rfl,b⟩
def abf (T:MI n rs)(h:Ez rs a0 l0 i o a l d)(i0:0<=i)(i1:i<rs.length)(x1:ag rs i 0<a+l)(x2:a<ag rs i 0+ag rs i 1):rpB n rs a0 l0=false:=by
 have e:=kI (es:=rs) i0 i1;have m:(ag rs i 0,ag rs i 1)∈(rP rs).drop i.toNat:=by rw[drop_at i0 e];simp
 have v:=h.v _ m;rw[FM.2 ⟨x1,x2⟩]at v;unfold rpB;have:((rP rs).all fun x=> !FK x (a0,l0))=false:=by
  rw[List.all_eq_false];exact⟨_,Yq m,by rw[<-v];simp⟩
 rw[this];simp
def HD (T:MI n rs)(h:Ez rs a0 l0 i o a l d)(i0:0<=i)(i1:i<rs.length)(nov:¬ (ag rs i 0<a+l/\a<ag rs i 0+ag rs i 1)):
 (∀ x∈(rP rs).take (i+1).toNat,FK x (a0,l0)=false)/\(∀ x∈(rP rs).drop (i+1).toNat,ag rs i 0+ag rs i 1<x.1/\1<=x.2/\FK x (a,l)=FK x (a0,l0))/\(0<=ag rs i 0/\1<=ag rs i 1/\ag rs i 0+ag rs i 1<=32):=by
 have e:=kI (es:=rs) i0 i1;have m:(ag rs i 0,ag rs i 1)∈(rP rs).drop i.toNat:=by rw[drop_at i0 e];simp
 have v:=h.v _ m;have b:=T.b _ (Yq m);have:=T.n1;refine⟨fun x hx=>?_,fun x hx=>?_,⟨b.1,b.2.1,by have:=b.2.2;omega⟩⟩
 ·rw[take_at i0 e]at hx;rcases Zh.1 hx with q|q;exact h.n x q
  ·rw[Yb]at q;rw[q, <-v];cases z:FK (ag rs i 0,ag rs i 1) (a,l)with
   |false=>rfl
   |true=>exact absurd (FM.1 z) nov
 ·have c:=CO T.c e x (by rw[show(i+1).toNat=i.toNat+1 by omega]at hx;exact hx);have p:=T.b x (Yq hx);exact⟨c,p.2.1,h.v x (by rw[drop_at i0 e];exact List.mem_cons_of_mem _ hx)⟩
def QP (T:MI n rs)(h:Ez rs a0 l0 i o a l d)(i0:0<=i)(i1:i<rs.length)(nov:¬ (ag rs i 0<a+l/\a<ag rs i 0+ag rs i 1))(q:ag rs i 0+ag rs i 1=a):Ez rs a0 l0 (i+1) o (ag rs i 0) (ag rs i 1+l) d:=by
 have e:=kI (es:=rs) i0 i1;obtain⟨h1,h2,h3⟩:=HD T h i0 i1 nov;obtain⟨o',eo,es⟩:=h.s;have hb:=h.b;refine⟨⟨o',eo,?_⟩,h1,fun x hx=>?_,Uc⟩
 ·rw[take_at i0 e,XQ,es,Y3,Xx];unfold ipS;rw[VO (by exact q)]
 ·obtain⟨c1,c2,c3⟩:=h2 x hx;rw[<-c3,Xi,FM,FM]
  constructor<;>rintro⟨u,w⟩<;>constructor<;>(simp only at*;omega)
def QQ (T:MI n rs)(h:Ez rs a0 l0 i o a l d)(i0:0<=i)(i1:i<rs.length)(nov:¬ (ag rs i 0<a+l/\a<ag rs i 0+ag rs i 1))(p:ag rs i 0+ag rs i 1≠a)(q:a+l=ag rs i 0):Ez rs a0 l0 (i+1) o a (l+ag rs i 1) d:=by
 have e:=kI (es:=rs) i0 i1;obtain⟨h1,h2,h3⟩:=HD T h i0 i1 nov;obtain⟨o',eo,es⟩:=h.s;have hb:=h.b;refine⟨⟨o',eo,?_⟩,h1,fun x hx=>?_,Uc⟩
 ·rw[take_at i0 e,XQ,es,Y3,Xx];unfold ipS;rw[VP (by exact p),VO (by exact q)]
 ·obtain⟨c1,c2,c3⟩:=h2 x hx;rw[<-c3,Xi,FM,FM]
  constructor<;>rintro⟨u,w⟩<;>constructor<;>(simp only at*;omega)
def QR (T:MI n rs)(h:Ez rs a0 l0 i o a l d)(i0:0<=i)(i1:i<rs.length)(nov:¬ (ag rs i 0<a+l/\a<ag rs i 0+ag rs i 1))(p:ag rs i 0+ag rs i 1≠a)(q:a+l≠ag rs i 0)(c:a<ag rs i 0)(hd:d=false):
 Ez rs a0 l0 (i+1) (o++[[.i a,.i l],[.i (ag rs i 0),.i (ag rs i 1)]]) a l true:=by
 have e:=kI (es:=rs) i0 i1;obtain⟨h1,h2,h3⟩:=HD T h i0 i1 nov;obtain⟨o',eo,es⟩:=h.s;refine⟨⟨o'++[(a,l),(ag rs i 0,ag rs i 1)],by rw[yz,eo];rfl,?_⟩,h1,fun x hx=>(h2 x hx).2.2,h.b⟩;rw[take_at i0 e,XQ,es,Y3,Xx];unfold ipS;rw[VP (by exact p),VP (by exact q),VO (by exact⟨c,hd⟩)]
def LA (T:MI n rs)(h:Ez rs a0 l0 i o a l d)(i0:0<=i)(i1:i<rs.length)(nov:¬ (ag rs i 0<a+l/\a<ag rs i 0+ag rs i 1))(p:ag rs i 0+ag rs i 1≠a)(q:a+l≠ag rs i 0)(c:¬ (a<ag rs i 0/\d=false)):
 Ez rs a0 l0 (i+1) (o++[[.i (ag rs i 0),.i (ag rs i 1)]]) a l d:=by
 have e:=kI (es:=rs) i0 i1;obtain⟨h1,h2,h3⟩:=HD T h i0 i1 nov;obtain⟨o',eo,es⟩:=h.s;refine⟨⟨o'++[(ag rs i 0,ag rs i 1)],by rw[yz,eo];rfl,?_⟩,h1,fun x hx=>(h2 x hx).2.2,h.b⟩;rw[take_at i0 e,XQ,es,Y3,Xx];unfold ipS;rw[VP (by exact p),VP (by exact q),VP (by exact c)]
def ajP (h:rgOk n rs=true)(g:rngIn n a0 l0=true)(nov:∀ x∈rP rs,FK x (a0,l0)=false):rpB n rs a0 l0=true/\rpL n rs a0 l0=rowP (ipL (rP rs) (a0,l0)):=by
 have e:rpB n rs a0 l0=true:=by
  unfold rpB;rw[h,g];simp only[Yz,Z7];intro x hx;rw[nov x hx];rfl
 exact⟨e,by unfold rpL;rw[VO e]⟩
def Ly (h:rpB n rs a0 l0=false):rpL n rs a0 l0=rs:=by unfold rpL;rw[h];rfl
def HC (hr:rgOk n rs=true)(g:rngIn n a0 l0=true)(h:Ez rs a0 l0 i o a l d)(i1:(rs.length:Int)<=i):rpB n rs a0 l0=true/\rpL n rs a0 l0=if d=true then o else o++[[.i a,.i l]]:=by
 have tk:(rP rs).take i.toNat=rP rs:=List.take_of_length_le (by rw[qC];omega);have hn:=h.n;obtain⟨o',eo,es⟩:=h.s;rw[tk]at hn es;obtain⟨e1,e2⟩:=ajP hr g hn;refine⟨e1,?_⟩;rw[e2];unfold ipL;rw[es,eo];unfold ipE;cases d with
 |true=>rfl
 |false=>rw[VP (by simp),VP (by simp),yz];rfl
structure akC (rs:af)(a0 l0 i:Int)(o:af)(d:Bool):Prop where
 s:∃ o',o=rowP o'/\((rP rs).take i.toNat).foldl (rsS (a0,l0)) ⟨[],false⟩=⟨o',d⟩
 n:∀ x∈(rP rs).take i.toNat,FK x (a0,l0)=false
 m:o.length<=2*i.toNat
end
end Go.V
namespace Go.V
def agy {o:af}{n:Int}{x:Value}(h:Rw [tI,tI] o)(n0:0<=n)(n1:n<o.length):jL (.s 2 o) [(n.toNat,1)] [.v x]=o.set n.toNat [.i (ag o n 0),.v x]:=by
 show o.set n.toNat ((o.getD n.toNat []).take 1++[.v x]++(o.getD n.toNat []).drop (1+1))=_;rw[h.eta n0 n1];rfl
def Rf {o:af}{n:Int}{x:Value}(h:Rw [tI,tI] o)(n0:0<=n)(n1:n<o.length):jL (.s 2 o) [(n.toNat,0)] [.v x]=o.set n.toNat [.v x,.i (ag o n 1)]:=by
 show o.set n.toNat ((o.getD n.toNat []).take 0++[.v x]++(o.getD n.toNat []).drop (0+1))=_;rw[h.eta n0 n1];rfl
def abt {o:af}{n:Int}{j:Nat}(h:Rw [tI,tI] o)(n0:0<=n)(n1:n<o.length)(hj:j<2):∃ rec o',bZ (.s 2 o) [(n.toNat,j)]=some (rec,o')/\o'+1<=rec.length:=fC Uc (by
 rw[h.eta n0 n1];show j+1<=2;omega)
def Fq {o:af}{n:Int}{j:Nat}(h:Rw [tI,tI] o)(n0:0<=n)(n1:n<o.length)(hj:j<2):∃ rec o',bZ (L.s 2 o) [(n.toNat,j)]=some (rec,o')/\o'+[L.v (Zn Zy 0)].length<=rec.length/\Yh [L.v (Zn Zy 0)].length (Yy o' rec)=kP aj (L.s 2 o) [(n.toNat,j)] 0 [L.v (Zn Zy 0)]:=by
 rcases(show j=0\/j=1 by omega)with rfl|rfl
 ·exact fv (z0:=[.i 0,.i 0]) (z:=[.i 0]) h.wf Uc rfl (by decide)
 ·exact fv (z0:=[.i 0,.i 0]) (z:=[.i 0]) h.wf Uc rfl (by decide)
def dY {l:af}{sz j:Nat}{i:Int}(h0:0<=i):zq (.s sz l) [(i.toNat,j)]=ag l i j:=by
 rw[BH];unfold ag;rw[ZJ]
structure JnP (rs:af)(i:Int)(o:af):Prop where
 s:o=rowP (((rP rs).take i.toNat).foldl jnS [])
 l:o.length<=i.toNat
section
variable {rs o: af} {i: Int}
end
end Go.V
namespace Go.V
def IY (rs:af)(n:Int):Nat->Int
 |0=> -1
 |k+1=>if n<=ag rs k 1/\(IY rs n k<0\/ag rs k 1<ag rs (IY rs n k) 1)then k else IY rs n k
def eh (rs:af)(n:Int):Int:=IY rs n rs.length
def Jw {rs:af}{n:Int}:∀ k:Nat,-1<=IY rs n k/\IY rs n k<k/\(0<=IY rs n k->n<=ag rs (IY rs n k) 1)
 |0=>⟨Yi _,by show(-1:Int)<0;omega,fun h=>absurd h (by show¬ (0:Int)<= -1;omega)⟩
 | k+1=>by
   have h:=Jw (rs:=rs) (n:=n) k;unfold IY;split
   ·rename_i c;exact⟨Uc,Uc,fun _=>c.1⟩
   ·exact⟨h.1,Uc,h.2.2⟩
structure ME (rs:af)(n i b:Int):Prop where
 e:b=IY rs n i.toNat
section
variable {rs: af} {n i b: Int}
def ab4:ME rs n 0 (-1):=⟨rfl⟩
def ab7 (h:ME rs n i b)(i0:0<=i): -1<=b/\b<i\/(i=0/\b= -1):=by
 have q:=Jw (rs:=rs) (n:=n) i.toNat;rw[<-h.e]at q;omega
def ab5 (h:ME rs n i b)(i0:0<=i)(c:n<=ag rs i 1)(d:b<0\/ag rs i 1<ag rs b 1):ME rs n (i+1) i:=⟨by
 rw[show(i+1).toNat=i.toNat+1 by omega,IY,Zj i0, <-h.e,VO ⟨c,d⟩]⟩
def ab6 (h:ME rs n i b)(i0:0<=i)(c:¬ (n<=ag rs i 1/\(b<0\/ag rs i 1<ag rs b 1))):ME rs n (i+1) b:=⟨by
 rw[show(i+1).toNat=i.toNat+1 by omega,IY,Zj i0, <-h.e,VP c]⟩
def MR (h:ME rs n i b)(i1:i<=rs.length)(i2:(rs.length:Int)<=i):b=eh rs n:=by
 rw[h.e];unfold eh;rw[show i.toNat=rs.length by omega]
end
def tkB (p:Int)(rs:af)(n:Int):Bool:=rgOk p rs&&(decide (1<=n)&&decide (0<=eh rs n))
def zH (rs:af)(b:Int):af:=rs.take b.toNat++rs.drop (b+1).toNat
def tkL (p:Int)(rs:af)(n:Int):af:=if tkB p rs n=true then(if ag rs (eh rs n) 1=n then zH rs (eh rs n)else rs.set (eh rs n).toNat [.i (ag rs (eh rs n) 0+n),.i (ag rs (eh rs n) 1-n)])else rs
def tkA (p:Int)(rs:af)(n:Int):Int:=if tkB p rs n=true then ag rs (eh rs n) 0 else-1
def O6 {p n:Int}{rs:af}(h:tkB p rs n=false):tkL p rs n=rs/\tkA p rs n= -1:=by unfold tkL tkA;rw[h];exact⟨rfl,rfl⟩
def abx {p n:Int}{rs:af}(h:rgOk p rs=false):tkB p rs n=false:=by unfold tkB;rw[h];rfl
def aby {p n:Int}{rs:af}(h:n<1):tkB p rs n=false:=by unfold tkB;rw[VM Uc];simp
def abz {p n:Int}{rs:af}(h:eh rs n<0):tkB p rs n=false:=by unfold tkB;rw[VM (p:=0<=eh rs n) Uc];simp
def akf {p n:Int}{rs:af}(h:rgOk p rs=true)(g:1<=n)(b:0<=eh rs n):tkB p rs n=true:=by unfold tkB;rw[h,VL g,VL b];rfl
def agl {p n:Int}{rs:af}(h:tkB p rs n=true)(e:ag rs (eh rs n) 1=n):tkL p rs n=zH rs (eh rs n)/\tkA p rs n=ag rs (eh rs n) 0:=by
 unfold tkL tkA;rw[VO h,VO h,VO e];exact⟨rfl,rfl⟩
def agm {p n:Int}{rs:af}(h:tkB p rs n=true)(e:ag rs (eh rs n) 1≠n):tkL p rs n=rs.set (eh rs n).toNat [.i (ag rs (eh rs n) 0+n),.i (ag rs (eh rs n) 1-n)]/\tkA p rs n=ag rs (eh rs n) 0:=by
 unfold tkL tkA;rw[VO h,VO h,VP e];exact⟨rfl,rfl⟩
structure TkT (p:Int)(rs:af)(n:Int):Prop where
 i0:0<=eh rs n
 i1:eh rs n<rs.length
 n0:1<=n
 a0:0<=ag rs (eh rs n) 0
 l0:n<=ag rs (eh rs n) 1
 e:ag rs (eh rs n) 0+ag rs (eh rs n) 1<=p
 p0:p<=32
def BY {p n:Int}{rs:af}(h:tkB p rs n=true):TkT p rs n:=by
 unfold tkB at h;simp only[Zb,VN]at h;obtain⟨h1,h2,h3⟩:=h;have T:=yv h1;have b:=Jw (rs:=rs) (n:=n) rs.length;change-1<=eh rs n/\eh rs n<rs.length/\(0<=eh rs n->n<=ag rs (eh rs n) 1)at b;have t:=T.b _ (List.mem_of_getElem? (kI (es:=rs) h3 b.2.1));exact⟨h3,b.2.1,h2,t.1,b.2.2 h3,t.2.2,T.n1⟩
def Nh {rs:af}{b:Int}{r:aT}(b0:0<=b):zH (rs.set b.toNat r) b=zH rs b:=by
 unfold zH;rw[List.take_set_of_le (Ze _),show(b+1).toNat=b.toNat+1 by omega,List.drop_set_of_lt Uc]
def Sn {fs:List Ty}{rs:af}{b:Int}(h:Rw fs rs)(b0:0<=b):Rw fs (zH rs b)/\(zH rs b).length<=rs.length:=by
 have l:(zH rs b).length<=rs.length:=by
  unfold zH;rw[Zf,Zg,Zq];omega
 refine⟨⟨ZH l h.1,fun e he=>?_⟩,l⟩;rcases Zh.1 he with q|q;exact h.2 e (Y4 q);exact h.2 e (Yq q)
def agn {p n:Int}{rs:af}(h:Rw [tI,tI] rs):Rw [tI,tI] (tkL p rs n)/\(tkL p rs n).length<=rs.length:=by
 cases c:tkB p rs n with
 |false=>rw[(O6 c).1];exact⟨h,Ze _⟩
 | true=>
   have T:=BY c;have T1:=T.a0;have T2:=T.l0;have T3:=T.e;have T4:=T.p0;have T5:=T.n0;by_cases e:ag rs (eh rs n) 1=n
   ·rw[(agl c e).1];exact Sn h T.i0
   ·rw[(agm c e).1,Zw];exact⟨Rw.set h (show bV [tI,tI] [.i (ag rs (eh rs n) 0+n),.i (ag rs (eh rs n) 1-n)]from⟨⟨rfl,show-9223372036854775808<=_/\_<=9223372036854775807 from by omega⟩,⟨rfl,show-9223372036854775808<=_/\_<=9223372036854775807 from by omega⟩,trivial⟩) _,Ze _⟩
end Go.V
namespace Go.V
def C7 (b:Int):Nat->af
 |0=>[]
 |k+1=>if hsB b k=true then C7 b k else C7 b k++[[.i k]]
def frL (n b:Int):af:=if bmOk n b=true then C7 b n.toNat else[]
def ww {b:Int}:∀ k:Nat,(C7 b k).length<=k
 |0=>Ze _
 | k+1=>by
   have:=ww (b:=b) k;unfold C7;split;omega
   ·rw[Zf];show _+1<=_;omega
structure Mr (b i:Int)(o:af):Prop where
 e:o=C7 b i.toNat
def acV {b:Int}:Mr b 0 []:=⟨rfl⟩
def acW {b i:Int}{o:af}(h:Mr b i o)(i0:0<=i)(g:hsB b i=true):Mr b (i+1) o:=⟨by
 rw[h.e,show(i+1).toNat=i.toNat+1 by omega,C7,Zj i0,VO g]⟩
def acX {b i:Int}{o:af}(h:Mr b i o)(i0:0<=i)(g:hsB b i=false):Mr b (i+1) (o++[[.i i]]):=⟨by
 rw[h.e,show(i+1).toNat=i.toNat+1 by omega,C7,Zj i0,g];rfl⟩
def Nr {b i:Int}{o:af}(h:Mr b i o)(i0:0<=i):(o.length:Int)<=i:=by
 have:=ww (b:=b) i.toNat;rw[<-h.e]at this;omega
def ahJ {n b:Int}(h:bmOk n b=false):frL n b=[]:=by unfold frL;rw[h];rfl
def Nq {b n i:Int}{o:af}(h:Mr b i o)(g:bmOk n b=true)(i0:i<=n)(i1:n<=i):o=frL n b:=by
 rw[h.e];unfold frL;rw[VO g,show i.toNat=n.toNat by omega]
def Bj {b:Int}:∀ k:Nat,k<=1024->Rw [tI] (C7 b k)
 |0,_=>Rw.nil
 | k+1,h=>by
   have l:=ww (b:=b) k;unfold C7;split;exact Bj k Uc;exact Rw.append (Bj k Uc) (OF Uc) (by unfold maxLen;simp only[Zi,Zk];omega)
end Go.V
namespace Go.V
def clB (ls:af)(k:Int):Bool:=inR k 0 3&&caOk ls
def ctB (ls:af)(k:Int):Bool:=clB ls k&&decide (0<(aU ls k 0).length)
def ctL (ls:af)(k:Int):af:=if ctB ls k=true then ls.set k.toNat [.s 1 ((aU ls k 0).take ((aU ls k 0).length-1))]else ls
def ctA (ls:af)(k:Int):Int:=if ctB ls k=true then ag (aU ls k 0) ((aU ls k 0).length-1) 0 else-1
def Ag (ls:af)(k a:Int):af:=ls.set k.toNat [.s 1 (aU ls k 0++[[.i a]])]
def qK (ls:af)(k a:Int):Bool:=clB ls k&&caOk (Ag ls k a)
def H0 (ls:af)(k a:Int):af:=if qK ls k a=true then Ag ls k a else ls
def czN (ls:af)(k n:Int):Nat:=min n.toNat (aU ls k 0).length
def clO (ls:af)(k n:Int):Bool:=clB ls k&&decide (1<=n)
def clK (ls:af)(k n:Int):af:=if clO ls k n=true then ls.set k.toNat [.s 1 ((aU ls k 0).drop (czN ls k n))]else ls
def aco {ls:af}{k:Int}(h:ctB ls k=false):ctL ls k=ls/\ctA ls k= -1:=by unfold ctL ctA;rw[h];exact⟨rfl,rfl⟩
def acq {ls:af}{k:Int}(h:ctB ls k=true):ctL ls k=ls.set k.toNat [.s 1 ((aU ls k 0).take ((aU ls k 0).length-1))]/\ctA ls k=ag (aU ls k 0) ((aU ls k 0).length-1) 0:=by unfold ctL ctA;rw[VO h,VO h];exact⟨rfl,rfl⟩
def zZ {ls:af}{k:Int}(h:clB ls k=true):0<=k/\k<4/\ls.length=4/\(aU ls k 0).length<=8:=by
 unfold clB at h;rw[Zb]at h;have r:=ay.1 h.1;have c:=ab8 h.2;have d:=c.2 k.toNat Uc;rw[Zj r.1]at d;exact⟨r.1,Uc,c.1,d⟩
def LL {ls r:af}{k:Nat}(h:Rw [.sl [tI]] ls)(g:Rw [tI] r):Rw [.sl [tI]] (ls.set k [.s 1 r]):=Rw.set h (show bV [.sl [tI]] [.s 1 r]from⟨⟨rfl,g⟩,trivial⟩) _
def OM {ls r:af}{k:Nat}:au (ls.set k [.s 1 r])<=au ls+au r:=by
 have s:=xG (es:=ls) (n:=k) (e:=[.s 1 r]);have e:gV [.s 1 r]=au r:=by simp only[gV,xH,au];omega
 omega
def Sj {ls:af}{k:Int}(h:Rw [.sl [tI]] ls)(g:clB ls k=true):Rw [tI] (aU ls k 0):=by
 have c:=zZ g;exact Rw.sub (fs:=[.sl [tI]]) (j:=0) (i:=k) h Uc rfl
def acj {ls:af}{k a:Int}(h:qK ls k a=false):H0 ls k a=ls:=by unfold H0;rw[h];rfl
def ack {ls:af}{k a:Int}(h:qK ls k a=true):H0 ls k a=Ag ls k a:=by unfold H0;rw[VO h]
def PF {ls:af}{k a:Int}(h:Rw [.sl [tI]] ls)(g:clB ls k=true)(ha: -9223372036854775808<=a/\a<=9223372036854775807):Rw [.sl [tI]] (Ag ls k a)/\au (Ag ls k a)<=2*au ls+4:=by
 have c:=zZ g;have q:=Sj h g;have s:=OM (ls:=ls) (k:=k.toNat) (r:=aU ls k 0++[[.i a]]);have e:=CR (a:=aU ls k 0) (b:=[[.i a]]);have o:au [[L.i a]]<=4:=by simp[au,cZ,gV,xH]
 have d:=jG (es:=ls) (i:=k) (j:=0);exact⟨LL h (Rw.append q (OF ha) (by unfold maxLen;simp only[Zi,Zk];omega)),by unfold Ag;omega⟩
end Go.V
namespace Go.V
def Hr:af->Int->Nat
 |[],_=>0
 |e::l,r=>if qcI (e::l)<=r then 0 else Hr l r+1
def QF:∀ {l:af} {r:Int} {n:Nat},n<Hr l r->r<qcI (l.drop n)
 |[],r,n,h=>absurd h (by show¬ n<0;omega)
 | e::l,r,n,h=>by
   unfold Hr at h;split at h
   ·omega
   ·rename_i c;cases n with
    |zero=>rw[YH];omega
    |succ n=>rw[XR];exact QF Uc
def QE:∀ {l:af} {r:Int},0<=r->qcI (l.drop (Hr l r))<=r
 |[],r,h=>h
 | e::l,r,h=>by
   unfold Hr;split
   ·rename_i c;rw[YH];exact c
   ·rw[XR];exact QE h
def FW:∀ {l:af} {r:Int},Hr l r<=l.length
 |[],r=>Ze _
 | e::l,r=>by
   have:=FW (l:=l) (r:=r);unfold Hr;split;exact Zv _
   ·rw[Zi];omega
structure RL (l:af)(r i:Int):Prop where
 e:i.toNat<=Hr l r
section
variable {l: af} {r i: Int}
def afo:RL l r 0:=⟨Zv _⟩
def afp (h:RL l r i)(i0:0<=i):i<=l.length:=by have:=h.e;have:=FW (l:=l) (r:=r);omega
def aa2 (h:RL l r i)(i0:0<=i)(r0:0<=r)(g:r<qcI (l.drop i.toNat)):RL l r (i+1)/\i<l.length:=by
 have e:=h.e;have ne:i.toNat≠Hr l r:=fun q=>by
  have:=QE (l:=l) r0;rw[<-q]at this;omega
 have:=FW (l:=l) (r:=r);exact⟨⟨Uc⟩,Uc⟩
def Ow (h:RL l r i)(g:qcI (l.drop i.toNat)<=r):i.toNat=Hr l r:=by
 have e:=h.e;rcases WS e with q|q
 ·have:=QF q;omega
 ·exact q
end
def DT (a c s:Int):aT:=[.i a,.i c,.i s]
def Iy (rm:Int)(qs:af)(a c s:Int):Bool:=quarOk rm qs&&stlOk qs a c s
def qaL (rm:Int)(qs:af)(a c s:Int):af:=if Iy rm qs a c s=true then(qs++[DT a c s]).drop (Hr (qs++[DT a c s]) rm)else qs
def qaR (rm:Int)(qs:af)(a c s:Int):af:=if Iy rm qs a c s=true then(qs++[DT a c s]).take (Hr (qs++[DT a c s]) rm)else[]
def Lk {rm:Int}{qs:af}{a c s:Int}(h:Iy rm qs a c s=false):qaL rm qs a c s=qs/\qaR rm qs a c s=[]:=by unfold qaL qaR;rw[h];exact⟨rfl,rfl⟩
def Ov {rm:Int}{qs:af}{a c s:Int}(h:Iy rm qs a c s=true):qaL rm qs a c s=(qs++[DT a c s]).drop (Hr (qs++[DT a c s]) rm)/\qaR rm qs a c s=(qs++[DT a c s]).take (Hr (qs++[DT a c s]) rm):=by unfold qaL qaR;rw[VO h,VO h];exact⟨rfl,rfl⟩
def FX:af->Int->Nat
 |[],_=>0
 |e::l,t=>if Mv (e.getD 2 .g)<t then FX l t+1 else 0
def Ll:∀ {l:af} {t:Int},FX l t<=l.length
 |[],t=>Ze _
 | e::l,t=>by
   have:=Ll (l:=l) (t:=t);unfold FX;split
   ·rw[Zi];omega
   ·exact Zv _
def QH:∀ {l:af} {t:Int} {n:Nat},n<FX l t->ag l n 2<t
 |[],t,n,h=>absurd h (by show¬ n<0;omega)
 | e::l,t,n,h=>by
   unfold FX at h;split at h
   ·rename_i c;cases n with
    |zero=>exact c
    |succ n=>exact QH (l:=l) (t:=t) (n:=n) Uc
   ·omega
def QG:∀ {l:af} {t:Int},FX l t<l.length->t<=ag l (FX l t) 2
 |[],t,h=>absurd h (Nat.not_lt_zero _)
 | e::l,t,h=>by
   unfold FX at h ⊢;split
   ·rename_i c;rw[VO c]at h;exact QG (l:=l) (t:=t) (by simpa using h)
   ·rename_i c;show t<=Mv (e.getD 2 .g);omega
structure QeP (l:af)(t i:Int):Prop where
 e:i.toNat<=FX l t
section
variable {l: af} {t i: Int}
def aft:QeP l t 0:=⟨Zv _⟩
def aa4 (h:QeP l t i)(i0:0<=i)(i1:i<l.length)(g:ag l i 2<t):QeP l t (i+1):=by
 have e:=h.e;have ne:i.toNat≠FX l t:=fun q=>by
  have:=QG (l:=l) (t:=t) Uc;rw[<-q,Zj i0]at this;omega
 exact⟨Uc⟩
def Ox (h:QeP l t i)(i0:0<=i)(g:(l.length:Int)<=i\/t<=ag l i 2):i.toNat=FX l t:=by
 have e:=h.e;have:=Ll (l:=l) (t:=t);rcases WS e with q|q
 ·rcases g with g|g;omega
  ·have:=QH q;rw[Zj i0]at this;omega
 ·exact q
end
def Hs (rm:Int)(qs:af)(now age:Int):Bool:=quarOk rm qs&&(inR now 0 1000000&&inR age 0 1000000)
def qeL (rm:Int)(qs:af)(now age:Int):af:=if Hs rm qs now age=true then qs.drop (FX qs (now-age))else qs
def qeR (rm:Int)(qs:af)(now age:Int):af:=if Hs rm qs now age=true then qs.take (FX qs (now-age))else[]
def aa3 {rm:Int}{qs:af}{now age:Int}(h:Hs rm qs now age=false):qeL rm qs now age=qs/\qeR rm qs now age=[]:=by unfold qeL qeR;rw[h];exact⟨rfl,rfl⟩
def afs {rm:Int}{qs:af}{now age:Int}(h:Hs rm qs now age=true):qeL rm qs now age=qs.drop (FX qs (now-age))/\qeR rm qs now age=qs.take (FX qs (now-age)):=by unfold qeL qeR;rw[VO h,VO h];exact⟨rfl,rfl⟩
end Go.V
namespace Go.V
def A7 {k:Nat}:∀ {l:af},(∀ e∈l,gV e<=k)->cZ l<=k*l.length
 |[],_=>Zv _
 | e::l,h=>by
   have a:=h e (by simp);have b:=A7 (l:=l) (fun x hx=>h x (by simp[hx]));simp only[cZ,Zi,Nat.mul_succ];omega
def sV {cs us es:af}(h:ig cs us es)(rc:Rw [.sl [tI]] cs)(ru:Rw [tB] us)(re:Rw [tI,tI] es):au cs<=1024/\au us<=64/\au es<=64:=by
 have n1:=h.n1;have hu:=h.u;have e1:=h.e1;refine⟨?_,?_,?_⟩
 ·have q:cZ cs<=16*cs.length:=A7 fun e he=>by
   obtain⟨i,hi,rfl⟩:=Wj he;have a:=rc.eta (i:=i) Uc Uc;rw[Zm,ZJ,Zt hi,Option.getD_some]at a;rw[a];show gV [.s 1 (aU cs i 0)]<=16;have l:=h.l i Uc Uc;have w:=(Rw.sub (fs:=[.sl [tI]]) (j:=0) (i:=(i:Int)) rc Uc rfl).cnt rfl;have e:gV [.s 1 (aU cs i 0)]=au (aU cs i 0):=by simp only[gV,xH,au];omega
   rw[e,w];omega
  unfold au;omega
 ·rw[ru.cnt rfl];omega
 ·rw[re.cnt rfl];omega
def vk (us es:af)(c:Int)(rs:af)(p:Int):Bool:=(!hasB rs c&&decide (0<=dV us))&&(inR p 0 (es.length-1)&&decide (peM es p=0))
def G7 (us es:af)(c:Int)(rs:af)(p:Int):af:=if vk us es c rs p=true then us.set (dV us).toNat [.v (.bool true)]else us
def Fj (us es:af)(c:Int)(rs:af)(p:Int):af:=if vk us es c rs p=true then qz es p 2 (dV us)else es
def Fl (cs es:af)(p:Int):af:=if peM es p≠0 then dfC cs (Cw es p) (peF es p)else cs
def Fo (us es:af)(p:Int):af:=if peM es p≠0 then dfU us (Cw es p) (peF es p)else us
def Dn (es:af)(p:Int):af:=if peM es p≠0 then Cw es p else es
def zo (es:af)(c:Int)(rs:af)(p m:Int):Bool:= !hasB rs c&&(decide (peM es p≠0)&&(decide (m=1)||decide (m=2)))
def G8 (es:af)(c:Int)(rs:af)(p m:Int):af:=if zo es c rs p m=true then qz es p m (peF es p)else es
def x6 (es:af)(c:Int)(rs:af)(p q:Int):Bool:= !hasB rs c&&(decide (peM es p≠0)&&(decide (peM es q≠0)&&decide (p≠q)))
def I3 (cs es:af)(c:Int)(rs:af)(p q:Int):af:=if x6 es c rs p q=true then dfC cs (qz es p 2 (peF es q)) (peF es p)else cs
def I5 (us es:af)(c:Int)(rs:af)(p q:Int):af:=if x6 es c rs p q=true then dfU us (qz es p 2 (peF es q)) (peF es p)else us
def I4 (es:af)(c:Int)(rs:af)(p q:Int):af:=if x6 es c rs p q=true then qz es p 2 (peF es q)else es
def adU {cs us es rs:af}{c p:Int}(h:ig cs us es):ig cs (G7 us es c rs p) (Fj us es c rs p):=by
 unfold G7 Fj;by_cases g:vk us es c rs p=true
 ·rw[VO g,VO g];unfold vk at g;simp only[Zb,VN]at g;have r:=ay.1 g.2.1;have f:=wy (us:=us);have u:=h.u;have pr:0<=p/\p<es.length:=by omega
  have z:ag es p 0=0:=by have:=g.2.2;unfold peM at this;rw[VO pr]at this;exact this
  exact aec h r.1 Uc z g.1.2 Uc
 ·rw[VP g,VP g];exact h
def adY {cs us es:af}{p:Int}(h:ig cs us es):ig (Fl cs es p) (Fo us es p) (Dn es p):=by
 unfold Fl Fo Dn;by_cases g:peM es p≠0
 ·rw[VO g,VO g,VO g];exact agv h g
 ·rw[VP g,VP g,VP g];exact h
def adW {cs us es rs:af}{c p m:Int}(h:ig cs us es):ig cs us (G8 es c rs p m):=by
 unfold G8;by_cases g:zo es c rs p m=true
 ·rw[VO g];unfold zo at g;simp only[Zb,Z5,VN]at g;exact afi h g.2.1 Uc
 ·rw[VP g];exact h
def aiS {cs us es rs:af}{c p q:Int}(h:ig cs us es):ig (I3 cs es c rs p q) (I5 us es c rs p q) (I4 es c rs p q):=by
 unfold I3 I5 I4;by_cases g:x6 es c rs p q=true
 ·rw[VO g,VO g,VO g];unfold x6 at g;simp only[Zb,VN]at g;exact aed h g.2.1 g.2.2.1 g.2.2.2
 ·rw[VP g,VP g,VP g];exact h
def rwU {us:af}{n:Nat}{b:Bool}(h:Rw [tB] us):Rw [tB] (us.set n [.v (.bool b)]):=Rw.set h (show bV [tB] [.v (.bool b)]from⟨trivial,trivial⟩) _
def IC {es:af}{p m f:Int}(h:Rw [tI,tI] es)(hm: -9223372036854775808<=m/\m<=9223372036854775807)(hf: -9223372036854775808<=f/\f<=9223372036854775807):Rw [tI,tI] (qz es p m f):=Rw.set h (show bV [tI,tI] [.i m,.i f]from⟨⟨rfl,hm⟩,⟨rfl,hf⟩,trivial⟩) _
def afG {cs es:af}{f:Int}(h:Rw [.sl [tI]] cs):Rw [.sl [tI]] (dfC cs es f):=by
 unfold dfC;split;exact h;exact LL h (Rw.replicate (show bV [tI] [.i 0]from⟨⟨rfl,show-9223372036854775808<=(0:Int)/\(0:Int)<=9223372036854775807 from by omega⟩,trivial⟩) (by unfold maxLen;omega))
def afH {us es:af}{f:Int}(h:Rw [tB] us):Rw [tB] (dfU us es f):=by
 unfold dfU;split;exact h;exact rwU h
def Qe {us es rs:af}{c p:Int}(hu:Rw [tB] us)(he:Rw [tI,tI] es)(l:us.length<=32):Rw [tB] (G7 us es c rs p)/\Rw [tI,tI] (Fj us es c rs p):=by
 have f:=wy (us:=us);unfold G7 Fj
 constructor<;>split
 ·exact rwU hu
 ·exact hu
 ·exact IC he Uc Uc
 ·exact he
def Qg {cs us es:af}{p:Int}(hc:Rw [.sl [tI]] cs)(hu:Rw [tB] us)(he:Rw [tI,tI] es):Rw [.sl [tI]] (Fl cs es p)/\Rw [tB] (Fo us es p)/\Rw [tI,tI] (Dn es p):=by
 unfold Fl Fo Dn;refine⟨?_,?_,?_⟩<;>split
 ·exact afG hc
 ·exact hc
 ·exact afH hu
 ·exact hu
 ·exact IC (m:=0) (f:=0) he Uc Uc
 ·exact he
def gK {cs us es rs:af}{c:Int}(h:kerOk cs us es c rs=true):ig cs us es/\0<=c/\c<=100000/\nF rs=true:=by
 unfold kerOk at h;simp only[Zb]at h;have r:=ay.1 h.1.2;exact⟨aaj h.1.1,r.1,r.2,h.2⟩
def xZ {cs us es rs:af}{c:Int}(h:ig cs us es)(c0:0<=c)(c1:c<=100000)(r:nF rs=true):kerOk cs us es c rs=true:=G4 (aak h) (ay.2 ⟨c0,c1⟩) r
end Go.V
namespace Go.V
structure kJ (a0 a1 a2 a4 a5 a6 a7 a8 a9 aA aB aD aL:af):Prop where
 r0:Rw [.sl [tI]] a0
 r1:Rw [tB] a1
 r2:Rw [tI,tI] a2
 r4:Rw [tI] a4
 r5:Rw [tI,tI] a5
 r6:Rw [tI,tI,tI] a6
 r7:Rw [tI,tI,tI] a7
 r8:Rw [tI,tI,tI,tI] a8
 r9:Rw [.sl [.sl [tI]]] a9
 r10:Rw [.sl [tI,tI]] aA
 r11:Rw [.sl [tI]] aB
 r13:Rw [tI,tI,tI] aD
 r21:Rw [tI] aL
 c0:au a0<=1073741824
 c1:au a1<=1073741824
 c2:au a2<=1073741824
 c4:au a4<=1073741824
 c5:au a5<=1073741824
 c6:au a6<=1073741824
 c7:au a7<=1073741824
 c8:au a8<=1073741824
 c9:au a9<=1073741824
 c10:au aA<=1073741824
 c11:au aB<=1073741824
 c13:au aD<=1073741824
 c21:au aL<=1073741824
def kJ.hp {a0 a1 a2 a4 a5 a6 a7 a8 a9 aA aB aD aL:af}(h:kJ a0 a1 a2 a4 a5 a6 a7 a8 a9 aA aB aD aL):HpN a0 a1 a2 a4 a5 a6 a7 a8 a9 aA aB aD aL:=by
 have l2:=aS (es:=a2);have l5:=aS (es:=a5);have l6:=aS (es:=a6);have l7:=aS (es:=a7);have l8:=aS (es:=a8);have l13:=aS (es:=aD);have l21:=aS (es:=aL);have c2:=h.c2;have c5:=h.c5;have c6:=h.c6;have c7:=h.c7;have c8:=h.c8;have c13:=h.c13;have c21:=h.c21;exact⟨⟨h.r6,h.r7,h.r8,h.r9,h.r13,KY h.r10 h.r11 h.c10 h.c11,aaJ h.r9 h.c9,Uc,Uc,Uc,Uc,h.c9⟩,h.r0,h.r1,h.r2,Uc,h.r4,h.r5,Uc,h.r21,Uc⟩
def rK {fs:List Ty}{es:af}{i:Int}(h:Rw [.sl fs] es)(h0:0<=i)(h1:i<es.length):Rw fs (aU es i 0):=Rw.sub (fs:=[.sl fs]) (j:=0) (i:=i) h Uc rfl
end Go.V
namespace Go.V
def htB (b x:af)(f:Int):Bool:=inR f 0 (b.length-1)&&mailOk b x
def Tn {b x:af}{f:Int}(h:htB b x f=true):0<=f/\f<b.length:=by
 unfold htB at h;simp only[Zb]at h;have:=ay.1 h.1;omega
def ado {b x:af}{f:Int}(h:inR f 0 (b.length-1)=false):htB b x f=false:=by unfold htB;rw[h];rfl
def adp {b x:af}{f:Int}(h:inR f 0 (b.length-1)=true):htB b x f=mailOk b x:=by unfold htB;rw[h];rfl
def L4 {b x:af}{i:Int}(h:Rw [.sl [tI]] b)(h0:0<=i)(h1:i<b.length):jL (.s 1 b) [(i.toNat,0)] [.s 1 x]=b.set i.toNat [.s 1 x]:=eK (by rw[h.eta h0 h1];rfl)
def HN {fs:List Ty}{b:af}{i:Int}(h:Rw [.sl fs] b)(h0:0<=i)(h1:i<b.length):∃ rec o',bZ (.s 1 b) [(i.toNat,0)]=some (rec,o')/\o'+1<=rec.length:=fC Uc (by rw[h.eta h0 h1];exact Ze _)
def KI {b x b' x':af}{r r':Bool}(h1:b=b')(h2:x=x')(h3:r=r'):[DV.agg [.s 1 b,.s 1 x],DV.k r]=[DV.agg [.s 1 b',.s 1 x'],DV.k r']:=by rw[h1,h2,h3]
end Go.V
namespace Go.V
def ccB (cs us es:af)(c:Int)(rs:af):Bool:=decide (c≠100000)&&kerOk cs us es c rs
def zY {cs us es rs:af}{c:Int}(h:ccB cs us es c rs=true):c≠100000/\kerOk cs us es c rs=true:=by
 unfold ccB at h;rw[Zb,VN]at h;exact h
def acf {cs us es rs:af}{c:Int}(h:c=100000):ccB cs us es c rs=false:=by unfold ccB;rw[VM (fun n=>n h)];rfl
def Jz {cs us es rs:af}{c:Int}(h:c≠100000):ccB cs us es c rs=kerOk cs us es c rs:=by unfold ccB;rw[VL h];rfl
def ktC (k:Bool)(cs es:af)(p:Int):af:=if k=true then Fl cs es p else cs
def ktU (k:Bool)(us es:af)(p:Int):af:=if k=true then Fo us es p else us
def ktE (k:Bool)(es:af)(p:Int):af:=if k=true then Dn es p else es
def ktB (k:Bool)(es:af)(p:Int):Bool:=k&&mapB es p
def adX {k:Bool}{cs us es:af}{p:Int}(h:k=false):ktC k cs es p=cs/\ktU k us es p=us/\ktE k es p=es/\ktB k es p=false:=by subst h;exact⟨rfl,rfl,rfl,rfl⟩
def TV {k:Bool}{cs us es:af}{p:Int}(h:k=true):ktC k cs es p=Fl cs es p/\ktU k us es p=Fo us es p/\ktE k es p=Dn es p/\ktB k es p=mapB es p:=by subst h;exact⟨rfl,rfl,rfl,rfl⟩
def ai8 {cs us es:af}{p:Int}(h:mapB es p=false):Fl cs es p=cs/\Fo us es p=us/\Dn es p=es:=by
 unfold mapB at h;have:=VR h;unfold Fl Fo Dn;rw[VP this,VP this,VP this];exact⟨rfl,rfl,rfl⟩
def ai9 {cs us es:af}{p:Int}(h:mapB es p=true):Fl cs es p=dfC cs (Cw es p) (peF es p)/\Fo us es p=dfU us (Cw es p) (peF es p)/\Dn es p=Cw es p:=by
 unfold mapB at h;have:=VQ h;unfold Fl Fo Dn;rw[VO this,VO this,VO this];exact⟨rfl,rfl,rfl⟩
def ai7 {k:Bool}{cs us es:af}{p:Int}(h:mapB es p=false):ktC k cs es p=cs/\ktU k us es p=us/\ktE k es p=es/\ktB k es p=false:=by
 cases k with
 |false=>exact adX rfl
 |true=>have q:=ai8 (cs:=cs) (us:=us) h;exact⟨q.1,q.2.1,q.2.2,h⟩
def sU {es:af}{p:Int}(h:mapB es p=true):(0<=p/\p<es.length)/\peM es p=ag es p 0/\peF es p=ag es p 1/\peM es p≠0:=by
 unfold mapB at h;have:=VQ h;have q:=AG this;exact⟨q.1,q.2.1,q.2.2,this⟩
def wB {cs us es:af}{p:Int}(m:ig cs us es)(h:mapB es p=true):0<=ag es p 1/\ag es p 1<cs.length:=by
 have q:=sU h;have e:=m.e p q.1.1 q.1.2;exact e.2.2.2 (by have:=q.2.1;have:=q.2.2.2;omega)
def ahq {cs us es:af}{f:Int}(h:((pagesOn es f).length:Int)=0):dfC cs es f=cs.set f.toNat [.s 1 (FZ 16 [.i 0])]/\dfU us es f=us.set f.toNat [.v (.bool false)]:=by
 have e:fL es f=false:=NZ Uc;unfold dfC dfU;rw[e];exact⟨rfl,rfl⟩
def ahr {cs us es:af}{f:Int}(h:¬ ((pagesOn es f).length:Int)=0):dfC cs es f=cs/\dfU us es f=us:=by
 have e:fL es f=true:=Bw.2 Uc;unfold dfC dfU;rw[e];exact⟨rfl,rfl⟩
def agw {es:af}{p:Int}(h:Rw [tI,tI] es)(p0:0<=p)(p1:p<es.length):jL (.s 2 es) [(p.toNat,0)] [.i 0,.i 0]=Cw es p:=by
 unfold Cw;exact eK (by rw[h.eta p0 p1];rfl)
def G9 {es:af}{p:Int}:(Dn es p).length=es.length:=by
 unfold Dn Cw;split;exact Zw;rfl
structure K3 where
 c:af
 u:af
 e:af
def GM (a0 a1 a2:af)(t:Int):Nat->K3
 |0=>⟨a0,a1,a2⟩
 |n+1=>⟨Fl (GM a0 a1 a2 t n).c (GM a0 a1 a2 t n).e (t+n),Fo (GM a0 a1 a2 t n).u (GM a0 a1 a2 t n).e (t+n),Dn (GM a0 a1 a2 t n).e (t+n)⟩
def GN {a0 a1 a2:af}{t:Int}{n:Nat}:GM a0 a1 a2 t (n+1)=⟨Fl (GM a0 a1 a2 t n).c (GM a0 a1 a2 t n).e (t+n),Fo (GM a0 a1 a2 t n).u (GM a0 a1 a2 t n).e (t+n),Dn (GM a0 a1 a2 t n).e (t+n)⟩:=rfl
def duC (a0 a1 a2:af)(t l:Int):af:=(GM a0 a1 a2 t l.toNat).c
def duU (a0 a1 a2:af)(t l:Int):af:=(GM a0 a1 a2 t l.toNat).u
def duE (a0 a1 a2:af)(t l:Int):af:=(GM a0 a1 a2 t l.toNat).e
def ahv {a0 a1 a2:af}{t:Int}:duC a0 a1 a2 t 1=Fl a0 a2 t/\duU a0 a1 a2 t 1=Fo a1 a2 t/\duE a0 a1 a2 t 1=Dn a2 t:=by
 unfold duC duU duE;have z:t+((0:Nat):Int)=t:=by omega
 rw[show(1:Int).toNat=0+1 from rfl,GN,z];exact⟨rfl,rfl,rfl⟩
structure IV (a0 a1 a2:af)(t p:Int)(c u e:af):Prop where
 m:ig c u e
 rc:Rw [.sl [tI]] c
 ru:Rw [tB] u
 re:Rw [tI,tI] e
 l:e.length=a2.length
 ec:c=duC a0 a1 a2 t (p-t)
 eu:u=duU a0 a1 a2 t (p-t)
 ee:e=duE a0 a1 a2 t (p-t)
section
variable {a0 a1 a2 c u e: af} {t p: Int}
def JM (m:ig a0 a1 a2)(rc:Rw [.sl [tI]] a0)(ru:Rw [tB] a1)(re:Rw [tI,tI] a2):IV a0 a1 a2 t t a0 a1 a2:=by
 have z:(t-t).toNat=0:=by omega
 refine⟨m,rc,ru,re,rfl,?_,?_,?_⟩
 ·unfold duC;rw[z];rfl
 ·unfold duU;rw[z];rfl
 ·unfold duE;rw[z];rfl
def EV (h:IV a0 a1 a2 t p c u e)(p0:t<=p):IV a0 a1 a2 t (p+1) (Fl c e p) (Fo u e p) (Dn e p):=by
 have w:=Qg (p:=p) h.rc h.ru h.re;have s:(p+1-t).toNat=(p-t).toNat+1:=by omega
 have q:t+((p-t).toNat:Int)=p:=by omega
 refine⟨adY h.m,w.1,w.2.1,w.2.2,by rw[G9];exact h.l,?_,?_,?_⟩
 ·rw[h.ec,h.ee];unfold duC duE;rw[s,GN,q]
 ·rw[h.eu,h.ee];unfold duU duE;rw[s,GN,q]
 ·rw[h.ee];unfold duE;rw[s,GN,q]
def GP {l:Int}(h:IV a0 a1 a2 t p c u e)(p1:t+l<=p)(p2:p<=t+l):c=duC a0 a1 a2 t l/\u=duU a0 a1 a2 t l/\e=duE a0 a1 a2 t l:=by
 have q:p-t=l:=by omega
 exact⟨q▸h.ec,q▸h.eu,q▸h.ee⟩
def Be (h:IV a0 a1 a2 t p c u e):au c<=1024/\au u<=64/\au e<=64:=sV h.m h.rc h.ru h.re
def GO (m:ig a0 a1 a2)(rc:Rw [.sl [tI]] a0)(ru:Rw [tB] a1)(re:Rw [tI,tI] a2):∀ n:Nat,IV a0 a1 a2 t (t+n) (duC a0 a1 a2 t n) (duU a0 a1 a2 t n) (duE a0 a1 a2 t n)
 |0=>by have:=JM (t:=t) m rc ru re;rw[show t+((0:Nat):Int)=t by omega];exact this
 | n+1=>by
   have h:=EV (GO m rc ru re n) Uc;have e:((n+1:Nat):Int)=(n:Int)+1:=by omega
   rw[show t+((n+1:Nat):Int)=t+n+1 by omega];exact h
end
def ifR (b:Bool)(x y:af):af:=if b=true then x else y
def FY {o o':af}{r r':Bool}(h2:o=o')(h3:r=r'):[DV.one (.s 2 o),DV.k r]=[DV.one (.s 2 o'),DV.k r']:=by rw[h2,h3]
end Go.V
namespace Go.V
structure SmR (rs:af):Prop where
 w:Rw [tI,tI] rs
 b:∀ i:Int,0<=i->i<rs.length->0<=ag rs i 0/\ag rs i 0<=64/\0<=ag rs i 1/\ag rs i 1<=64
def agx {o:af}{n:Int}{b:Bool}(h:Rw [tB] o)(h0:0<=n)(h1:n<o.length):jL (.s 1 o) [(n.toNat,0)] [.v (.bool b)]=o.set n.toNat [.v (.bool b)]:=eK (by rw[h.eta h0 h1];rfl)
def aj9 {o:af}{n:Int}(h:Rw [tB] o)(h0:0<=n)(h1:n<o.length):∃ rec o',bZ (.s 1 o) [(n.toNat,0)]=some (rec,o')/\o'+1<=rec.length:=fC Uc (by rw[h.eta h0 h1];exact Ze _)
def Q8 {es:af}{p:Int}(h:Rw [tI,tI] es)(p0:0<=p)(p1:p<es.length):∃ rec o,bZ (.s 2 es) [(p.toNat,0)]=some (rec,o)/\o+2<=rec.length:=fC Uc (by rw[h.eta p0 p1];exact Ze _)
section
variable {n a0 l0 i: Int} {rs o: af} {d: Bool}
def QN (g:rngIn n a0 l0=true)(T:MI n rs):0<=a0/\1<=l0/\a0+l0<=32:=by
 unfold rngIn at g;simp only[Zb]at g;have p:=ay.1 g.1;have q:=ay.1 g.2;have:=T.n1;omega
structure JnQ (rs:af)(i:Int)(o:af)(n:Nat):Prop where
 p:JnP rs i o
 n:n=o.length
 w:Rw [tI,tI] o
 b:∀ k:Int,0<=k->k<o.length->0<=ag o k 0/\ag o k 0<=64/\0<=ag o k 1/\ag o k 1<=64*i
end
end Go.V
namespace Go.V
def Td {a0 a1 a2 a4 a5 a6 a7 a8 a9 aA aB aD aL:af}(h0:Rw [.sl [tI]] a0)(h1:Rw [tB] a1)(h2:Rw [tI,tI] a2)(h4:Rw [tI] a4)(h5:Rw [tI,tI] a5)(h6:Rw [tI,tI,tI] a6)(h7:Rw [tI,tI,tI] a7)(h8:Rw [tI,tI,tI,tI] a8)(h9:Rw [.sl [.sl [tI]]] a9)(h10:Rw [.sl [tI,tI]] aA)(h11:Rw [.sl [tI]] aB)(h13:Rw [tI,tI,tI] aD)(h21:Rw [tI] aL)(hs:Ab [a0,a1,a2,a4,a5,a6,a7,a8,a9,aA,aB,aD,aL]<=1048576):kJ a0 a1 a2 a4 a5 a6 a7 a8 a9 aA aB aD aL:=by
 obtain⟨c0,c1,c2,c4,c5,c6,c7,c8,c9,c10,c11,c13,c21⟩:=Pz hs;exact⟨h0,h1,h2,h4,h5,h6,h7,h8,h9,h10,h11,h13,h21,Uc,Uc,Uc,Uc,Uc,Uc,Uc,Uc,Uc,Uc,Uc,Uc,Uc⟩
end Go.V
namespace Go.V
section
variable {n a0 l0: Int} {rs: af}
def abg {x y:Pr}(hx:0<=x.1/\x.1<=64/\0<=x.2/\x.2<=64)(hy:0<=y.1/\y.1<=64/\0<=y.2/\y.2<=64):Rw [tI,tI] (rowP [x,y]):=Hz (fun z hz=>by
 rcases Zl.1 hz with q|q
 ·rw[q];omega
 ·rw[Yb]at q;rw[q];omega) (by unfold maxLen;simp)
def QU {x:Pr}(hx:0<=x.1/\x.1<=64/\0<=x.2/\x.2<=64):Rw [tI,tI] (rowP [x]):=Hz (fun z hz=>by
 rw[Yb]at hz;rw[hz];omega) (by unfold maxLen;simp)
def HB (T:MI n rs)(g:rngIn n a0 l0=true)(hl:rs.length<=1073741824)(nov:∀ x∈rP rs,FK x (a0,l0)=false):∀ i:Nat,i<=rs.length->∃ o x y d,Ez rs a0 l0 i o x y d/\Rw [tI,tI] o/\o.length<=2*i
 |0,_=>⟨[],a0,l0,false,QO (QN g T),Rw.nil,Ze _⟩
 | i+1,hi=>by
   obtain⟨o,x,y,d,h,rw_,ol⟩:=HB T g hl nov i Uc;have e:=kI (es:=rs) (i:=(i:Int)) Uc Uc;have m:(ag rs i 0,ag rs i 1)∈(rP rs).drop (i:Int).toNat:=by rw[drop_at Uc e];simp
   have v:=h.v _ m;rw[nov _ (Yq m)]at v;have no:¬ (ag rs i 0<x+y/\x<ag rs i 0+ag rs i 1):=fun c=>by rw[FM.2 c]at v;cases v
   have b:=T.b _ (Yq m);have hb:=h.b;have:=T.n1;have bp:0<=ag rs i 0/\ag rs i 0<=64/\0<=ag rs i 1/\ag rs i 1<=64:=⟨b.1,by have:=b.2.1;have:=b.2.2;omega,by have:=b.2.1;omega,by have:=b.1;have:=b.2.2;omega⟩;have c:((i+1:Nat):Int)=(i:Int)+1:=by omega
   rw[c];by_cases q1:ag rs i 0+ag rs i 1=x;exact⟨o,_,_,d,QP T h Uc Uc no q1,rw_,Uc⟩
   by_cases q2:x+y=ag rs i 0;exact⟨o,_,_,d,QQ T h Uc Uc no q1 q2,rw_,Uc⟩
   by_cases q3:x<ag rs i 0/\d=false;exact⟨_,_,_,true,QR T h Uc Uc no q1 q2 q3.1 q3.2,Rw.append rw_ (abg (x:=(x,y)) (y:=(ag rs i 0,ag rs i 1)) (by simp only;omega) bp) (by unfold maxLen;show _+2<=_;omega),by rw[Zf];show _+2<=_;omega⟩;exact⟨_,_,_,d,LA T h Uc Uc no q1 q2 q3,Rw.append rw_ (QU (x:=(ag rs i 0,ag rs i 1)) bp) (by unfold maxLen;show _+1<=_;omega),by rw[Zf];show _+1<=_;omega⟩
def Lx (w:Rw [tI,tI] rs)(hl:rs.length<=1073741824):Rw [tI,tI] (rpL n rs a0 l0)/\(rpL n rs a0 l0).length<=2*rs.length+1:=by
 cases h:rpB n rs a0 l0 with
 |false=>rw[Ly h];exact⟨w,Uc⟩
 | true=>
   unfold rpB at h;simp only[Zb,Z7]at h;obtain⟨h1,h2,h3⟩:=h;have T:=yv h1;have nov:∀ x∈rP rs,FK x (a0,l0)=false:=fun x hx=>by have:=h3 x hx;simpa using this
   obtain⟨o,x,y,d,p,r,l⟩:=HB T h2 hl nov rs.length (Ze _);have e:=HC h1 h2 p Uc;rw[e.2];cases d with
   |true=>rw[VO rfl];exact⟨r,Uc⟩
   | false=>
     rw[VP (by simp)];have b:=p.b;exact⟨Rw.append r (QU (x:=(x,y)) (by simp only;omega)) (by unfold maxLen;show _+1<=_;omega),by rw[Zf];show _+1<=_;omega⟩
end
def R6 {c u e a0 a1 a2 a4:af}{a3:Int}(m:ig c u e)(h:kerOk a0 a1 a2 a3 a4=true)(n:a3≠100000):ccB c u e a3 a4=true:=by
 have k:=(gK h).2;unfold ccB;rw[VL n,xZ m k.1 k.2.1 k.2.2];rfl
def bsB (m:Bool)(k v p:Int):Bool:=m&&(decide (k=p)||decide (v=p))
def ahi {m:Bool}{k v p:Int}(h:m=false):bsB m k v p=false:=by subst h;rfl
def ahg {m:Bool}{k v p:Int}(h:m=true)(e:k=p):bsB m k v p=true:=by subst h;unfold bsB;rw[VL e];rfl
def ahh {m:Bool}{k v p:Int}(h:m=true)(e:k≠p):bsB m k v p=decide (v=p):=by subst h;unfold bsB;rw[VM e];rfl
def dsC (a0 a1 a2 a6:af)(i:Int):af:=duC a0 a1 a2 (ag a6 i 0) 1
def dsU (a0 a1 a2 a6:af)(i:Int):af:=duU a0 a1 a2 (ag a6 i 0) 1
def dsE (a0 a1 a2 a6:af)(i:Int):af:=duE a0 a1 a2 (ag a6 i 0) 1
def dsF (a0 a1 a2 a5 a6:af)(i:Int):af:=rpL (zlI (dsE a0 a1 a2 a6 i)) a5 (ag a6 i 0) 1
def dsS (a6:af)(i:Int):af:=delL a6 i (i+1)
def acA {a0 a1 a2 a6:af}{i:Int}:dsC a0 a1 a2 a6 i=Fl a0 a2 (ag a6 i 0)/\dsU a0 a1 a2 a6 i=Fo a1 a2 (ag a6 i 0)/\dsE a0 a1 a2 a6 i=Dn a2 (ag a6 i 0):=ahv
def wv {fs:List Ty}{es:af}{i j:Int}(h:Rw fs es)(ij:i<=j):Rw fs (delL es i j)/\(delL es i j).length<=es.length:=by
 have l:(delL es i j).length<=es.length:=by unfold delL;rw[Zf,Zg,Zq];omega
 refine⟨⟨ZH l h.1,fun e he=>?_⟩,l⟩;unfold delL at he;rcases Zh.1 he with q|q;exact h.2 e (Y4 q);exact h.2 e (Yq q)
end Go.V
namespace Go.V
def Hb {o:af}{n:Int}{j:Nat}(h:Rw [tI,tI,tI] o)(n0:0<=n)(n1:n<o.length)(hj:j<3):∃ rec o',bZ (L.s 3 o) [(n.toNat,j)]=some (rec,o')/\o'+[L.v (Zn Zy 0)].length<=rec.length/\Yh [L.v (Zn Zy 0)].length (Yy o' rec)=kP aj (L.s 3 o) [(n.toNat,j)] 0 [L.v (Zn Zy 0)]:=by
 rcases(show j=0\/j=1\/j=2 by omega)with rfl|rfl|rfl
 ·exact fv (z0:=[.i 0,.i 0,.i 0]) (z:=[.i 0]) h.wf Uc rfl (by decide)
 ·exact fv (z0:=[.i 0,.i 0,.i 0]) (z:=[.i 0]) h.wf Uc rfl (by decide)
 ·exact fv (z0:=[.i 0,.i 0,.i 0]) (z:=[.i 0]) h.wf Uc rfl (by decide)
section
variable {a0 a1 a2: af} {a3: Int} {a4 a5 a6 a7 a8 a9 aA aB: af} {aC: Int} {aD: af} {aE aF aG aH: Int} {aI: Bool} {aJ aK: Int} {aL: af} {aM aN: Int} {i: Int}
def acB {t l:Int}(m:ig a0 a1 a2)(h0:Rw [.sl [tI]] a0)(h1:Rw [tB] a1)(h2:Rw [tI,tI] a2):ig (duC a0 a1 a2 t l) (duU a0 a1 a2 t l) (duE a0 a1 a2 t l)/\Rw [.sl [tI]] (duC a0 a1 a2 t l)/\Rw [tB] (duU a0 a1 a2 t l)/\Rw [tI,tI] (duE a0 a1 a2 t l)/\(duE a0 a1 a2 t l).length=a2.length/\au (duC a0 a1 a2 t l)<=1024/\au (duU a0 a1 a2 t l)<=64/\au (duE a0 a1 a2 t l)<=64:=by
 have h:=GO (t:=t) m h0 h1 h2 l.toNat;have e:∀ X:af->af->af->Int->Int->af,True:=fun _=>trivial
 have c:duC a0 a1 a2 t l=duC a0 a1 a2 t (l.toNat:Int):=by unfold duC;rw[ZJ]
 have u:duU a0 a1 a2 t l=duU a0 a1 a2 t (l.toNat:Int):=by unfold duU;rw[ZJ]
 have s:duE a0 a1 a2 t l=duE a0 a1 a2 t (l.toNat:Int):=by unfold duE;rw[ZJ]
 rw[c,u,s];exact⟨h.m,h.rc,h.ru,h.re,h.l,Be h⟩
def acz (hc:kJ a0 a1 a2 a4 a5 a6 a7 a8 a9 aA aB aD aL):kJ a0 a1 a2 a4 a5 (delL a6 i (i+1)) a7 a8 a9 aA aB aD aL:=by
 have s:=wv (i:=i) (j:=i+1) hc.r6 Uc;have c6:=hc.c6;have n6:=hc.r6.cnt rfl;have z6:=s.1.cnt rfl;exact⟨hc.r0,hc.r1,hc.r2,hc.r4,hc.r5,s.1,hc.r7,hc.r8,hc.r9,hc.r10,hc.r11,hc.r13,hc.r21,hc.c0,hc.c1,hc.c2,hc.c4,hc.c5,by rw[z6];have:=s.2;omega,hc.c7,hc.c8,hc.c9,hc.c10,hc.c11,hc.c13,hc.c21⟩
section
variable {k m: Bool} {c x y p: Int} {sp: af}
end
def acP (h:hpI a0 a1 a2 a3 a4 a5 a6 a7 a8 a9 aA aB aC aD aE aF aG aH aI aJ aK aL aM aN=true):a5.length<=32:=by
 have T:=yv (hY h).r;have n:=T.n1;have:∀ (l:List Pr) (t:Int),Mt l->(∀ x∈l,t<=x.1/\1<=x.2/\x.1+x.2<=(a2.length:Int))->t+l.length<=(a2.length:Int)\/l=[]:=by
  intro l
  induction l with
  |nil=>intro t _ _;exact .inr rfl
  | cons x l ih=>
    intro t c b;have bx:=b x (by simp);refine .inl ?_;rcases ih (x.1+x.2) (JC c) (fun y hy=>by have:=EJ c y hy;have:=b y (by simp[hy]);omega)with q|q
    ·rw[Zi];omega
    ·rw[q];simp only[Zi,Zk];omega
 have q:=this (rP a5) 0 T.c (fun x hx=>by have:=T.b x hx;omega);rw[qC]at q;rcases q with q|q;omega
 ·have:=congrArg List.length q;rw[qC]at this;simp at this;rw[this];decide
end
end Go.V
namespace Go.V
section
variable {a0 a1 a2: af} {a3: Int} {a4 a5 a6 a7 a8 a9 aA aB: af} {aC: Int} {aD: af} {aE aF aG aH: Int} {aI: Bool} {aJ aK: Int} {aL: af} {aM aN: Int} {p: Int}
end
end Go.V
namespace Go.V
end Go.V