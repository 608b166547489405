/- Plain facts. -/
import Derived.Test.YtpldpilhgjpkjaaGreatYW2
import Derived.Test.YtpldpilhgjpkjaaGreatYW1
set_option linter.all false
open Go
open BitVec renaming ofInt_natCast->Xg,toNat_ofNat->Y2
open Bool renaming and_eq_true->Zc,or_eq_true->Z6,and_false->Yf,true_and->Yx,eq_iff_iff->XM
open Int renaming mul_nonneg->XK,mul_le_mul_of_nonneg_right->Xf,toNat_of_nonneg->Zr,add_mul->WN,ediv_nonneg->X8,eq_ofNat_of_zero_le->Z8,mul_comm->Wc,le_refl->Yn,toNat_natCast->ZJ
open IntKind renaming i64->Zt,i64->Za
open IntWalk renaming i64_in->YZ
open List renaming length_map->YO,mem_append->Zh,length_append->Zf,append_assoc->Zs,length_cons->Zj,length_nil->Zl,mem_cons->Zk,mem_singleton->Yb,nodup_append->Zy,nodup_nil->ZO,mergeSort_perm->WO,getD_eq_getElem?_getD->Zn,take_append_drop->ZS,take->Z7,drop->Ym,take_length->Y1,drop_eq_getElem_cons->WP,getElem?_eq_getElem->Zu,replicate->Zq,length_set->Zw,getElem_of_mem->Wg,mem_of_mem_drop->Yt,foldl_append->XN,foldl_cons->Y3,foldl_nil->Xw,all_eq_true->Z5,length_take->Zg,length_drop->Zo,mem_of_mem_take->Xh,drop_zero->YF,drop_succ_cons->XO
open List.Pairwise renaming nil->Vv,imp₂->Vw
open Nat renaming zero_le->ZC,lt_trichotomy->Wb,le_refl->Ze,le_trans->ZI
open Option.some renaming inj->Yz
open Value renaming int->Zi
namespace Go.V
def Aa (sp:af)(i:Int):Nat->List Int
 |0=>[]
 |n+1=>Aa sp i n++(if hsB (ag sp i 2) n then[aaI (ag sp i 0) (ag sp i 1) (ag sp i 2) n]else[])
def yM (sp:af):Nat->List Int
 |0=>[]
 |n+1=>yM sp n++Aa sp n (slN (ag sp n 1)).toNat
def BV (lg:af):Nat->List Int
 |0=>[]
 |n+1=>BV lg n++[ag lg n 0*16]
def Rb (sp lg:af):List Int:=yM sp sp.length++BV lg lg.length
def iaL (sp lg:af):af:=if layOk sp lg then srtL (kK (Rb sp lg))else[]
theorem vL {a b:Int}(h: -9223372036854775808<=a*b/\a*b<=9223372036854775807):bO .mul Za a b=a*b:=YZ _ h
theorem Bo {l:af}:(srtL l).length=l.length:=by unfold srtL;rw[jX,List.length_mergeSort];unfold oa;rw[YO]
def NJ (l:List Int):Prop:=∀ x∈l,-1<=x/\x<=1000
theorem DX {a b:List Int}(h:NJ a)(g:NJ b):NJ (a++b):=fun x hx=>by
 rcases Zh.1 hx with q|q;exact h x q;exact g x q
theorem LW {x:Int}(h: -1<=x/\x<=1000):NJ [x]:=fun y hy=>by simp at hy;rw[hy];exact h
theorem acv {p k b s:Int}: -1<=aaI p k b s/\aaI p k b s<=1000:=by
 unfold aaI;by_cases h:JA p k b s=true
 ·rw[VL h];unfold JA at h;simp only[Zc]at h;have t:=mg h.1;have c:=lT t.2.2.1;have s1:=bi.1 h.2;have m0:0<=s*clsSz k:=XK (by omega) (by omega);have m1:s*clsSz k<=slN k*clsSz k:=Xf (by omega) (by omega);omega
 ·rw[VM h];omega
theorem yL {sp:af}{i k:Int}(h:0<=k):Aa sp i (k+1).toNat=Aa sp i k.toNat++(if hsB (ag sp i 2) k then[aaI (ag sp i 0) (ag sp i 1) (ag sp i 2) k]else[]):=by
 rw[show(k+1).toNat=k.toNat+1 from by omega,Aa,Zr h]
theorem Hr {sp:af}{i:Int}(h:0<=i):yM sp (i+1).toNat=yM sp i.toNat++Aa sp i (slN (ag sp i 1)).toNat:=by
 rw[show(i+1).toNat=i.toNat+1 from by omega,yM,Zr h]
theorem CE {lg:af}{i:Int}(h:0<=i):BV lg (i+1).toNat=BV lg i.toNat++[ag lg i 0*16]:=by
 rw[show(i+1).toNat=i.toNat+1 from by omega,BV,Zr h]
structure Q4 (sp:af)(i:Int)(o:af):Prop where
 e:o=kK (yM sp i.toNat)
 b:NJ (yM sp i.toNat)
 l:(yM sp i.toNat).length<=16*i.toNat
structure Jv (sp:af)(i k:Int)(o:af):Prop where
 e:o=kK (yM sp i.toNat++Aa sp i k.toNat)
 b:NJ (yM sp i.toNat++Aa sp i k.toNat)
 l:(yM sp i.toNat).length<=16*i.toNat
 k:(Aa sp i k.toNat).length<=k.toNat
structure LM (sp lg:af)(j:Int)(o:af):Prop where
 e:o=kK (yM sp sp.length++BV lg j.toNat)
 b:NJ (yM sp sp.length++BV lg j.toNat)
 l:(yM sp sp.length++BV lg j.toNat).length<=16*sp.length+j.toNat
theorem adD {sp:af}:Q4 sp 0 []:=⟨rfl,(fun x hx=>by cases hx),ZC _⟩
theorem adF {sp o:af}{i:Int}(h:Q4 sp i o):Jv sp i 0 o:=
 ⟨by rw[h.e];simp[Aa],by simpa[Aa]using h.b,h.l,ZC _⟩
theorem OX {sp o:af}{i k:Int}(h:Jv sp i k o):o.length<=16*i.toNat+k.toNat:=by
 have l:=h.l;have m:=h.k;rw[h.e,jX,Zf];omega
theorem OY {sp o:af}{i k:Int}(h:Jv sp i k o)(k0:0<=k)(hh:hsB (ag sp i 2) k=true):Jv sp i (k+1) (o++[[.i (aaI (ag sp i 0) (ag sp i 1) (ag sp i 2) k)]]):=by
 have m:=h.k;have e:=h.e;refine⟨?_,?_,h.l,?_⟩
 ·rw[yL k0,VL hh, <-Zs,zm, <-e];rfl
 ·rw[yL k0,VL hh, <-Zs];exact DX h.b (LW acv)
 ·rw[yL k0,VL hh,Zf,Zj,Zl];omega
theorem TH {sp o:af}{i k:Int}(h:Jv sp i k o)(k0:0<=k)(hh:hsB (ag sp i 2) k=false):Jv sp i (k+1) o:=by
 have m:=h.k;have e:=h.e;have u:Aa sp i (k+1).toNat=Aa sp i k.toNat:=by rw[yL k0,hh];simp
 refine⟨?_,?_,h.l,?_⟩
 ·rw[u];exact e
 ·rw[u];exact h.b
 ·rw[u];omega
theorem aeF {sp lg:af}{i:Int}(hl:layOk sp lg=true)(h0:0<=i)(h1:i<sp.length):0<=slN (ag sp i 1)/\slN (ag sp i 1)<=16:=by
 have t:=mg ((HI hl).1 i h0 h1);have c:=lT t.2.2.1;omega
theorem OW {sp o:af}{i k:Int}(h:Jv sp i k o)(i0:0<=i)(k1:k<=slN (ag sp i 1))(k2:slN (ag sp i 1)<=k)(hs:0<=slN (ag sp i 1)/\slN (ag sp i 1)<=16):Q4 sp (i+1) o:=by
 have ek:k=slN (ag sp i 1):=by omega
 have e:=h.e;have b:=h.b;have l:=h.l;have m:=h.k;rw[ek, <-Hr i0]at e b;rw[ek]at m;refine⟨e,b,?_⟩;rw[Hr i0,Zf];omega
theorem adG {sp lg o:af}{i:Int}(h:Q4 sp i o)(h1:i<=sp.length)(h2:(sp.length:Int)<=i):LM sp lg 0 o:=by
 have ei:i.toNat=sp.length:=by omega
 have e:=h.e;have b:=h.b;have l:=h.l;rw[ei]at e b l;exact⟨by rw[e];simp[BV],by simpa[BV]using b,by simpa[BV]using l⟩
theorem Hu {sp lg o:af}{j:Int}(h:LM sp lg j o):o.length<=16*sp.length+j.toNat:=by
 have l:=h.l;rw[h.e,jX];exact l
theorem ad1 {sp lg:af}{j:Int}(hl:layOk sp lg=true)(h0:0<=j)(h1:j<lg.length):0<=ag lg j 0/\ag lg j 0<=32:=by
 have t:=mL ((HI hl).2.1 j h0 h1);have b:=o7 t.1;omega
theorem TK {sp lg o:af}{j:Int}(h:LM sp lg j o)(j0:0<=j)(hb:0<=ag lg j 0/\ag lg j 0<=32):LM sp lg (j+1) (o++[[.i (ag lg j 0*16)]]):=by
 have e:=h.e;have l:=h.l;refine⟨?_,?_,?_⟩
 ·rw[CE j0, <-Zs,zm, <-e];rfl
 ·rw[CE j0, <-Zs];exact DX h.b (LW (by omega))
 ·rw[CE j0, <-Zs,Zf,Zj,Zl];omega
theorem TJ {sp lg o:af}{j:Int}(h:LM sp lg j o)(h1:sp.length<=1073741824)(h2:j<=1073741824):Rw [tI] o/\o.length<=70368744177664:=by
 have l:=Hu h;refine⟨?_,by omega⟩;have e:=h.e;have l2:=h.l;rw[e];exact IE (fun x hx=>by have:=h.b x hx;omega) (by omega)
theorem OZ {sp lg o:af}{j:Int}(h:LM sp lg j o)(j1:j<=lg.length)(j2:(lg.length:Int)<=j)(hl:layOk sp lg=true):srtL o=iaL sp lg:=by
 have ej:j.toNat=lg.length:=by omega
 have e:=h.e;rw[ej]at e;unfold iaL Rb;rw[VL hl, <-e]
theorem adE {sp lg:af}(hl:layOk sp lg=false):([]:af)=iaL sp lg:=by unfold iaL;rw[hl];rfl
end Go.V
namespace Go.V
theorem uG:∀ {a b:List Int},a.Pairwise (· < ·)->b.Pairwise (· < ·)->(∀ x,x∈a↔x∈b)->a=b
 |[],[],_,_,_=>rfl
 |[],y::b,_,_,h=>by have:=(h y).2 (by simp);simp at this
 |x::a,[],_,_,h=>by have:=(h x).1 (by simp);simp at this
 | x::a,y::b,ha,hb,h=>by
   rw[List.pairwise_cons]at ha hb;have e:x=y:=by
    rcases Zk.1 ((h x).1 (by simp))with q|q;exact q
    ·rcases Zk.1 ((h y).2 (by simp))with r|r;exact r.symm
     ·have:=hb.1 x q;have:=ha.1 y r;omega
   subst e;rw[uG ha.2 hb.2 (fun z=>?_)]
   constructor
   ·intro m;rcases Zk.1 ((h z).1 (by simp[m]))with q|q
    ·have:=ha.1 z m;omega
    ·exact q
   ·intro m;rcases Zk.1 ((h z).2 (by simp[m]))with q|q
    ·have:=hb.1 z m;omega
    ·exact q
theorem ut {sp:af}{x:Int}:∀ {n:Nat},x∈mw sp n↔∃ i:Nat,i<n/\ag sp i 0=x
 |0=>by simp[mw]
 | n+1=>by
   rw[mw,Zh,ut,Yb]
   constructor
   ·rintro(⟨i,h,e⟩|rfl);exact⟨i,by omega,e⟩;exact⟨n,by omega,rfl⟩
   ·rintro⟨i,h,e⟩;by_cases c:i=n
    ·subst c;exact .inr e.symm
    ·exact .inl ⟨i,by omega,e⟩
theorem yV {p x:Int}:∀ {n:Nat},x∈tg p n↔p<=x/\x<p+n
 |0=>⟨(fun h=>by cases h),(fun h=>absurd h (by omega))⟩
 | n+1=>by
   rw[tg,Zh,yV,Yb];omega
theorem uo {lg:af}{x:Int}:∀ {n:Nat},x∈nG lg n↔∃ j:Nat,j<n/\ag lg j 0<=x/\x<ag lg j 0+(ag lg j 1).toNat
 |0=>by simp[nG]
 | n+1=>by
   rw[nG,Zh,uo,yV]
   constructor
   ·rintro(⟨i,h,e⟩|h);exact⟨i,by omega,e⟩;exact⟨n,by omega,h⟩
   ·rintro⟨i,h,e⟩;by_cases c:i=n
    ·subst c;exact .inr e
    ·exact .inl ⟨i,by omega,e⟩
theorem IS {sp:af}:∀ {n:Nat},(mw sp n).Nodup->∀ i i':Nat,i<i'->i'<n->ag sp i 0≠ag sp i' 0
 |0,_,i,i',_,h=>by omega
 | n+1,hn,i,i',h1,h2=>by
   rw[mw,Zy]at hn;by_cases c:i'=n
   ·subst c;exact hn.2.2 _ (ut.2 ⟨i,h1,rfl⟩) _ (by simp)
   ·exact IS hn.1 i i' h1 (by omega)
theorem HN {lg:af}:∀ {n:Nat},(nG lg n).Nodup->∀ (j j':Nat) (x:Int),j<j'->j'<n->ag lg j 0<=x->x<ag lg j 0+(ag lg j 1).toNat->ag lg j' 0<=x->x<ag lg j' 0+(ag lg j' 1).toNat->False
 |0,_,j,j',x,_,h,_,_,_,_=>by omega
 | n+1,hn,j,j',x,h1,h2,a,b,c,d=>by
   rw[nG,Zy]at hn;by_cases e:j'=n
   ·subst e;exact hn.2.2 x (uo.2 ⟨j,h1,a,b⟩) x (yV.2 ⟨c,d⟩) rfl
   ·exact HN hn.1 j j' x h1 (by omega) a b c d
structure LO (sp lg:af):Prop where
 s:∀ i:Nat,i<sp.length->spOk (ag sp i 0) (ag sp i 1) (ag sp i 2)=true
 l:∀ j:Nat,j<lg.length->lgOk (ag lg j 0) (ag lg j 1) (ag lg j 2)=true
 ss:∀ i i':Nat,i<sp.length->i'<sp.length->ag sp i 0=ag sp i' 0->i=i'
 sl:∀ i j:Nat,i<sp.length->j<lg.length->ag lg j 0<=ag sp i 0->ag sp i 0<ag lg j 0+ag lg j 1->False
 ll:∀ (j j':Nat) (x:Int),j<lg.length->j'<lg.length->ag lg j 0<=x->x<ag lg j 0+ag lg j 1->ag lg j' 0<=x->x<ag lg j' 0+ag lg j' 1->j=j'
theorem MB {sp lg:af}(h:layOk sp lg=true):LO sp lg:=by
 obtain⟨h1,h2,h3⟩:=HI h;unfold A9 at h3;rw[Zy]at h3;have n0:∀ j:Nat,j<lg.length->((ag lg j 1).toNat:Int)=ag lg j 1:=fun j hj=>by
  have t:=mL (h2 j (by omega) (by omega));have b:=o7 t.1;omega
 refine⟨fun i hi=>h1 i (by omega) (by omega),fun j hj=>h2 j (by omega) (by omega),fun i i' a b e=>?_,fun i j a b c d=>?_,fun j j' x a b c d e f=>?_⟩
 ·rcases Wb i i' with q|q|q;exact absurd e (IS h3.1 i i' q b);exact q;exact absurd e.symm (IS h3.1 i' i q a)
 ·exact h3.2.2 _ (ut.2 ⟨i,a,rfl⟩) _ (uo.2 ⟨j,b,c,by rw[n0 j b];exact d⟩) rfl
 ·rcases Wb j j' with q|q|q;exact(HN h3.2.1 j j' x q b c (by rw[n0 j a];exact d) e (by rw[n0 j' b];exact f)).elim;exact q;exact(HN h3.2.1 j' j x q a e (by rw[n0 j' b];exact f) c (by rw[n0 j a];exact d)).elim
theorem pT {p k b s:Int}(h:spOk p k b=true)(h0:0<=s)(h1:s<slN k):aaI p k b s=p*16+s*clsSz k/\0<=s*clsSz k/\s*clsSz k+clsSz k<=16/\1<=clsSz k:=by
 have t:=mg h;have c:=lT t.2.2.1;have a:JA p k b s=true:=by unfold JA;rw[h,bi.2 ⟨h0,by omega⟩];rfl
 have m0:0<=s*clsSz k:=XK h0 (by omega);have m1:(s+1)*clsSz k<=slN k*clsSz k:=Xf (by omega) (by omega);rw[WN]at m1;unfold aaI;rw[VL a];exact⟨rfl,m0,by omega,by omega⟩
theorem uj {sp:af}{i x:Int}:∀ {n:Nat},x∈Aa sp i n↔∃ k:Nat,k<n/\hsB (ag sp i 2) k=true/\x=aaI (ag sp i 0) (ag sp i 1) (ag sp i 2) k
 |0=>by simp[Aa]
 | n+1=>by
   rw[Aa,Zh,uj]
   constructor
   ·rintro(⟨k,h,e⟩|h);exact⟨k,by omega,e⟩
    ·by_cases c:hsB (ag sp i 2) n=true
     ·rw[VL c,Yb]at h;exact⟨n,by omega,c,h⟩
     ·rw[VM c]at h;simp at h
   ·rintro⟨k,h,c,e⟩;by_cases q:k=n
    ·subst q;rw[VL c];exact .inr (by simp[e])
    ·exact .inl ⟨k,by omega,c,e⟩
theorem uk {sp:af}{x:Int}:∀ {n:Nat},x∈yM sp n↔∃ i k:Nat,i<n/\k<(slN (ag sp i 1)).toNat/\hsB (ag sp i 2) k=true/\x=aaI (ag sp i 0) (ag sp i 1) (ag sp i 2) k
 |0=>by simp[yM]
 | n+1=>by
   rw[yM,Zh,uk,uj]
   constructor
   ·rintro(⟨i,k,h,e⟩|⟨k,h⟩);exact⟨i,k,by omega,e⟩;exact⟨n,k,by omega,h⟩
   ·rintro⟨i,k,h,e⟩;by_cases q:i=n
    ·subst q;exact .inr ⟨k,e⟩
    ·exact .inl ⟨i,k,by omega,e⟩
theorem ui {lg:af}{x:Int}:∀ {n:Nat},x∈BV lg n↔∃ j:Nat,j<n/\x=ag lg j 0*16
 |0=>by simp[BV]
 | n+1=>by
   rw[BV,Zh,ui,Yb]
   constructor
   ·rintro(⟨i,h,e⟩|h);exact⟨i,by omega,e⟩;exact⟨n,by omega,h⟩
   ·rintro⟨i,h,e⟩;by_cases q:i=n
    ·subst q;exact .inr e
    ·exact .inl ⟨i,by omega,e⟩
theorem CF {sp:af}{i:Nat}(h:spOk (ag sp i 0) (ag sp i 1) (ag sp i 2)=true):∀ {n:Nat},n<=(slN (ag sp i 1)).toNat->(Aa sp i n).Nodup
 |0,_=>ZO
 | n+1,hn=>by
   rw[Aa];by_cases c:hsB (ag sp i 2) n=true
   ·rw[VL c];refine qE (CF h (by omega)) (fun m=>?_);obtain⟨k,k1,_,k3⟩:=uj.1 m;have a:=pT (s:=(n:Int)) h (by omega) (by omega);have b:=pT (s:=(k:Int)) h (by omega) (by omega);have q:((k:Int)+1)*clsSz (ag sp i 1)<=(n:Int)*clsSz (ag sp i 1):=Xf (by omega) (by omega);rw[WN]at q;omega
   ·rw[VM c,List.append_nil];exact CF h (by omega)
theorem Hq {sp lg:af}(F:LO sp lg):∀ {n:Nat},n<=sp.length->(yM sp n).Nodup
 |0,_=>ZO
 | n+1,hn=>by
   rw[yM,Zy];refine⟨Hq F (by omega),CF (F.s n (by omega)) (Ze _),fun x hx y hy e=>?_⟩;subst e;obtain⟨i,k,i1,k1,_,e1⟩:=uk.1 hx;obtain⟨k',k2,_,e2⟩:=uj.1 hy;have a:=pT (s:=(k:Int)) (F.s i (by omega)) (by omega) (by omega);have b:=pT (s:=(k':Int)) (F.s n (by omega)) (by omega) (by omega);have:=F.ss i n (by omega) (by omega) (by omega);omega
theorem Hp {sp lg:af}(F:LO sp lg):∀ {n:Nat},n<=lg.length->(BV lg n).Nodup
 |0,_=>ZO
 | n+1,hn=>by
   rw[BV];refine qE (Hp F (by omega)) (fun m=>?_);obtain⟨j,j1,e⟩:=ui.1 m;have t:=mL (F.l j (by omega));have b:=o7 t.1;have t':=mL (F.l n (by omega));have b':=o7 t'.1;have:=F.ll j n (ag lg j 0) (by omega) (by omega) (by omega) (by omega) (by omega) (by omega);omega
theorem OV {sp lg:af}(F:LO sp lg):(Rb sp lg).Nodup:=by
 unfold Rb;rw[Zy];refine⟨Hq F (Ze _),Hp F (Ze _),fun x hx y hy e=>?_⟩;subst e;obtain⟨i,k,i1,k1,_,e1⟩:=uk.1 hx;obtain⟨j,j1,e2⟩:=ui.1 hy;have a:=pT (s:=(k:Int)) (F.s i (by omega)) (by omega) (by omega);have t:=mL (F.l j (by omega));have b:=o7 t.1;exact F.sl i j i1 j1 (by omega) (by omega)
end Go.V
namespace Go.V
theorem fG {p:Int->Bool}{n:Nat}(h:0<=cQ p n):cQ p n<n/\p (cQ p n)=true:=by
 refine⟨by rcases qq (p:=p) (n:=n)with q|q<;>omega,?_⟩;unfold cQ at h ⊢;split at h
 ·rename_i j e;have q:=List.find?_some e;exact q
 ·omega
theorem vt {p:Int->Bool}{n i:Nat}(h:i<n)(hp:p i=true):0<=cQ p n:=by
 unfold cQ;split;omega
 ·rename_i e;rw[List.find?_eq_none]at e;exact absurd hp (e i (List.mem_range.2 h))
theorem v9 {sp:af}{a i:Int}:ya sp a i=true↔BX (ag sp i 0) (ag sp i 1) (ag sp i 2) a=true:=by
 unfold ya;rw[VK]
 constructor
 ·intro h;cases c:BX (ag sp i 0) (ag sp i 1) (ag sp i 2) a with
  |true=>rfl
  |false=>rw[(IF c).1]at h;omega
 ·intro h;obtain⟨h1,h2,h3⟩:=si.1 h;have cb:=lT (mg h1).2.2.1;rw[(wd h).1];exact X8 (by omega) (by omega)
def lvP (sp lg:af)(x:Int):Prop:=(∃ i k:Nat,i<sp.length/\k<(slN (ag sp i 1)).toNat/\hsB (ag sp i 2) k=true/\x=aaI (ag sp i 0) (ag sp i 1) (ag sp i 2) k)\/∃ j:Nat,j<lg.length/\x=ag lg j 0*16
theorem KL {sp lg:af}{x:Int}:x∈Rb sp lg↔lvP sp lg x:=by
 unfold Rb lvP;rw[Zh,uk,ui]
theorem Oi {sp lg:af}{a:Int}(h:0<=fU sp a):dnK sp lg a=(if hsB (ag sp (fU sp a) 2) (wT sp a (fU sp a))then 1 else 2)/\dnO sp lg a=Lp sp a (fU sp a):=by
 unfold dnK dnO;rw[VL h,VL h];exact⟨rfl,rfl⟩
theorem Oh {sp lg:af}{a:Int}(h:¬ 0<=fU sp a)(g:0<=kN lg a):dnK sp lg a=3/\dnO sp lg a=Re lg a (kN lg a):=by
 unfold dnK dnO;rw[VM h,VM h,VL g,VL g];exact⟨rfl,rfl⟩
theorem acO {sp lg:af}{a:Int}(h:¬ 0<=fU sp a)(g:¬ 0<=kN lg a):dnK sp lg a=0/\dnO sp lg a=0:=by
 unfold dnK dnO;rw[VM h,VM h,VM g,VM g];exact⟨rfl,rfl⟩
theorem Mz {sp lg:af}{a:Int}(hl:layOk sp lg=true):HO sp lg a=true↔dnO sp lg a=0/\(dnK sp lg a=1\/dnK sp lg a=3):=by
 unfold HO dzO dzK;rw[VL hl,VL hl];simp only[Zc,Z6,VK]
theorem aah {sp lg:af}{x:Int}(F:LO sp lg)(hl:layOk sp lg=true)(h:HO sp lg x=true):lvP sp lg x:=by
 obtain⟨h1,h2⟩:=(Mz hl).1 h;by_cases c:0<=fU sp x
 ·obtain⟨d1,d2⟩:=Oi (lg:=lg) c;obtain⟨b,q⟩:=fG c;change fU sp x<sp.length at b;change ya sp x (fU sp x)=true at q;rw[d1]at h2;rw[d2]at h1;generalize hF:fU sp x=f at*;obtain⟨f,rfl⟩:=Z8 c;have bf:f<sp.length:=by omega
  have q':=v9.1 q;obtain⟨a1,a2,a3⟩:=si.1 q';obtain⟨e1,e2⟩:=wd q';have cb:=lT (mg a1).2.2.1;have hh:hsB (ag sp f 2) (wT sp x f)=true:=by
   cases c:hsB (ag sp f 2) (wT sp x f)with
   |true=>rfl
   |false=>rw[c]at h2;simp at h2
  unfold Lp at h1;rw[e2]at h1;unfold wT at hh;rw[e1]at hh;have dv:clsSz (ag sp f 1)*((x-ag sp f 0*16)/clsSz (ag sp f 1))=x-ag sp f 0*16:=Int.mul_ediv_cancel_of_emod_eq_zero h1;have nn:0<=(x-ag sp f 0*16)/clsSz (ag sp f 1):=X8 (by omega) (by omega);generalize hs:(x-ag sp f 0*16)/clsSz (ag sp f 1)=s at*;have lt:s<slN (ag sp f 1):=by
   by_cases w:s<slN (ag sp f 1);exact w
   ·have m:slN (ag sp f 1)*clsSz (ag sp f 1)<=s*clsSz (ag sp f 1):=Xf (by omega) (by omega);rw[Wc s]at m;omega
  obtain⟨s,rfl⟩:=Z8 nn;have ae:=pT a1 nn lt;refine .inl ⟨f,s,bf,by omega,hh,?_⟩;have ae1:=ae.1;rw[Wc (s:Int)]at ae1;show x=aaI (ag sp f 0) (ag sp f 1) (ag sp f 2) s;rw[ae1];omega
 ·by_cases g:0<=kN lg x
  ·obtain⟨d1,d2⟩:=Oh c g;obtain⟨b,q⟩:=fG g;change kN lg x<lg.length at b;change xU lg x (kN lg x)=true at q;rw[d2]at h1;generalize hF:kN lg x=f at*;obtain⟨f,rfl⟩:=Z8 g;refine .inr ⟨f,by omega,?_⟩;unfold Re loI at h1;unfold xU at q;rw[VL q]at h1;show x=ag lg f 0*16;omega
  ·obtain⟨d1,d2⟩:=acO c g;rw[d1]at h2;omega
theorem Mj {sp lg:af}{x:Int}(h:0<=fU sp x):∃ f:Nat,fU sp x=f/\f<sp.length/\BX (ag sp f 0) (ag sp f 1) (ag sp f 2) x=true:=by
 obtain⟨b,q⟩:=fG h;obtain⟨f,e⟩:=Z8 h;refine⟨f,e,?_,?_⟩
 ·have:fU sp x<sp.length:=b;rw[e]at this;exact Int.ofNat_lt.1 this
 ·have:ya sp x (fU sp x)=true:=q;rw[e]at this;exact v9.1 this
theorem aag {sp lg:af}{x:Int}(F:LO sp lg)(hl:layOk sp lg=true)(h:lvP sp lg x):HO sp lg x=true:=by
 rw[Mz hl];rcases h with⟨i,k,i1,k1,hh,e⟩|⟨j,j1,e⟩
 ·have a1:=F.s i i1;have cb:=lT (mg a1).2.2.1;have ae:=pT (s:=(k:Int)) a1 (by omega) (by omega);have sb:BX (ag sp i 0) (ag sp i 1) (ag sp i 2) x=true:=si.2 ⟨a1,by omega,by omega⟩;have c:0<=fU sp x:=vt i1 (v9.2 sb);obtain⟨f,e1,f1,f2⟩:=Mj (lg:=lg) c;obtain⟨_,g2,g3⟩:=si.1 f2;have:f=i:=F.ss f i f1 i1 (by omega);subst this;obtain⟨d1,d2⟩:=Oi (lg:=lg) c;rw[d1,d2,e1];obtain⟨y1,y2⟩:=wd sb;have xe:x-ag sp f 0*16=k*clsSz (ag sp f 1):=by omega
  unfold wT Lp;rw[y1,y2,xe,Int.mul_ediv_cancel _ (by omega),VL hh];exact⟨Int.mul_emod_left _ _,.inl rfl⟩
 ·have t:=mL (F.l j j1);have b:=o7 t.1;have r:=bi.1 t.1;have c:¬ 0<=fU sp x:=fun c=>by
   obtain⟨f,e1,f1,f2⟩:=Mj (lg:=lg) c;obtain⟨_,g2,g3⟩:=si.1 f2;exact F.sl f j f1 j1 (by omega) (by omega)
  have lb:lhB (ag lg j 0) (ag lg j 1) (ag lg j 2) x=true:=Ps.2 ⟨F.l j j1,by omega,by omega⟩;have g:0<=kN lg x:=vt j1 (show xU lg x j=true from lb);obtain⟨d1,d2⟩:=Oh c g;obtain⟨b1,q⟩:=fG g;change kN lg x<lg.length at b1;change xU lg x (kN lg x)=true at q;rw[d1,d2];generalize hF:kN lg x=f at*;obtain⟨f,rfl⟩:=Z8 g;have f1:f<lg.length:=by omega
  have q':lhB (ag lg f 0) (ag lg f 1) (ag lg f 2) x=true:=q;obtain⟨_,u1,u2⟩:=Ps.1 q';have t2:=mL (F.l f f1);have b2:=o7 t2.1;have:f=j:=F.ll f j (ag lg j 0) f1 j1 (by omega) (by omega) (by omega) (by omega);subst this;refine⟨?_,.inr rfl⟩;show loI (ag lg f 0) (ag lg f 1) (ag lg f 2) x=0;unfold loI;rw[VL lb];omega
def Pw (sp lg:af):Nat->List Int
 |0=>[]
 |n+1=>Pw sp lg n++(if HO sp lg n then[(n:Int)]else[])
theorem yR {sp lg:af}:∀ n:Nat,Ph sp lg n=kK (Pw sp lg n)
 |0=>rfl
 | n+1=>by
   rw[Ph,Pw,zm,yR n];by_cases c:HO sp lg n=true
   ·rw[VL c,VL c];rfl
   ·rw[VM c,VM c];rfl
theorem uq {sp lg:af}{x:Int}:∀ {n:Nat},x∈Pw sp lg n↔0<=x/\x<n/\HO sp lg x=true
 |0=>⟨(fun h=>by cases h),(fun h=>absurd h.2.1 (by omega))⟩
 | n+1=>by
   rw[Pw,Zh,uq]
   constructor
   ·rintro(h|h);exact⟨h.1,by omega,h.2.2⟩
    ·by_cases c:HO sp lg n=true
     ·rw[VL c,Yb]at h;subst h;exact⟨by omega,by omega,c⟩
     ·rw[VM c]at h;cases h
   ·rintro⟨h1,h2,h3⟩;by_cases q:x=n
    ·subst q;rw[VL h3];exact .inr (by simp)
    ·exact .inl ⟨h1,by omega,h3⟩
theorem Im {sp lg:af}:∀ n:Nat,(Pw sp lg n).Pairwise (· < ·)
 |0=>Vv
 | n+1=>by
   rw[Pw,List.pairwise_append];refine⟨Im n,?_,fun a ha b hb=>?_⟩
   ·by_cases c:HO sp lg n=true
    ·rw[VL c];simp
    ·rw[VM c];simp
   ·have m:=uq.1 ha;by_cases c:HO sp lg n=true
    ·rw[VL c,Yb]at hb;omega
    ·rw[VM c]at hb;cases hb
theorem K5 {l:List Int}(h:l.Nodup):(l.mergeSort fun x y=>decide (x<=y)).Pairwise (· < ·):=by
 have p:=List.pairwise_mergeSort (le:=fun x y:Int=>decide (x<=y)) (fun a b c h1 h2=>by simp only[VK]at*;omega) (fun a b=>by simp only[Z6,VK];omega) l;have n:(l.mergeSort fun x y=>decide (x<=y)).Nodup:=(WO l _).nodup_iff.2 h;refine Vw (R:=fun a b=>decide (a<=b)=true) (S:=(· ≠ ·)) (T:=(· < ·)) (fun a b h1 h2=>?_) p n;simp only[VK]at h1;omega
theorem KI {sp lg:af}:iaL sp lg=BW sp lg:=by
 unfold iaL BW;by_cases hl:layOk sp lg=true
 ·rw[VL hl,VL hl];have F:=MB hl;unfold srtL;rw[CM,yR];refine congrArg kK (uG (K5 (OV F)) (Im 512) (fun x=>?_));rw[(WO _ _).mem_iff,KL,uq]
  constructor
  ·intro h;have v:=aag F hl h;refine⟨?_,?_,v⟩
   ·rcases h with⟨i,k,i1,k1,_,e⟩|⟨j,j1,e⟩
    ·have ae:=pT (s:=(k:Int)) (F.s i i1) (by omega) (by omega);have t:=mg (F.s i i1);omega
    ·have t:=mL (F.l j j1);omega
   ·rcases h with⟨i,k,i1,k1,_,e⟩|⟨j,j1,e⟩
    ·have ae:=pT (s:=(k:Int)) (F.s i i1) (by omega) (by omega);have t:=mg (F.s i i1);omega
    ·have t:=mL (F.l j j1);have b:=o7 t.1;omega
  ·rintro⟨_,_,h⟩;exact aah F hl h
 ·rw[VM hl,VM hl]
end Go.V
namespace Go.V
def tV (qs:af)(a j:Int):Bool:=eqB (ag qs j 0) a
def qtI (qs:af)(a:Int):Int:=cQ (tV qs a) qs.length
def qtB (qs:af)(a:Int):Bool:=decide (0<=qtI qs a)
theorem Qd {qs:af}{a i:Int}(h:upto (cK (tV qs a)) i)(h0:0<=i)(h1:i<qs.length)(e:ag qs i 0=a):qtB qs a=true:=by
 unfold qtB qtI;rw[du h h0 h1 (vm e)];exact VI h0
theorem abg {qs:af}{a i:Int}(h:upto (cK (tV qs a)) i)(h1:(qs.length:Int)<=i):qtB qs a=false:=by
 unfold qtB qtI;rw[d7 h h1];rfl
end Go.V
namespace Go.V
structure Nx (ls:af):Prop where
 w:Rw [.sl [tI]] ls
 l:ls.length<=1099511627776
 n:∀ i:Int,(aO ls i 0).length<=1099511627776
theorem Nx.el {ls:af}(h:Nx ls){i:Int}(h0:0<=i)(h1:i<ls.length):Rw [tI] (aO ls i 0)/\(aO ls i 0).length<=1099511627776:=
 ⟨Rw.sub (fs:=[.sl [tI]]) h.w (by omega) rfl,h.n i⟩
end Go.V
namespace Go.V
def Ie (b:af)(i k:Int):Bool:=inR (ag (aO b i 0) k 0) 0 ((b.length:Int)-1)&&decide (0<=ag (aO b i 0) k 1)
def Jz (x:af)(i k:Int):Bool:=decide (0<=ag (aO x i 0) k 0)
def Rl (b x:af)(i:Int):Bool:=dt (Ie b i) (aO b i 0).length&&dt (Jz x i) (aO x i 0).length
def KP (b x:af):Nat->Int
 |0=>0
 |n+1=>KP b x n+((aO b n 0).length+(aO x n 0).length)
def mailOk (b x:af):Bool:=inR b.length 1 4&&(decide (x.length=b.length)&&(dt (Rl b x) b.length&&decide (KP b x b.length<=30)))
structure F7 (b x:af):Prop where
 bw:Rw [.sl [tI,tI]] b
 xw:Rw [.sl [tI]] x
 bl:b.length<=1099511627776
 xl:x.length<=1099511627776
 bn:∀ i:Int,(aO b i 0).length<=1099511627776
 xn:∀ i:Int,(aO x i 0).length<=1099511627776
theorem MF {b x:af}(h:F7 b x):∀ n:Nat,0<=KP b x n/\KP b x n<=2199023255552*n
 |0=>⟨Yn _,Yn _⟩
 | n+1=>by
   have q:=MF h n;have p1:=h.bn n;have p2:=h.xn n;rw[KP];omega
structure Nw (b x:af)(i t:Int):Prop where
 ok:upto (Rl b x) i
 t:t=KP b x i.toNat
theorem ad6 {b x:af}:Nw b x 0 0:=⟨bV,rfl⟩
theorem ad7 {b x:af}{i t:Int}(N:F7 b x)(h:Nw b x i t)(i0:0<=i)(i1:i<=4):0<=t/\t<=8796093022208:=by
 have q:=MF N i.toNat;have e:=h.t;omega
theorem aak {b x:af}{i t k j:Int}(h:Nw b x i t)(i0:0<=i)(hp:upto (Ie b i) k)(k1:((aO b i 0).length:Int)<=k)(ha:upto (Jz x i) j)(j1:((aO x i 0).length:Int)<=j):Nw b x (i+1) (t+((aO b i 0).length+(aO x i 0).length)):=by
 refine⟨bN h.ok ?_,?_⟩
 ·unfold Rl;rw[cu hp k1,cu ha j1];rfl
 ·rw[show(i+1).toNat=i.toNat+1 from by omega,KP, <-h.t,Zr i0]
theorem PE {b x:af}(h:inR b.length 1 4=false):mailOk b x=false:=by unfold mailOk;rw[h];rfl
theorem PF {b x:af}(h:(x.length:Int)≠b.length):mailOk b x=false:=by
 unfold mailOk;rw[VJ (p:=x.length=b.length) (by omega)];simp
theorem ME {b x:af}{i:Int}(i0:0<=i)(i1:i<b.length)(h:Rl b x i=false):mailOk b x=false:=by
 unfold mailOk;rw[cN i0 i1 h];simp
theorem HS {b x:af}{i k:Int}(i0:0<=i)(i1:i<b.length)(k0:0<=k)(k1:k<(aO b i 0).length)(h:Ie b i k=false):mailOk b x=false:=
 ME i0 i1 (by unfold Rl;rw[cN k0 k1 h];rfl)
theorem PG {b x:af}{i k:Int}(i0:0<=i)(i1:i<b.length)(k0:0<=k)(k1:k<(aO x i 0).length)(h:Jz x i k=false):mailOk b x=false:=
 ME i0 i1 (by unfold Rl;rw[cN k0 k1 h,Yf])
theorem PD {b x:af}{i t:Int}(h:Nw b x i t)(h1:inR b.length 1 4=true)(h2:(x.length:Int)=b.length)(i1:i<=b.length)(i2:(b.length:Int)<=i):mailOk b x=decide (t<=30):=by
 have e:i.toNat=b.length:=by omega
 have q:=h.t;rw[e]at q;unfold mailOk;rw[h1,VI (p:=x.length=b.length) (by omega),cu h.ok i2, <-q];rfl
theorem aaP {b:af}{i k:Int}(h:inR (ag (aO b i 0) k 0) 0 ((b.length:Int)-1)=false):Ie b i k=false:=by unfold Ie;rw[h];rfl
theorem aaQ {b:af}{i k:Int}(h:ag (aO b i 0) k 1<0):Ie b i k=false:=by unfold Ie;rw[VJ (by omega),Yf]
theorem aaR {b:af}{i k:Int}(h:inR (ag (aO b i 0) k 0) 0 ((b.length:Int)-1)=true)(g:0<=ag (aO b i 0) k 1):Ie b i k=true:=by unfold Ie;rw[h,VI g];rfl
theorem acu {x:af}{i k:Int}(h:ag (aO x i 0) k 0<0):Jz x i k=false:=by unfold Jz;rw[VJ (by omega)]
theorem Ru {x:af}{i k:Int}(h:0<=ag (aO x i 0) k 0):Jz x i k=true:=by unfold Jz;rw[VI h]
end Go.V
namespace Go.V
def Mg (b:af)(i:Int):Nat->af
 |0=>[]
 |n+1=>Mg b i n++[[.i (ag (aO b i 0) n 1)]]
def G6 (b:af):Nat->af
 |0=>[]
 |n+1=>G6 b n++Mg b n (aO b n 0).length
def Fl (x:af):Nat->af
 |0=>[]
 |n+1=>Fl x n++aO x n 0
def ifL (b x:af):af:=if mailOk b x then G6 b b.length++Fl x x.length else[]
theorem PH {b x:af}(h:mailOk b x=true):b.length<=4/\x.length=b.length:=by
 unfold mailOk at h;simp only[Zc,VK,bi]at h;omega
structure QW (b:af)(i:Int)(o:af):Prop where
 e:o=G6 b i.toNat
 l:o.length<=1099511627776*i.toNat
structure QX (b:af)(i k:Int)(o:af):Prop where
 e:o=G6 b i.toNat++Mg b i k.toNat
 l:o.length<=1099511627776*i.toNat+k.toNat
structure QY (b x:af)(j:Int)(o:af):Prop where
 e:o=G6 b b.length++Fl x j.toNat
 l:o.length<=1099511627776*b.length+1099511627776*j.toNat
theorem acS {b:af}:QW b 0 []:=⟨rfl,ZC _⟩
theorem ac2 {b o:af}{i:Int}(h:QW b i o):QX b i 0 o:=⟨by rw[h.e];simp[Mg],by have:=h.l;omega⟩
theorem SG {b o:af}{i k:Int}(h:QX b i k o)(k0:0<=k):QX b i (k+1) (o++[[.i (ag (aO b i 0) k 1)]]):=by
 have l:=h.l;have e:=h.e;refine⟨?_,?_⟩
 ·rw[show(k+1).toNat=k.toNat+1 from by omega,Mg,Zr k0, <-Zs, <-e]
 ·rw[Zf,Zj,Zl];omega
theorem Ov {b o:af}{i k:Int}(h:QX b i k o)(i0:0<=i)(hn:(aO b i 0).length<=1099511627776)(k1:k<=((aO b i 0).length:Int))(k2:((aO b i 0).length:Int)<=k):QW b (i+1) o:=by
 have l:=h.l;have e:=h.e;have ek:k.toNat=(aO b i 0).length:=by omega
 refine⟨?_,by omega⟩;rw[show(i+1).toNat=i.toNat+1 from by omega,G6,Zr i0, <-ek];exact e
theorem ac4 {b x o:af}{i:Int}(h:QW b i o)(i1:i<=b.length)(i2:(b.length:Int)<=i):QY b x 0 o:=by
 have l:=h.l;have e:=h.e;have ei:i.toNat=b.length:=by omega
 rw[ei]at e l;exact⟨by rw[e];simp[Fl],by omega⟩
theorem S7 {b x o:af}{j:Int}(h:QY b x j o)(j0:0<=j)(hn:(aO x j 0).length<=1099511627776):QY b x (j+1) (o++aO x j 0):=by
 have l:=h.l;have e:=h.e;refine⟨?_,?_⟩
 ·rw[show(j+1).toNat=j.toNat+1 from by omega,Fl,Zr j0, <-Zs, <-e]
 ·rw[Zf];omega
theorem OH {b x o:af}{j:Int}(h:QY b x j o)(hm:mailOk b x=true)(j1:j<=x.length)(j2:(x.length:Int)<=j):o=ifL b x:=by
 have e:=h.e;rw[show j.toNat=x.length from by omega]at e;unfold ifL;rw[VL hm];exact e
theorem adH {b x:af}(hm:mailOk b x=false):([]:af)=ifL b x:=by unfold ifL;rw[hm];rfl
end Go.V
namespace Go.V
structure NsC (cs:af):Prop where
 w:Rw [.sl [.sl [tI]]] cs
 l:cs.length<=1099511627776
 n:∀ i:Int,0<=i->i<cs.length->Nx (aO cs i 0)
end Go.V
namespace Go.V
theorem xA:∀ {fs:List Ty} {e:aP} {j:Nat},bR fs e->fs[j]?=some tI->∃ n,e[j]?=some (.i n)/\ -9223372036854775808<=n/\n<=9223372036854775807
 |[],_,j,_,h=>by simp at h
 |_::_,[],j,h,_=>h.elim
 | t::ts,l::ls,0,h,e=>by
   simp at e;subst e;have h1:=h.1;cases l with
   | v x=>cases x with
     |int k n=>simp only[dj]at h1;exact⟨n,by simp[h1.1],adJ h1.2⟩
     |_=>simp[dj]at h1
   |_=>simp[dj]at h1
 | t::ts,l::ls,j+1,h,e=>by
   simp at e;obtain⟨n,h1,h2⟩:=xA h.2 e;exact⟨n,by simpa using h1,h2⟩
theorem AP {fs:List Ty}{es:af}{i:Int}{j:Nat}(h:Rw fs es)(hj:fs[j]?=some tI)(h1:i.toNat<es.length): -9223372036854775808<=ag es i j/\ag es i j<=9223372036854775807:=by
 obtain⟨n,e,b⟩:=xA (h.at h1) hj;unfold ag;rw[Zn (l:=es.getD i.toNat []),e];exact b
theorem Qp {x:Int}(h: -9223372036854775808<=x/\x<=9223372036854775807):Rw [tI] [[.i x]]:=Rw.one (fs:=[tI]) ⟨⟨rfl,h⟩,trivial⟩
def Ri (os:af)(f:Nat):Nat->af
 |0=>[]
 |n+1=>Ri os f n++[[.i (ag os n f)]]
def clR (ls:af):Nat->af
 |0=>[]
 |n+1=>clR ls n++aO ls n 0
def ccR (cs:af):Nat->af
 |0=>[]
 |n+1=>ccR cs n++clR (aO cs n 0) (aO cs n 0).length
theorem vC {es:af}{n j:Nat}(h:n<es.length):av (aO es n j)<=gx (es.getD n []):=by
 unfold aO;rw[ZJ];generalize es.getD n []=r;cases e:r[j]? with
 |none=>rw[Zn,e];exact ZC _
 | some l=>
   rw[Zn,e];have q:=D5 e;cases l with
   |s sz es=>exact q
   |_=>exact ZC _
theorem mD {es:af}{n:Nat}(h:n<es.length):cP (es.take (n+1))=cP (es.take n)+gx (es.getD n []):=by
 rw[ky (d:=[]) h,eh];simp[cP]
theorem Ax {es:af}{n:Nat}:cP (es.take n)<=cP es:=by
 conv=>rhs;rw[<-ZS n es,eh]
 omega
theorem qt {b:af}{i:Int}:∀ n,(Mg b i n).length=n
 |0=>rfl
 |n+1=>by rw[Mg,Zf,qt n];rfl
theorem HW {b x:af}:∀ n:Nat,(((G6 b n).length+(Fl x n).length:Nat):Int)=KP b x n
 |0=>rfl
 | n+1=>by
   have q:=HW (b:=b) (x:=x) n;rw[KP,G6,Fl,Zf,Zf,qt, <-q];omega
theorem O2 {b x:af}:(ifL b x).length<=30:=by
 unfold ifL;by_cases c:mailOk b x=true
 ·rw[VL c,Zf];have t:=PH c;unfold mailOk at c;simp only[Zc,VK]at c;have q:=HW (b:=b) (x:=x) b.length;rw[t.2];omega
 ·rw[VM c];exact ZC _
theorem G9 {b x:af}{i:Int}(h:F7 b x)(i0:0<=i)(i1:i<b.length):∀ n,n<=(aO b i 0).length->Rw [tI] (Mg b i n)
 |0,_=>Rw.nil
 | n+1,hn=>Rw.append (G9 h i0 i1 n (by omega)) (Qp (AP (fs:=[tI,tI]) (Rw.sub (fs:=[.sl [tI,tI]]) h.bw (by omega) rfl) rfl (by omega))) (by
    have:=h.bn i;rw[qt];unfold maxLen;simp only[Zj,Zl];omega)
theorem G7 {b x:af}(h:F7 b x)(hb:b.length<=4):∀ n,n<=b.length->Rw [tI] (G6 b n)/\(G6 b n).length<=n*1099511627776
 |0,_=>⟨Rw.nil,ZC _⟩
 | n+1,hn=>by
   obtain⟨q1,q2⟩:=G7 h hb n (by omega);have l:=h.bn n;refine⟨Rw.append q1 (G9 h (by omega) (by omega) _ (Ze _)) (by rw[qt];unfold maxLen;omega),?_⟩;rw[G6,Zf,qt];omega
theorem Hf {b x:af}(h:F7 b x)(hb:x.length<=4):∀ n,n<=x.length->Rw [tI] (Fl x n)/\(Fl x n).length<=n*1099511627776
 |0,_=>⟨Rw.nil,ZC _⟩
 | n+1,hn=>by
   obtain⟨q1,q2⟩:=Hf h hb n (by omega);have l:=h.xn n;refine⟨Rw.append q1 (Rw.sub (fs:=[.sl [tI]]) h.xw (by omega) rfl) (by unfold maxLen;omega),?_⟩;rw[Fl,Zf];omega
theorem TN {b x:af}(h:F7 b x):Rw [tI] (ifL b x):=by
 unfold ifL;by_cases c:mailOk b x=true
 ·rw[VL c];have t:=PH c;obtain⟨q1,l1⟩:=G7 h t.1 b.length (Ze _);obtain⟨q2,l2⟩:=Hf h (by omega) x.length (Ze _);exact Rw.append q1 q2 (by unfold maxLen;omega)
 ·rw[VM c];exact Rw.nil
structure NsH (sp lg os cs b x qs:af):Prop where
 sw:Rw [tI,tI,tI] sp
 lw:Rw [tI,tI,tI] lg
 ow:Rw [tI,tI,tI,tI] os
 cw:Rw [.sl [.sl [tI]]] cs
 qw:Rw [tI,tI,tI] qs
 m:F7 b x
 c:NsC cs
 sl:sp.length<=1073741824
 ll:lg.length<=1073741824
 ol:os.length<=1073741824
 ql:qs.length<=1073741824
 cl:av cs<=1073741824
structure O1P (os:af)(i:Int)(o:af):Prop where
 e:o=Ri os 1 i.toNat
structure O2P (os cs:af)(i:Int)(o:af):Prop where
 e:o=Ri os 1 os.length++ccR cs i.toNat
structure O3P (os cs:af)(i k:Int)(o:af):Prop where
 e:o=Ri os 1 os.length++ccR cs i.toNat++clR (aO cs i 0) k.toNat
structure O4P (os cs qs:af)(j:Int)(o:af):Prop where
 e:o=Ri os 1 os.length++ccR cs cs.length++Ri qs 0 j.toNat
section
variable {sp lg os cs b x qs o: af} {i k j: Int}
end
def Ra (e:aP):Int:=KG (e.getD 0 .g)
def flN (p:Int->Bool)(l:af):Nat->af
 |0=>[]
 |n+1=>flN p l n++(if p (ag l n 0)then[[.i (ag l n 0)]]else[])
structure ae5 (p:Int->Bool)(l:af)(i:Int)(o:af):Prop where
 e:o=flN p l i.toNat
 l:o.length<=i.toNat
section
variable {p: Int -> Bool} {l o: af} {i: Int}
end
theorem HG {sp lg:af}:(BW sp lg).length<=512:=by
 have k:∀ n,(Ph sp lg n).length<=n:=by
  intro n
  induction n with
  |zero=>exact Ze _
  |succ n ih=>rw[Ph,Zf];split<;>simp<;>omega
 unfold BW;split;exact k 512;exact ZC _
theorem T9 {sp lg:af}:Rw [tI] (BW sp lg):=by
 unfold BW;by_cases c:layOk sp lg=true
 ·rw[VL c,yR];refine IE (fun x hx=>?_) ?_
  ·have:=uq.1 hx;omega
  ·have q:=HG (sp:=sp) (lg:=lg);unfold BW at q;rw[VL c,yR,jX]at q;omega
 ·rw[VM c];exact Rw.nil
theorem MH {l:af}{i:Int}(h:Rw [tI] l)(h0:0<=i)(h1:i<l.length):∃ rec o,bQ (L.s 1 l) [(i.toNat,0)]=some (rec,o)/\o+[L.v (Zi Zt 0)].length<=rec.length/\Z7 [L.v (Zi Zt 0)].length (Ym o rec)=jL am (L.s 1 l) [(i.toNat,0)] 0 [L.v (Zi Zt 0)]:=
 d8 (z0:=[.i 0]) (z:=[.i 0]) h.wf (by omega) rfl (by decide)
theorem iN {es:af}{i:Int}{j:Nat}:av (aO es i j)<=av es:=by
 by_cases c:i.toNat<es.length
 ·have q:=vC (j:=j) c;rw[show aO es (i.toNat:Nat) j=aO es i j from by unfold aO;rw[ZJ]]at q;have d:=mD c;have e:=Ax (es:=es) (n:=i.toNat+1);unfold av at q ⊢;omega
 ·have e:aO es i j=[]:=by
   unfold aO;rw[Zn (l:=es),List.getElem?_eq_none (by omega)];simp[Mx]
  rw[e];exact ZC _
theorem PS {ls:af}(h:Rw [.sl [tI]] ls)(hc:av ls<=1073741824):Nx ls:=by
 refine⟨h,by unfold av at hc;omega,fun i=>?_⟩;have:=iN (es:=ls) (i:=i) (j:=0);unfold av at this hc;omega
theorem PR {cs:af}(h:Rw [.sl [.sl [tI]]] cs)(hc:av cs<=1073741824):NsC cs:=by
 refine⟨h,by unfold av at hc;omega,fun i i0 i1=>PS (Rw.sub (fs:=[.sl [.sl [tI]]]) h (by omega) rfl) ?_⟩;exact ZI iN hc
theorem H2 {b x:af}(hb:Rw [.sl [tI,tI]] b)(hx:Rw [.sl [tI]] x)(cb:av b<=1073741824)(cx:av x<=1073741824):F7 b x:=by
 refine⟨hb,hx,by unfold av at cb;omega,by unfold av at cx;omega,fun i=>?_,fun i=>?_⟩
 ·have:=iN (es:=b) (i:=i) (j:=0);unfold av at this cb;omega
 ·have:=iN (es:=x) (i:=i) (j:=0);unfold av at this cx;omega
end Go.V
namespace Go.V
theorem IU {i:Int}(h:0<=i)(h1:i<=9223372036854775807):bO .sub Za i 1=i-1:=f9 (by omega)
theorem Ds {es:af}{i:Int}:mi es (Int.toNat 0) (BS i 0)=es.take i.toNat:=by simp[mi,BS]
theorem cmp_eq {a b:Int}:cT .eql a b=decide (a=b):=by unfold cT;by_cases c:a=b<;>simp[c]
theorem GP {a b:Int}:cT .neq a b=decide (a≠b):=by unfold cT;by_cases c:a=b<;>simp[c]
def rngIn (n a l:Int):Bool:=inR l 1 n&&inR a 0 (n-l)
def vY (n:Int)(rs:af)(i:Int):Bool:=rngIn n (ag rs i 0) (ag rs i 1)&& !(decide (0<i)&&decide (ag rs i 0<=bO .add Za (ag rs (i-1) 0) (ag rs (i-1) 1)))
def rgOk (n:Int)(rs:af):Bool:=dt (vY n rs) rs.length&&inR n 1 32
section
variable {n i: Int} {rs: af}
theorem Qi (i0:0<=i)(i1:i<rs.length)(h:rngIn n (ag rs i 0) (ag rs i 1)=false):rgOk n rs=false:=by
 unfold rgOk;rw[cN i0 i1 (by unfold vY;rw[h];rfl)];rfl
theorem Qj (i0:0<=i)(i1:i<rs.length)(h:0<i)(g:ag rs i 0<=bO .add Za (ag rs (i-1) 0) (ag rs (i-1) 1)):rgOk n rs=false:=by
 unfold rgOk;rw[cN i0 i1 (by unfold vY;rw[VI h,VI g];simp)];rfl
theorem Le (h:rngIn n (ag rs i 0) (ag rs i 1)=true)(g:i<=0):vY n rs i=true:=by
 unfold vY;rw[h,VJ (by omega)];rfl
theorem Lf (h:rngIn n (ag rs i 0) (ag rs i 1)=true)(g:bO .add Za (ag rs (i-1) 0) (ag rs (i-1) 1)<ag rs i 0):vY n rs i=true:=by
 unfold vY;rw[h,VJ (p:=ag rs i 0<=_) (by omega)];simp
theorem Qh (h:upto (vY n rs) i)(g:(rs.length:Int)<=i):inR n 1 32=rgOk n rs:=by unfold rgOk;rw[cu h g];rfl
end
def HB (rs:af)(p j:Int):Bool:=decide (ag rs j 0<=p)&&decide (p<bO .add Za (ag rs j 0) (ag rs j 1))
def rhI (rs:af)(p:Int):Int:=cQ (HB rs p) rs.length
def rhB (rs:af)(p:Int):Bool:=decide (0<=rhI rs p)
def rh1 (a l p:Int):Bool:=decide (a<=p)&&decide (p<bO .add Za a l)
def mshB (p1 k1 b1 p2 k2 b2:Int):Bool:=spOk p1 k1 b1&&(spOk p2 k2 b2&&(decide (k1=k2)&&(decide (p1≠p2)&&decide (bO .and Za b1 b2=0))))
def Jo (qs:af):Nat->Int
 |0=>0
 |n+1=>Jo qs n+clsSz (ag qs n 1)
def qcI (qs:af):Int:=Jo qs qs.length
theorem D3 {k:Int}:0<=clsSz k/\clsSz k<=8:=by
 unfold clsSz;repeat' split
 all_goals omega
theorem MM {qs:af}:∀ n:Nat,0<=Jo qs n/\Jo qs n<=8*n
 |0=>⟨Yn _,Yn _⟩
 |n+1=>by have q:=MM (qs:=qs) n;have c:=D3 (k:=ag qs n 1);rw[Jo];omega
structure NB (qs:af)(i t:Int):Prop where
 e:t=Jo qs i.toNat
theorem aep {qs:af}:NB qs 0 0:=⟨rfl⟩
theorem aeq {qs:af}{i t:Int}(h:NB qs i t)(i0:0<=i):0<=t/\t<=8*i:=by have q:=MM (qs:=qs) i.toNat;rw[<-h.e]at q;omega
theorem aa7 {qs:af}{i t:Int}(h:NB qs i t)(i0:0<=i)(i1:i<=1099511627776):NB qs (i+1) (bO .add Za t (clsSz (ag qs i 1))):=by
 have b:=aeq h i0;have c:=D3 (k:=ag qs i 1);refine⟨?_⟩;rw[show bO .add Za t (clsSz (ag qs i 1))=t+clsSz (ag qs i 1)from cE (by omega),show(i+1).toNat=i.toNat+1 from by omega,Jo, <-h.e,Zr i0]
theorem P8 {qs:af}{i t:Int}(h:NB qs i t)(i1:i<=qs.length)(i2:(qs.length:Int)<=i):t=qcI qs:=by unfold qcI;rw[h.e,show i.toNat=qs.length from by omega]
def stlOk (b:af)(a c s:Int):Bool:=inR c 0 3&&(decide (0<=a)&&(decide (0<=s)&&(!qtB b a&&(decide (b.length=0)||decide (ag b (b.length-1:Int) 2<=s)))))
def Qc (qs:af)(i:Int):Bool:=stlOk (qs.take i.toNat) (ag qs i 0) (ag qs i 1) (ag qs i 2)
def quarOk (rm:Int)(qs:af):Bool:=dt (Qc qs) qs.length&&(inR rm 0 500&&decide (qcI qs<=rm))
theorem Kj {es:af}{n:Nat}{i:Int}{j:Nat}(h:i.toNat<n):ag (es.take n) i j=ag es i j:=by
 unfold ag;rw[Zn (l:=es.take n),List.getElem?_take,VL h,Zn (l:=es)]
section
variable {rm i: Int} {qs: af}
theorem abb (i0:0<=i)(i1:i<qs.length)(h:Qc qs i=false):quarOk rm qs=false:=by unfold quarOk;rw[cN i0 i1 h];rfl
theorem Qb (h:upto (Qc qs) i)(g:(qs.length:Int)<=i):quarOk rm qs=(inR rm 0 500&&decide (qcI qs<=rm)):=by unfold quarOk;rw[cu h g];rfl
end
def wQ (ls:af)(i:Int):Nat->List Int
 |0=>[]
 |n+1=>wQ ls i n++[ag (aO ls i 0) n 0]
def vd (ls:af):Nat->List Int
 |0=>[]
 |n+1=>vd ls n++wQ ls n (aO ls n 0).length
def JR (ls:af)(i k:Int):Bool:=inR (ag (aO ls i 0) k 0) 0 511&&decide (bO .rem Za (ag (aO ls i 0) k 0) (clsSz i)=0)
def JQ (ls:af)(i:Int):Bool:=decide ((aO ls i 0).length<=8)&&dt (JR ls i) (aO ls i 0).length
def caOk (ls:af):Bool:=decide (ls.length=4)&&(dt (JQ ls) 4&&decide ((vd ls 4).Nodup))
theorem DY {ls:af}{i:Int}:∀ n,(wQ ls i n).length=n
 |0=>rfl
 |n+1=>by rw[wQ,Zf,DY n];rfl
theorem DZ {ls:af}{i:Int}:∀ (m n:Nat),n<=m->∃ r,wQ ls i m=wQ ls i n++r
 |0,n,h=>⟨[],by rw[show n=0 from by omega];rfl⟩
 | m+1,n,h=>by
   by_cases c:n=m+1
   ·subst c;exact⟨[],by simp⟩
   ·obtain⟨r,e⟩:=DZ (ls:=ls) (i:=i) m n (by omega);exact⟨r++[ag (aO ls i 0) m 0],by rw[wQ,e,Zs]⟩
theorem D1 {ls:af}:∀ (m n:Nat),n<=m->∃ r,vd ls m=vd ls n++r
 |0,n,h=>⟨[],by rw[show n=0 from by omega];rfl⟩
 | m+1,n,h=>by
   by_cases c:n=m+1
   ·subst c;exact⟨[],by simp⟩
   ·obtain⟨r,e⟩:=D1 (ls:=ls) m n (by omega);exact⟨r++wQ ls m (aO ls m 0).length,by rw[vd,e,Zs]⟩
theorem yu {ls:af}{i k:Int}(h:0<=k):wQ ls i (k+1).toNat=wQ ls i k.toNat++[ag (aO ls i 0) k 0]:=by
 rw[show(k+1).toNat=k.toNat+1 from by omega,wQ,Zr h]
theorem yv {ls:af}{i:Int}(h:0<=i):vd ls (i+1).toNat=vd ls i.toNat++wQ ls i (aO ls i 0).length:=by
 rw[show(i+1).toNat=i.toNat+1 from by omega,vd,Zr h]
structure Nq (ls:af)(i:Int):Prop where
 ok:upto (JQ ls) i
 nd:(vd ls i.toNat).Nodup
 l:i<=4
 b:∀ x∈vd ls i.toNat,0<=x/\x<=511
 n:(vd ls i.toNat).length<=8*i.toNat
structure QV (ls:af)(i k:Int):Prop where
 ok:upto (JQ ls) i
 nd:(vd ls i.toNat++wQ ls i k.toNat).Nodup
 l:i<=3
 s:(aO ls i 0).length<=8
 bk:upto (JR ls i) k
 b:∀ x∈vd ls i.toNat++wQ ls i k.toNat,0<=x/\x<=511
 n:(vd ls i.toNat).length<=8*i.toNat
section
variable {ls: af} {i k: Int}
theorem acC:Nq ls 0:=⟨bV,ZO,by omega,(fun x hx=>by cases hx),ZC _⟩
theorem acD (h:Nq ls i)(i0:0<=i)(c:inR i 0 3=true)(s:(aO ls i 0).length<=8):QV ls i 0:=
 ⟨h.ok,by simpa[wQ]using h.nd,(bi.1 c).2,s,bV,by simpa[wQ]using h.b,h.n⟩
theorem RO (h:QV ls i k)(k0:0<=k)(h1:inR (ag (aO ls i 0) k 0) 0 511=true)(h2:bO .rem Za (ag (aO ls i 0) k 0) (clsSz i)=0)(h3:ag (aO ls i 0) k 0∉vd ls i.toNat++wQ ls i k.toNat):QV ls i (k+1):=by
 refine⟨h.ok,?_,h.l,h.s,bN h.bk (by unfold JR;rw[h1,VI h2];rfl),?_,h.n⟩
 ·rw[yu k0, <-Zs];exact qE h.nd h3
 ·rw[yu k0, <-Zs];intro x hx;rcases Zh.1 hx with q|q;exact h.b x q
  ·simp at q;subst q;exact bi.1 h1
theorem RI (h:QV ls i k)(i0:0<=i)(k1:k<=((aO ls i 0).length:Int))(k2:((aO ls i 0).length:Int)<=k):Nq ls (i+1):=by
 have e:k.toNat=(aO ls i 0).length:=by omega
 have nd:=h.nd;have b:=h.b;have n:=h.n;have s:=h.s;have l:=h.l;rw[e, <-yv i0]at nd b;refine⟨bN h.ok (by unfold JQ;rw[VI h.s,cu h.bk k2];rfl),nd,by omega,b,?_⟩;rw[yv i0,Zf,DY];omega
theorem Ck (h:(ls.length:Int)≠4):caOk ls=false:=by unfold caOk;rw[VJ (by omega)];rfl
theorem LX (i0:0<=i)(l:i<=3)(h:JQ ls i=false):caOk ls=false:=by unfold caOk;rw[cN (n:=4) i0 (by omega) h];simp
theorem NR (i0:0<=i)(h:8<(aO ls i 0).length)(l:i<=3):caOk ls=false:=LX i0 l (by unfold JQ;rw[VJ (by omega)];rfl)
theorem GF (i0:0<=i)(l:i<=3)(k0:0<=k)(k1:k<(aO ls i 0).length)(h:JR ls i k=false):caOk ls=false:=LX i0 l (by unfold JQ;rw[cN k0 k1 h,Yf])
theorem RL (h:inR (ag (aO ls i 0) k 0) 0 511=false):JR ls i k=false:=by unfold JR;rw[h];rfl
theorem RN (h:bO .rem Za (ag (aO ls i 0) k 0) (clsSz i)≠0):JR ls i k=false:=by unfold JR;rw[VJ h,Yf]
theorem NP (i0:0<=i)(l:i<=3)(k0:0<=k)(k1:k<(aO ls i 0).length)(h:ag (aO ls i 0) k 0∈vd ls i.toNat++wQ ls i k.toNat):caOk ls=false:=by
 obtain⟨r,e⟩:=D1 (ls:=ls) 4 (i+1).toNat (by omega);obtain⟨r2,e2⟩:=DZ (ls:=ls) (i:=i) (aO ls i 0).length (k+1).toNat (by omega);rw[yv i0,e2,yu k0]at e;have:¬ (vd ls 4).Nodup:=dup (a:=vd ls i.toNat++wQ ls i k.toNat) (b:=r2++r) (x:=ag (aO ls i 0) k 0) (by rw[e];simp only[Zs];rfl) h;unfold caOk;rw[VJ this];simp
theorem NS (h:Nq ls i)(h1:(ls.length:Int)=4)(i2:4<=i):caOk ls=true:=by
 have l:=h.l;have e:i=4:=by omega
 subst e;unfold caOk;rw[VI (by omega),cu h.ok (by omega),VI (p:=(vd ls 4).Nodup) h.nd];rfl
theorem NQ (h:Nq ls i)(i1:i<=ls.length)(i2:(ls.length:Int)<=i):decide ((ls.length:Int)=4)=caOk ls:=by
 by_cases c:(ls.length:Int)=4
 ·rw[NS h c (by omega)];exact VI c
 ·rw[Ck c];exact VJ c
end
structure ScP (ls:af)(i:Int)(o:af):Prop where
 p:Nq ls i
 e:o=kK (vd ls i.toNat)
structure SdP (ls:af)(i k:Int)(o:af):Prop where
 p:QV ls i k
 e:o=kK (vd ls i.toNat++wQ ls i k.toNat)
structure BZ (ls:af)(i:Int)(es:af):Prop where
 p:Nq ls i
 s:o9 es (vd ls i.toNat)
structure B0 (ls:af)(i k:Int)(es:af):Prop where
 p:QV ls i k
 s:o9 es (vd ls i.toNat++wQ ls i k.toNat)
section
variable {ls o es: af} {i k: Int}
theorem TL:BZ ls 0 []:=⟨acC,Dq⟩
theorem TM (h:BZ ls i es)(i0:0<=i)(c:inR i 0 3=true)(s:(aO ls i 0).length<=8):B0 ls i 0 es:=⟨acD h.p i0 c s,by simpa[wQ]using h.s⟩
theorem O1 (h:B0 ls i k es)(k0:0<=k)(h1:inR (ag (aO ls i 0) k 0) 0 511=true)(h2:bO .rem Za (ag (aO ls i 0) k 0) (clsSz i)=0)(h3:mgbI es (ag (aO ls i 0) k 0)=false):B0 ls i (k+1) (mr es (ag (aO ls i 0) k 0) (.v (.bool true))):=by
 refine⟨RO h.p k0 h1 h2 (fun m=>by rw[(h.s.at_ _).2 m]at h3;cases h3),?_⟩;rw[yu k0, <-Zs];exact uw h.s
theorem O0 (h:B0 ls i k es)(i0:0<=i)(k1:k<=((aO ls i 0).length:Int))(k2:((aO ls i 0).length:Int)<=k):BZ ls (i+1) es:=
 ⟨RI h.p i0 k1 k2,by have s:=h.s;rw[show k.toNat=(aO ls i 0).length from by omega]at s;rw[yv i0];exact s⟩
theorem Kp (h:B0 ls i k es)(i0:0<=i)(k0:0<=k)(k1:k<(aO ls i 0).length)(h3:mgbI es (ag (aO ls i 0) k 0)=true):caOk ls=false:=NP i0 h.p.l k0 k1 ((h.s.at_ _).1 h3)
theorem Kn (h:BZ ls i es)(i0:0<=i)(s:8<(aO ls i 0).length)(i1:i<ls.length):caOk ls=false:=by
 by_cases c:(ls.length:Int)=4;exact NR i0 s (by omega);exact Ck c
theorem Ko (h:BZ ls i es)(i0:0<=i)(c:inR i 0 3=false)(i1:i<ls.length):caOk ls=false:=by
 have:=xQ.1 c;exact Ck (by omega)
end
def Jn (cs:af)(i:Int):Bool:=inR (ag cs i 0) 0 15&& !(decide (0<i)&&decide (ag cs i 0<=ag cs (i-1) 0))
def plOk (k m:Int)(cs:af):Bool:=dt (Jn cs) cs.length&&(inR k 0 31&&(inR m 0 31&&decide (k≠m)))
def jbOk (k m:Int)(cs:af)(ph nx:Int):Bool:=plOk k m cs&&(inR ph 0 5&&inR nx 0 cs.length)
section
variable {k m i: Int} {cs: af}
theorem P1 (i0:0<=i)(i1:i<cs.length)(h:inR (ag cs i 0) 0 15=false):plOk k m cs=false:=by
 unfold plOk;rw[cN i0 i1 (by unfold Jn;rw[h];rfl)];rfl
theorem P3 (i0:0<=i)(i1:i<cs.length)(h:0<i)(g:ag cs i 0<=ag cs (i-1) 0):plOk k m cs=false:=by
 unfold plOk;rw[cN i0 i1 (by unfold Jn;rw[VI h,VI g];simp)];rfl
theorem K0 (h:inR (ag cs i 0) 0 15=true)(g:i<=0):Jn cs i=true:=by unfold Jn;rw[h,VJ (by omega)];rfl
theorem K1 (h:inR (ag cs i 0) 0 15=true)(g:ag cs (i-1) 0<ag cs i 0):Jn cs i=true:=by
 unfold Jn;rw[h,VJ (p:=ag cs i 0<=_) (by omega)];simp
theorem Ik (h:upto (Jn cs) i)(g:(cs.length:Int)<=i):plOk k m cs=(inR k 0 31&&(inR m 0 31&&decide (k≠m))):=by unfold plOk;rw[cu h g];rfl
end
end Go.V
namespace Go.V
theorem GT {sp lg:af}{a:Int}(h:dnK sp lg a=1):0<=dnI sp lg a/\dnI sp lg a<sp.length:=by
 unfold dnK at h;by_cases c:0<=fU sp a
 ·unfold dnI;rw[VL c];rcases qq (p:=ya sp a) (n:=sp.length)with q|q
  ·have:fU sp a= -1:=q;omega
  ·exact q
 ·rw[VM c]at h;by_cases d:0<=kN lg a
  ·rw[VL d]at h;omega
  ·rw[VM d]at h;omega
theorem L9 {sp lg:af}{a:Int}(h:dnK sp lg a=3):0<=dnI sp lg a/\dnI sp lg a<lg.length:=by
 unfold dnK at h;by_cases c:0<=fU sp a
 ·rw[VL c]at h;split at h<;>omega
 ·rw[VM c]at h;by_cases d:0<=kN lg a
  ·unfold dnI;rw[VM c,VL d];rcases qq (p:=xU lg a) (n:=lg.length)with q|q
   ·have:kN lg a= -1:=q;omega
   ·exact q
  ·rw[VM d]at h;omega
def HA (os:af)(x j:Int):Bool:=eqB (ag os j 0) x
def oiI (os:af)(x:Int):Int:=cQ (HA os x) os.length
def oiB (os:af)(x:Int):Bool:=decide (0<=oiI os x)
def okO (sp lg:af)(a s:Int):Bool:=decide (dnO sp lg a=0)&&((decide (dnK sp lg a=1)&&decide (ag sp (dnI sp lg a) 1=clsOf s))||(decide (dnK sp lg a=3)&&decide (ag lg (dnI sp lg a) 2=s)))
def yY (sp lg os cs:af)(nx i:Int):Bool:=
 !(decide (0<i)&&decide (ag os i 1<=ag os (i-1) 1))&&(inR (ag os i 0) 1 (bO .sub Za nx 1)&&(inR (ag os i 3) 0 (cs.length-1:Int)&&(!oiB (os.take i.toNat) (ag os i 0)&&okO sp lg (ag os i 1) (ag os i 2))))
def objOk (sp lg os cs:af)(nx:Int):Bool:=dt (yY sp lg os cs nx) os.length
section
variable {sp lg os cs: af} {nx i k: Int}
theorem xY (i0:0<=i)(i1:i<os.length)(h:yY sp lg os cs nx i=false):objOk sp lg os cs nx=false:=cN i0 i1 h
theorem PW (h:upto (yY sp lg os cs nx) i)(g:(os.length:Int)<=i):objOk sp lg os cs nx=true:=cu h g
theorem aay (h:0<i)(g:ag os i 1<=ag os (i-1) 1):yY sp lg os cs nx i=false:=by unfold yY;rw[VI h,VI g];rfl
theorem aaz (h:inR (ag os i 0) 1 (bO .sub Za nx 1)=false):yY sp lg os cs nx i=false:=by unfold yY;rw[h];simp
theorem aaA (h:inR (ag os i 3) 0 (cs.length-1:Int)=false):yY sp lg os cs nx i=false:=by unfold yY;rw[h];simp
theorem aaC (h:oiB (os.take i.toNat) (ag os i 0)=true):yY sp lg os cs nx i=false:=by unfold yY;rw[h];simp
theorem MG (h:okO sp lg (ag os i 1) (ag os i 2)=false):yY sp lg os cs nx i=false:=by unfold yY;rw[h];simp
theorem aaD (h1:i<=0\/ag os (i-1) 1<ag os i 1)(h2:inR (ag os i 0) 1 (bO .sub Za nx 1)=true)(h3:inR (ag os i 3) 0 (cs.length-1:Int)=true)(h4:oiB (os.take i.toNat) (ag os i 0)=false)(h5:okO sp lg (ag os i 1) (ag os i 2)=true):yY sp lg os cs nx i=true:=by
 unfold yY;rw[h2,h3,h4,h5];rcases h1 with h|h
 ·rw[VJ (p:=0<i) (by omega)];rfl
 ·rw[VJ (p:=ag os i 1<=ag os (i-1) 1) (by omega)];simp
theorem aaH {a s:Int}(h:dnO sp lg a≠0):okO sp lg a s=false:=by unfold okO;rw[VJ h];rfl
theorem aej {a s:Int}(h1:dnK sp lg a≠1\/ag sp (dnI sp lg a) 1≠clsOf s)(h2:dnK sp lg a≠3\/ag lg (dnI sp lg a) 2≠s):okO sp lg a s=false:=by
 unfold okO;rcases h1 with h|h<;>rcases h2 with g|g<;>simp[h,g]
theorem aaJ {a s:Int}(h0:dnO sp lg a=0)(h1:dnK sp lg a=1)(h2:ag sp (dnI sp lg a) 1=clsOf s):okO sp lg a s=true:=by unfold okO;rw[VI h0,VI h1,VI h2];rfl
theorem aaK {a s:Int}(h0:dnO sp lg a=0)(h1:dnK sp lg a=3)(h2:ag lg (dnI sp lg a) 2=s):okO sp lg a s=true:=by unfold okO;rw[VI h0,VI h1,VI h2];simp
end
end Go.V
namespace Go.V
def WfI (es:af):Prop:=∀ e∈es,∃ k b:Int,e=[.i k,.i b]
theorem sZ {k b:Int}{es:af}{n:Int}:dP ([.i k,.i b]::es) n=if k=n then some (0,.int Za b)else(dP es n).map fun p=>(p.1+1,p.2):=rfl
theorem oi {k b:Int}{es:af}{n:Int}:iQ ([.i k,.i b]::es) n=if k=n then b else iQ es n:=by
 unfold iQ;rw[sZ];by_cases c:k=n
 ·rw[VL c,VL c]
 ·rw[VM c,VM c];cases dP es n with
  |none=>rfl
  |some p=>obtain⟨j,v⟩:=p;cases v<;>rfl
theorem HX {k b x:Int}{es:af}{n:Int}:mr ([.i k,.i b]::es) n (.i x)=if k=n then[.i n,.i x]::es else[.i k,.i b]::mr es n (.i x):=by
 unfold mr;rw[sZ];by_cases c:k=n
 ·rw[VL c,VL c];rfl
 ·rw[VM c,VM c];cases dP es n with
  |none=>rfl
  |some p=>rfl
theorem aan {x n:Int}:∀ {es:af},WfI es->WfI (mr es n (.i x))/\∀ m,iQ (mr es n (.i x)) m=if m=n then x else iQ es m
 | [],_=>by
   refine⟨fun e he=>?_,fun m=>?_⟩
   ·have:e=[.i n,.i x]:=by simpa[mr,dP]using he
    exact⟨n,x,this⟩
   ·show iQ [[.i n,.i x]] m=_;rw[oi];by_cases c:m=n
    ·rw[VL c.symm,VL c]
    ·rw[VM (fun e=>c e.symm),VM c]
 | e::es,h=>by
   obtain⟨k,b,rfl⟩:=h e (by simp);have h':WfI es:=fun e he=>h e (by simp[he])
   obtain⟨a1,a2⟩:=aan (x:=x) (n:=n) h';rw[HX];by_cases c:k=n
   ·rw[VL c];refine⟨fun e he=>?_,fun m=>?_⟩
    ·rcases Zk.1 he with rfl|he;exact⟨n,x,rfl⟩;exact h' e he
    ·rw[oi,oi];by_cases d:m=n
     ·rw[VL d.symm,VL d]
     ·rw[VM (fun e=>d e.symm),VM d,VM (fun e=>d (by rw[<-e,c]))]
   ·rw[VM c];refine⟨fun e he=>?_,fun m=>?_⟩
    ·rcases Zk.1 he with rfl|he;exact⟨k,b,rfl⟩;exact a1 e he
    ·rw[oi,oi,a2 m];by_cases d:k=m
     ·rw[VL d,VL d,VM (fun e=>c (d.trans e))]
     ·rw[VM d,VM d]
def huI (es:af)(a:Int):af:=mr es a (.i (bO .add Za (iQ es a) 1))
structure yk (es:af)(l:List Int):Prop where
 wf:WfI es
 c:∀ m,iQ es m=(l.count m:Int)
theorem acE:yk [] []:=⟨(fun e he=>by cases he),fun m=>rfl⟩
theorem D4 {es:af}{l:List Int}{a:Int}(h:yk es l)(hl:l.length<=1099511627776):yk (huI es a) (l++[a]):=by
 have q:=aan (x:=bO .add Za (iQ es a) 1) (n:=a) h.wf;refine⟨q.1,fun m=>?_⟩;show iQ (mr es a _) m=_;have b:l.count a<=l.length:=List.count_le_length;have e:=h.c a;rw[q.2 m,List.count_append,show bO .add Za (iQ es a) 1=iQ es a+1 from cE (by omega)];by_cases c:m=a
 ·subst c;rw[VL rfl,e];simp
 ·rw[VM c,h.c m];have:[a].count m=0:=List.count_eq_zero.2 (by simpa using c);rw[this];rfl
def nI (l:af)(f:Nat):Nat->List Int
 |0=>[]
 |n+1=>nI l f n++[ag l n f]
def Cn (ls:af):Nat->List Int
 |0=>[]
 |n+1=>Cn ls n++nI (aO ls n 0) 0 (aO ls n 0).length
def xf (cs:af):Nat->List Int
 |0=>[]
 |n+1=>xf cs n++Cn (aO cs n 0) (aO cs n 0).length
theorem jU {l:af}{f:Nat}:∀ n,(nI l f n).length=n
 |0=>rfl
 |n+1=>by rw[nI,Zf,jU n];rfl
theorem yO {l:af}{f:Nat}{i:Int}(h:0<=i):nI l f (i+1).toNat=nI l f i.toNat++[ag l i f]:=by
 rw[show(i+1).toNat=i.toNat+1 from by omega,nI,Zr h]
theorem N6 {l:af}{i:Int}(h:0<=i):Cn l (i+1).toNat=Cn l i.toNat++nI (aO l i 0) 0 (aO l i 0).length:=by
 rw[show(i+1).toNat=i.toNat+1 from by omega,Cn,Zr h]
theorem NV {l:af}{i:Int}(h:0<=i):xf l (i+1).toNat=xf l i.toNat++Cn (aO l i 0) (aO l i 0).length:=by
 rw[show(i+1).toNat=i.toNat+1 from by omega,xf,Zr h]
theorem yw {ls:af}:∀ n,n<=ls.length->(Cn ls n).length<=cP (ls.take n)
 |0,_=>ZC _
 | n+1,h=>by
   have q:=yw n (by omega:n<=ls.length);have c:=vC (es:=ls) (n:=n) (j:=0) (by omega);unfold av at c;rw[Cn,Zf,jU,mD (by omega)];omega
theorem qg {cs:af}:∀ n,n<=cs.length->(xf cs n).length<=cP (cs.take n)
 |0,_=>ZC _
 | n+1,h=>by
   have q:=qg n (by omega:n<=cs.length);have c:=vC (es:=cs) (n:=n) (j:=0) (by omega);have d:=yw (ls:=aO cs n 0) (aO cs n 0).length (Ze _);rw[Y1]at d;unfold av at c;rw[xf,Zf,mD (by omega)];omega
theorem JS {cs:af}{i k:Int}(i0:0<=i)(i1:i<cs.length)(k1:k<=(aO cs i 0).length):(xf cs i.toNat++Cn (aO cs i 0) k.toNat).length+cP ((aO cs i 0).drop k.toNat)<=cP cs:=by
 have q:=qg (cs:=cs) i.toNat (by omega);have c:=Ax (es:=cs) (n:=i.toNat+1);have d:=mD (es:=cs) (n:=i.toNat) (by omega);have e:=vC (es:=cs) (n:=i.toNat) (j:=0) (by omega);rw[Zr i0]at e;have f:=yw (ls:=aO cs i 0) k.toNat (by omega);have g:cP (aO cs i 0)=cP ((aO cs i 0).take k.toNat)+cP ((aO cs i 0).drop k.toNat):=by rw[<-eh,ZS]
 rw[Zf];unfold av at e;omega
theorem JU {cs:af}{i k j:Int}(i0:0<=i)(i1:i<cs.length)(k0:0<=k)(k1:k<(aO cs i 0).length)(j0:0<=j)(j1:j<=(aO (aO cs i 0) k 0).length):(xf cs i.toNat++Cn (aO cs i 0) k.toNat++nI (aO (aO cs i 0) k 0) 0 j.toNat).length<=cP cs:=by
 have q:=JS i0 i1 (by omega:k<=(aO cs i 0).length);have e:=vC (es:=aO cs i 0) (n:=k.toNat) (j:=0) (by omega);rw[Zr k0]at e;have d:gx ((aO cs i 0).getD k.toNat [])<=cP ((aO cs i 0).drop k.toNat):=by
  rw[WP (by omega)];rw[Zn,Zu (by omega)];simp[cP]
 rw[Zf,jU];unfold av at e;omega
def hlB (sp lg:af)(a k:Int):Bool:=decide (dnK sp lg a=1)&&(decide (dnO sp lg a=0)&&(decide (k<0)||decide (ag sp (dnI sp lg a) 1=k)))
def jA (sp lg l:af)(k j:Int):Bool:=hlB sp lg (ag l j 0) k
def kA (sp lg ls:af)(k:Int):Bool:=dt (jA sp lg (aO ls k 0) k) (aO ls k 0).length
def iA (sp lg cs:af)(i:Int):Bool:=dt (kA sp lg (aO cs i 0)) (aO cs i 0).length
def qA (sp lg qs:af)(i:Int):Bool:=hlB sp lg (ag qs i 0) (ag qs i 1)
def sA (qs:af)(c i:Int):Bool:=decide (ag qs i 2<=c)
def FJ (sp lg qs:af)(c i:Int):Bool:=qA sp lg qs i&&sA qs c i
def hoA (os cs qs fl:af):List Int:=xf cs cs.length++nI qs 0 qs.length++nI fl 0 fl.length++nI os 1 os.length
def hoB (os cs qs fl:af):List Int:=nI os 1 os.length++xf cs cs.length++nI qs 0 qs.length++nI fl 0 fl.length
def RG (l:List Int)(lv:af)(i:Int):Bool:=decide (l.count (ag lv i 0)=1)
def hoI (sp lg os cs b x qs:af)(c:Int):Bool:=dt (iA sp lg cs) cs.length&&(dt (FJ sp lg qs c) qs.length&&(dt (jA sp lg (ifL b x) (-1)) (ifL b x).length&&dt (RG (hoA os cs qs (ifL b x)) (BW sp lg)) (BW sp lg).length))
section
variable {sp lg os cs b x qs fl es: af} {i k j c: Int}
theorem adC (k0:0<=k)(k1:k<(aO cs i 0).length)(j0:0<=j)(j1:j<(aO (aO cs i 0) k 0).length)(h:hlB sp lg (ag (aO (aO cs i 0) k 0) j 0) k=false):iA sp lg cs i=false:=
 cN k0 k1 (cN (p:=jA sp lg (aO (aO cs i 0) k 0) k) j0 j1 h)
theorem OO (i0:0<=i)(i1:i<cs.length)(h:iA sp lg cs i=false):hoI sp lg os cs b x qs c=false:=by unfold hoI;rw[cN i0 i1 h];rfl
theorem Hl (i0:0<=i)(i1:i<qs.length)(h:FJ sp lg qs c i=false):hoI sp lg os cs b x qs c=false:=by unfold hoI;rw[cN i0 i1 h];simp
theorem OP (i0:0<=i)(i1:i<(ifL b x).length)(h:hlB sp lg (ag (ifL b x) i 0) (-1)=false):hoI sp lg os cs b x qs c=false:=by unfold hoI;rw[cN (p:=jA sp lg (ifL b x) (-1)) i0 i1 h];simp
theorem OQ (i0:0<=i)(i1:i<(BW sp lg).length)(h:RG (hoA os cs qs (ifL b x)) (BW sp lg) i=false):hoI sp lg os cs b x qs c=false:=by unfold hoI;rw[cN i0 i1 h];simp
theorem abe (h:hlB sp lg (ag qs i 0) (ag qs i 1)=false):FJ sp lg qs c i=false:=by unfold FJ qA;rw[h];rfl
theorem abf (h:c<ag qs i 2):FJ sp lg qs c i=false:=by unfold FJ sA;rw[VJ (by omega),Yf]
theorem aes (h:hlB sp lg (ag qs i 0) (ag qs i 1)=true)(g:ag qs i 2<=c):FJ sp lg qs c i=true:=by unfold FJ qA sA;rw[h,VI g];rfl
structure Q0 (sp lg cs:af)(i:Int)(es:af):Prop where
 ok:upto (iA sp lg cs) i
 c:yk es (xf cs i.toNat)
structure Q2 (sp lg cs:af)(i k:Int)(es:af):Prop where
 ok:upto (iA sp lg cs) i
 ok2:upto (kA sp lg (aO cs i 0)) k
 c:yk es (xf cs i.toNat++Cn (aO cs i 0) k.toNat)
structure Q1 (sp lg cs:af)(i k j:Int)(es:af):Prop where
 ok:upto (iA sp lg cs) i
 ok2:upto (kA sp lg (aO cs i 0)) k
 ok3:upto (jA sp lg (aO (aO cs i 0) k 0) k) j
 c:yk es (xf cs i.toNat++Cn (aO cs i 0) k.toNat++nI (aO (aO cs i 0) k 0) 0 j.toNat)
structure Q3 (sp lg cs qs:af)(t j:Int)(es:af):Prop where
 ok:dt (iA sp lg cs) cs.length=true
 ok2:upto (FJ sp lg qs t) j
 c:yk es (xf cs cs.length++nI qs 0 j.toNat)
structure QZ (sp lg cs qs fl:af)(t j:Int)(es:af):Prop where
 ok:dt (iA sp lg cs) cs.length=true
 ok2:dt (FJ sp lg qs t) qs.length=true
 ok3:upto (jA sp lg fl (-1)) j
 c:yk es (xf cs cs.length++nI qs 0 qs.length++nI fl 0 j.toNat)
structure Nr (sp lg os cs qs fl:af)(t j:Int)(es:af):Prop where
 ok:dt (iA sp lg cs) cs.length=true
 ok2:dt (FJ sp lg qs t) qs.length=true
 ok3:dt (jA sp lg fl (-1)) fl.length=true
 c:yk es (xf cs cs.length++nI qs 0 qs.length++nI fl 0 fl.length++nI os 1 j.toNat)
theorem ada:Q0 sp lg cs 0 []:=⟨bV,acE⟩
theorem adc (h:Q0 sp lg cs i es):Q2 sp lg cs i 0 es:=⟨h.ok,bV,by simpa[Cn]using h.c⟩
theorem adb (h:Q2 sp lg cs i k es):Q1 sp lg cs i k 0 es:=⟨h.ok,h.ok2,bV,by simpa[nI]using h.c⟩
theorem Tp (h:Q1 sp lg cs i k j es)(i0:0<=i)(i1:i<cs.length)(k0:0<=k)(k1:k<(aO cs i 0).length)(j0:0<=j)(j1:j<(aO (aO cs i 0) k 0).length)(hc:av cs<=1073741824)(hh:hlB sp lg (ag (aO (aO cs i 0) k 0) j 0) k=true):
 Q1 sp lg cs i k (j+1) (huI es (ag (aO (aO cs i 0) k 0) j 0)):=by
 have l:=JU (cs:=cs) i0 i1 k0 k1 j0 (by omega);unfold av at hc;exact⟨h.ok,h.ok2,bN h.ok3 hh,by rw[yO j0, <-Zs];exact D4 h.c (by omega)⟩
theorem Tq (h:Q1 sp lg cs i k j es)(k0:0<=k)(j1:j<=((aO (aO cs i 0) k 0).length:Int))(j2:((aO (aO cs i 0) k 0).length:Int)<=j):Q2 sp lg cs i (k+1) es:=by
 refine⟨h.ok,bN h.ok2 (cu h.ok3 j2),?_⟩;have c:=h.c;rw[show j.toNat=(aO (aO cs i 0) k 0).length from by omega,Zs, <-N6 k0]at c;exact c
theorem To (h:Q2 sp lg cs i k es)(i0:0<=i)(k1:k<=((aO cs i 0).length:Int))(k2:((aO cs i 0).length:Int)<=k):Q0 sp lg cs (i+1) es:=by
 refine⟨bN h.ok (cu h.ok2 k2),?_⟩;have c:=h.c;rw[show k.toNat=(aO cs i 0).length from by omega, <-NV i0]at c;exact c
theorem ady (h:Q0 sp lg cs i es)(i1:i<=cs.length)(i2:(cs.length:Int)<=i):Q3 sp lg cs qs c 0 es:=
 ⟨cu h.ok i2,bV,by have c:=h.c;rw[show i.toNat=cs.length from by omega]at c;simpa[nI]using c⟩
theorem TC (h:Q3 sp lg cs qs c j es)(j0:0<=j)(j1:j<qs.length)(hc:av cs<=1073741824)(hq:qs.length<=1073741824)(hh:FJ sp lg qs c j=true):Q3 sp lg cs qs c (j+1) (huI es (ag qs j 0)):=by
 have l:=qg (cs:=cs) cs.length (Ze _);rw[Y1]at l;unfold av at hc;refine⟨h.ok,bN h.ok2 hh,?_⟩;rw[yO j0, <-Zs];refine D4 h.c ?_;rw[Zf,jU];omega
theorem ac9 (h:Q3 sp lg cs qs c i es)(i1:i<=qs.length)(i2:(qs.length:Int)<=i):QZ sp lg cs qs fl c 0 es:=
 ⟨h.ok,cu h.ok2 i2,bV,by have c:=h.c;rw[show i.toNat=qs.length from by omega]at c;simpa[nI]using c⟩
theorem Tf (h:QZ sp lg cs qs fl c j es)(j0:0<=j)(j1:j<fl.length)(hc:av cs<=1073741824)(hq:qs.length<=1073741824)(hf:fl.length<=30)(hh:hlB sp lg (ag fl j 0) (-1)=true):QZ sp lg cs qs fl c (j+1) (huI es (ag fl j 0)):=by
 have l:=qg (cs:=cs) cs.length (Ze _);rw[Y1]at l;unfold av at hc;refine⟨h.ok,h.ok2,bN h.ok3 hh,?_⟩;rw[yO j0, <-Zs];refine D4 h.c ?_;rw[Zf,Zf,jU,jU];omega
theorem adi (h:QZ sp lg cs qs fl c i es)(i1:i<=fl.length)(i2:(fl.length:Int)<=i):Nr sp lg os cs qs fl c 0 es:=
 ⟨h.ok,h.ok2,cu h.ok3 i2,by have c:=h.c;rw[show i.toNat=fl.length from by omega]at c;simpa[nI]using c⟩
theorem Tv (h:Nr sp lg os cs qs fl c j es)(j0:0<=j)(j1:j<os.length)(hc:av cs<=1073741824)(hq:qs.length<=1073741824)(ho:os.length<=1073741824)(hf:fl.length<=30):Nr sp lg os cs qs fl c (j+1) (huI es (ag os j 1)):=by
 have l:=qg (cs:=cs) cs.length (Ze _);rw[Y1]at l;unfold av at hc;refine⟨h.ok,h.ok2,h.ok3,?_⟩;rw[yO j0, <-Zs];refine D4 h.c ?_;rw[Zf,Zf,Zf,jU,jU,jU];omega
structure LL (sp lg os cs qs fl:af)(t i:Int)(es:af):Prop where
 p:Nr sp lg os cs qs fl t os.length es
 ok:upto (RG (hoA os cs qs fl) (BW sp lg)) i
theorem ade (h:Nr sp lg os cs qs fl c i es)(i1:i<=os.length)(i2:(os.length:Int)<=i):LL sp lg os cs qs fl c 0 es:=⟨by rw[show(os.length:Int)=i from by omega];exact h,bV⟩
theorem Ts (h:LL sp lg os cs qs fl c i es)(m:Int):iQ es m=((hoA os cs qs fl).count m:Int):=by
 have q:=h.p.c.c m;rw[ZJ]at q;exact q
theorem Tt (h:LL sp lg os cs qs fl c i es)(e:iQ es (ag (BW sp lg) i 0)=1):LL sp lg os cs qs fl c (i+1) es:=
 ⟨h.p,bN h.ok (by unfold RG;rw[Ts h]at e;exact VI (by omega))⟩
theorem adf (h:LL sp lg os cs qs (ifL b x) c i es)(i0:0<=i)(i1:i<(BW sp lg).length)(e:iQ es (ag (BW sp lg) i 0)≠1):hoI sp lg os cs b x qs c=false:=
 OQ i0 i1 (by unfold RG;rw[Ts h]at e;exact VJ (by omega))
theorem OL (h:LL sp lg os cs qs (ifL b x) c i es)(i2:((BW sp lg).length:Int)<=i):hoI sp lg os cs b x qs c=true:=by
 unfold hoI;rw[h.p.ok,h.p.ok2,h.p.ok3,cu h.ok i2];rfl
end
end Go.V
namespace Go.V
structure S1P (os:af)(i:Int)(o:af):Prop where
 e:o=kK (nI os 1 i.toNat)
structure S2P (sp lg os cs:af)(i:Int)(o:af):Prop where
 ok:upto (iA sp lg cs) i
 e:o=kK (nI os 1 os.length++xf cs i.toNat)
structure S3P (sp lg os cs:af)(i k:Int)(o:af):Prop where
 ok:upto (iA sp lg cs) i
 ok2:upto (kA sp lg (aO cs i 0)) k
 e:o=kK (nI os 1 os.length++(xf cs i.toNat++Cn (aO cs i 0) k.toNat))
structure S4P (sp lg os cs:af)(i k j:Int)(o:af):Prop where
 ok:upto (iA sp lg cs) i
 ok2:upto (kA sp lg (aO cs i 0)) k
 ok3:upto (jA sp lg (aO (aO cs i 0) k 0) k) j
 e:o=kK (nI os 1 os.length++(xf cs i.toNat++Cn (aO cs i 0) k.toNat++nI (aO (aO cs i 0) k 0) 0 j.toNat))
structure S5P (sp lg os cs qs:af)(j:Int)(o:af):Prop where
 ok:dt (iA sp lg cs) cs.length=true
 ok2:upto (qA sp lg qs) j
 e:o=kK (nI os 1 os.length++xf cs cs.length++nI qs 0 j.toNat)
structure S6P (sp lg os cs qs fl:af)(j:Int)(o:af):Prop where
 ok:dt (iA sp lg cs) cs.length=true
 ok2:dt (qA sp lg qs) qs.length=true
 ok3:upto (jA sp lg fl (-1)) j
 e:o=kK (nI os 1 os.length++xf cs cs.length++nI qs 0 qs.length++nI fl 0 j.toNat)
structure S7P (sp lg os cs qs fl:af)(j:Int)(o:af):Prop where
 ok:dt (iA sp lg cs) cs.length=true
 ok2:dt (qA sp lg qs) qs.length=true
 ok3:dt (jA sp lg fl (-1)) fl.length=true
 e:o=kK (hoB os cs qs fl)
 nd:((hoB os cs qs fl).take j.toNat).Nodup
section
variable {sp lg os cs b x qs fl o: af} {i k j: Int}
theorem mj {p:Int->Bool}{n:Nat}(h:dt p n=true):∀ k:Nat,k<n->p k=true:=fun k hk=>ed.1 h k (by omega) (by omega)
end
end Go.V
namespace Go.V
theorem Eo {n:Int}:∀ {es:af},Q8 es->∀ m,m∈mJ (mr es n (.v (.bool true)))↔m∈mJ es\/m=n
 | [],_,m=>by
   show m∈mJ [[.i n,.v (.bool true)]]↔_;simp[mJ,kOf]
 | e::es,h,m=>by
   obtain⟨k,b,rfl⟩:=h e (by simp);have h':Q8 es:=fun e he=>h e (by simp[he])
   have ih:=Eo (n:=n) h' m;rw[EA];by_cases c:k=n
   ·rw[VL c];subst c;show m∈k::mJ es↔m∈k::mJ es\/m=k;simp only[Zk]
    constructor;exact fun h=>.inl h
    ·rintro(h|h);exact h;exact .inl h
   ·rw[VM c];show m∈k::mJ (mr es n (.v (.bool true)))↔m∈k::mJ es\/m=n;simp only[Zk,ih,or_assoc]
structure uB (es:af)(l:List Int):Prop where
 s:o9 es l
 k:∀ m,m∈mJ es↔m∈l
theorem aaN:uB [] []:=⟨Dq,fun m=>Iff.rfl⟩
theorem Ia {es:af}{l:List Int}{n:Int}(h:uB es l):uB (mr es n (.v (.bool true))) (l++[n]):=
 ⟨uw h.s,fun m=>by rw[Eo h.s.wf,h.k,Zh,Yb]⟩
def Af (sp:af)(i:Int):Bool:= !(decide (0<i)&&decide (ag sp i 0<=ag sp (i-1) 0))
def Md (es:af)(p:Int):Bool:=decide ((fpg es p).length=1)
def CR (es lg:af)(i:Int):Bool:=Af lg i&&dt (fun k=>Md es (ag lg i 0+k)) (ag lg i 1).toNat
def ownB (sp lg:af)(p:Int):Bool:=decide (p∈A9 sp lg)
def mapB (es:af)(p:Int):Bool:=decide (peM es p≠0)
def Ga (es fr sp lg:af)(p:Int):Bool:=(mapB es p==ownB sp lg p)&& !(rhB fr p==ownB sp lg p)
def odB (es sp lg:af):Bool:=decide (∀ p∈A9 sp lg,p<es.length)
def KO (sp:af)(i j:Int):Bool:=mshB (ag sp i 0) (ag sp i 1) (ag sp i 2) (ag sp j 0) (ag sp j 1) (ag sp j 2)
def Jl (es sp:af)(i j:Int):Bool:= !decide (peF es (ag sp i 0)=peF es (ag sp j 0))||KO sp i j
def Jm (es sp:af)(i:Int):Bool:=dt (Jl es sp i) i.toNat
def pgI (es fr sp lg:af):Bool:=dt (Af sp) sp.length&&(dt (CR es lg) lg.length&&(dt (Ga es fr sp lg) es.length&&(odB es sp lg&&dt (Jm es sp) sp.length)))
section
variable {es fr sp lg m: af} {i j k p: Int} {vs: List Int}
theorem M2 (h:0<i)(g:ag sp i 0<=ag sp (i-1) 0):Af sp i=false:=by unfold Af;rw[VI h,VI g];rfl
theorem M3 (h:i<=0):Af sp i=true:=by unfold Af;rw[VJ (by omega)];rfl
theorem M4 (h:ag sp (i-1) 0<ag sp i 0):Af sp i=true:=by unfold Af;rw[VJ (p:=ag sp i 0<=_) (by omega)];simp
theorem aaV (i0:0<=i)(i1:i<sp.length)(h:Af sp i=false):pgI es fr sp lg=false:=by unfold pgI;rw[cN i0 i1 h];rfl
theorem MI (i0:0<=i)(i1:i<lg.length)(h:CR es lg i=false):pgI es fr sp lg=false:=by unfold pgI;rw[cN i0 i1 h];simp
theorem MJ (i0:0<=i)(i1:i<es.length)(h:Ga es fr sp lg i=false):pgI es fr sp lg=false:=by unfold pgI;rw[cN i0 i1 h];simp
theorem aaW (h:odB es sp lg=false):pgI es fr sp lg=false:=by unfold pgI;rw[h];simp
theorem aaX (i0:0<=i)(i1:i<sp.length)(h:Jm es sp i=false):pgI es fr sp lg=false:=by unfold pgI;rw[cN i0 i1 h];simp
theorem aen {a b c d:Int}(h1:upto (Af sp) a)(g1:(sp.length:Int)<=a)(h2:upto (CR es lg) b)(g2:(lg.length:Int)<=b)(h3:upto (Ga es fr sp lg) c)(g3:(es.length:Int)<=c)(h4:odB es sp lg=true)(h5:upto (Jm es sp) d)(g5:(sp.length:Int)<=d):pgI es fr sp lg=true:=by
 unfold pgI;rw[cu h1 g1,cu h2 g2,cu h3 g3,h4,cu h5 g5];rfl
theorem aaa (h:Af lg i=false):CR es lg i=false:=by unfold CR;rw[h];rfl
theorem aab (k0:0<=k)(k1:k<ag lg i 1)(h:(fpg es (ag lg i 0+k)).length≠1):CR es lg i=false:=by
 unfold CR;rw[cN (i:=k) (n:=(ag lg i 1).toNat) k0 (by omega) (show Md es (ag lg i 0+k)=false from VJ h),Yf]
theorem ad0 (h:Af lg i=true)(g:upto (fun k=>Md es (ag lg i 0+k)) k)(k1:ag lg i 1<=k)(n0:0<=ag lg i 1):CR es lg i=true:=by
 unfold CR;rw[h,cu g (by omega)];rfl
theorem SE (g:upto (fun k=>Md es (ag lg i 0+k)) k)(h:(fpg es (ag lg i 0+k)).length=1):upto (fun k=>Md es (ag lg i 0+k)) (k+1):=bN g (VI h)
structure Q7 (es sp lg:af)(j:Int)(m:af):Prop where
 ok:upto (CR es lg) j
 o:uB m (mw sp sp.length++nG lg j.toNat)
structure Q6 (es sp lg:af)(j k:Int)(m:af):Prop where
 ok:upto (CR es lg) j
 h:Af lg j=true
 g:upto (fun k=>Md es (ag lg j 0+k)) k
 o:uB m (mw sp sp.length++nG lg j.toNat++tg (ag lg j 0) k.toNat)
theorem aeo (h:uB m (mw sp i.toNat))(i1:i<=sp.length)(i2:(sp.length:Int)<=i):Q7 es sp lg 0 m:=⟨bV,by rw[show i.toNat=sp.length from by omega]at h;simpa[nG]using h⟩
theorem aaY (h:Q7 es sp lg j m)(g:Af lg j=true):Q6 es sp lg j (ag lg j 0-ag lg j 0) m:=by
 rw[Int.sub_self];exact⟨h.ok,g,bV,by simpa[tg]using h.o⟩
theorem aa0 (h:Q6 es sp lg j (p-ag lg j 0) m)(p0:ag lg j 0<=p)(g:(fpg es p).length=1):Q6 es sp lg j (p+1-ag lg j 0) (mr m p (.v (.bool true))):=by
 have e:ag lg j 0+(p-ag lg j 0)=p:=by omega
 rw[show p+1-ag lg j 0=(p-ag lg j 0)+1 from by omega];refine⟨h.ok,h.h,SE h.g (by rw[e];exact g),?_⟩;rw[Dh (by omega),e, <-Zs];exact Ia h.o
theorem aaZ (p0:ag lg j 0<=p)(p1:p<ag lg j 0+ag lg j 1)(h:(fpg es p).length≠1):CR es lg j=false:=
 aab (k:=p-ag lg j 0) (by omega) (by omega) (by rw[show ag lg j 0+(p-ag lg j 0)=p from by omega];exact h)
theorem aa1 (h:Q6 es sp lg j (p-ag lg j 0) m)(j0:0<=j)(n0:0<=ag lg j 1)(p1:p<=ag lg j 0+ag lg j 1)(p2:ag lg j 0+ag lg j 1<=p):Q7 es sp lg (j+1) m:=by
 refine⟨bN h.ok (ad0 h.h h.g (by omega) n0),?_⟩;have o:=h.o;rw[show(p-ag lg j 0).toNat=(ag lg j 1).toNat from by omega,Zs, <-CX j0]at o;exact o
theorem P4 (h:Q7 es sp lg j m)(j1:j<=lg.length)(j2:(lg.length:Int)<=j):uB m (A9 sp lg):=by
 have o:=h.o;rw[show j.toNat=lg.length from by omega]at o;exact o
theorem aaO (h:uB m (A9 sp lg))(p:Int):mgbI m p=ownB sp lg p:=by
 refine m8 ?_;unfold ownB;rw[h.s.at_,VK]
theorem Sj (h:mapB es p≠ownB sp lg p):Ga es fr sp lg p=false:=by unfold Ga;rw[beq_eq_false_iff_ne.2 h];rfl
theorem Sk (h:rhB fr p=ownB sp lg p):Ga es fr sp lg p=false:=by unfold Ga;rw[h];simp
theorem acR (h:mapB es p=ownB sp lg p)(g:rhB fr p≠ownB sp lg p):Ga es fr sp lg p=true:=by unfold Ga;rw[h,beq_eq_false_iff_ne.2 g];simp
theorem aeh (h:p∈A9 sp lg)(g:(es.length:Int)<=p):odB es sp lg=false:=VJ (fun c=>by have:=c p h;omega)
theorem aei (o:uB m (A9 sp lg))(h:∀ k∈vs,k<es.length)(g:∀ k∈mJ m,k∈vs):odB es sp lg=true:=VI (fun p hp=>h p (g p ((o.k p).2 hp)))
theorem abT {q:Int}(h:∀ k∈vs,k<(es.length:Int))(g:q<es.length):∀ k∈q::vs,k<(es.length:Int):=fun k hk=>by
 rcases Zk.1 hk with rfl|hk;exact g;exact h k hk
theorem ad4 (j0:0<=j)(j1:j<i)(h:peF es (ag sp i 0)=peF es (ag sp j 0))(g:KO sp i j=false):Jm es sp i=false:=by
 unfold Jm;exact cN j0 (by omega) (by unfold Jl;rw[g,VI h];rfl)
theorem aai (h:peF es (ag sp i 0)≠peF es (ag sp j 0)):Jl es sp i j=true:=by unfold Jl;rw[VJ h];rfl
theorem aaj (h:KO sp i j=true):Jl es sp i j=true:=by unfold Jl;rw[h,Bool.or_true]
theorem ad5 (h:upto (Jl es sp i) j)(g:i<=j)(i0:0<=i):Jm es sp i=true:=by unfold Jm;exact cu h (by omega)
structure QlP (es sp lg:af)(j:Int)(o:af):Prop where
 ok:upto (CR es lg) j
 e:o=kK (mw sp sp.length++nG lg j.toNat)
 l:(nG lg j.toNat).length<=64*j.toNat
structure QkP (es sp lg:af)(j k:Int)(o:af):Prop where
 ok:upto (CR es lg) j
 h:Af lg j=true
 g:upto (fun k=>Md es (ag lg j 0+k)) k
 e:o=kK (mw sp sp.length++nG lg j.toNat++tg (ag lg j 0) k.toNat)
 l:(nG lg j.toNat).length<=64*j.toNat
structure QsP (sp:af)(i:Int)(o:af):Prop where
 ok:upto (Af sp) i
 e:o=kK (mw sp i.toNat)
variable {o: af}
end
end Go.V
namespace Go.V
def TU (k m:Int)(cs:af)(ph nx:Int):Bool:=decide (ph=0)&&(decide (nx=0)&&(decide (k=0)&&(decide (m=0)&&decide (cs.length=0))))
def xi (sp:af)(me:Bool)(k m:Int)(cs:af)(ph nx:Int):Bool:=
 bif me then(jbOk k m cs ph nx&&(decide (0<=spI sp k)&&decide (0<=spI sp m)))else TU k m cs ph nx
def Q9 (cs:af)(i:Int):Bool:=caOk (aO cs i 0)
def hpI (a0 a1 a2:af)(a3:Int)(a4 a5 a6 a7 a8 a9 aA aB:af)(aC:Int)(aD:af)(aE aF aG aH:Int)(aI:Bool)(aJ aK:Int)(aL:af)(aM aN:Int):Bool:=
 kerOk a0 a1 a2 a3 a4&&(rgOk a2.length a5&&(layOk a6 a7&&(pgI a2 a5 a6 a7&&(mailOk aA aB&&(decide (a9.length=aA.length)&&(quarOk aC aD&&(dt (Q9 a9) a9.length&&
  (objOk a6 a7 a8 a9 aH&&(hoI a6 a7 a8 a9 aA aB aD aF&&(inR aE 0 1073741823&&(inR aF 0 1000000&&(inR aG 0 1000&&(inR aH 1 1000000&&xi a6 aI aJ aK aL aM aN)))))))))))))
structure HpN (a0 a1 a2 a4 a5 a6 a7 a8 a9 aA aB aD aL:af):Prop where
 n:NsH a6 a7 a8 a9 aA aB aD
 c:Rw [.sl [tI]] a0
 u:Rw [tB] a1
 e:Rw [tI,tI] a2
 el:a2.length<=1073741824
 r:Rw [tI] a4
 f:Rw [tI,tI] a5
 fl:a5.length<=1073741824
 j:Rw [tI] aL
 jl:aL.length<=1073741824
section
variable {a0 a1 a2: af} {a3: Int} {a4 a5 a6 a7 a8 a9 aA aB: af} {aC: Int} {aD: af} {aE aF aG aH: Int} {aI: Bool} {aJ aK: Int} {aL: af} {aM aN: Int} {i: Int}
theorem adl (h:kerOk a0 a1 a2 a3 a4=false):hpI a0 a1 a2 a3 a4 a5 a6 a7 a8 a9 aA aB aC aD aE aF aG aH aI aJ aK aL aM aN=false:=by unfold hpI;rw[h];simp
theorem ads (h:rgOk a2.length a5=false):hpI a0 a1 a2 a3 a4 a5 a6 a7 a8 a9 aA aB aC aD aE aF aG aH aI aJ aK aL aM aN=false:=by unfold hpI;rw[h];simp
theorem adm (h:layOk a6 a7=false):hpI a0 a1 a2 a3 a4 a5 a6 a7 a8 a9 aA aB aC aD aE aF aG aH aI aJ aK aL aM aN=false:=by unfold hpI;rw[h];simp
theorem adq (h:pgI a2 a5 a6 a7=false):hpI a0 a1 a2 a3 a4 a5 a6 a7 a8 a9 aA aB aC aD aE aF aG aH aI aJ aK aL aM aN=false:=by unfold hpI;rw[h];simp
theorem adn (h:mailOk aA aB=false):hpI a0 a1 a2 a3 a4 a5 a6 a7 a8 a9 aA aB aC aD aE aF aG aH aI aJ aK aL aM aN=false:=by unfold hpI;rw[h];simp
theorem ado (h:decide (a9.length=aA.length)=false):hpI a0 a1 a2 a3 a4 a5 a6 a7 a8 a9 aA aB aC aD aE aF aG aH aI aJ aK aL aM aN=false:=by unfold hpI;rw[h];simp
theorem adr (h:quarOk aC aD=false):hpI a0 a1 a2 a3 a4 a5 a6 a7 a8 a9 aA aB aC aD aE aF aG aH aI aJ aK aL aM aN=false:=by unfold hpI;rw[h];simp
theorem adj (h:dt (Q9 a9) a9.length=false):hpI a0 a1 a2 a3 a4 a5 a6 a7 a8 a9 aA aB aC aD aE aF aG aH aI aJ aK aL aM aN=false:=by unfold hpI;rw[h];simp
theorem adp (h:objOk a6 a7 a8 a9 aH=false):hpI a0 a1 a2 a3 a4 a5 a6 a7 a8 a9 aA aB aC aD aE aF aG aH aI aJ aK aL aM aN=false:=by unfold hpI;rw[h];simp
theorem adk (h:hoI a6 a7 a8 a9 aA aB aD aF=false):hpI a0 a1 a2 a3 a4 a5 a6 a7 a8 a9 aA aB aC aD aE aF aG aH aI aJ aK aL aM aN=false:=by unfold hpI;rw[h];simp
theorem adt (h:inR aE 0 1073741823=false):hpI a0 a1 a2 a3 a4 a5 a6 a7 a8 a9 aA aB aC aD aE aF aG aH aI aJ aK aL aM aN=false:=by unfold hpI;rw[h];simp
theorem adu (h:inR aF 0 1000000=false):hpI a0 a1 a2 a3 a4 a5 a6 a7 a8 a9 aA aB aC aD aE aF aG aH aI aJ aK aL aM aN=false:=by unfold hpI;rw[h];simp
theorem adw (h:inR aG 0 1000=false):hpI a0 a1 a2 a3 a4 a5 a6 a7 a8 a9 aA aB aC aD aE aF aG aH aI aJ aK aL aM aN=false:=by unfold hpI;rw[h];simp
theorem adx (h:inR aH 1 1000000=false):hpI a0 a1 a2 a3 a4 a5 a6 a7 a8 a9 aA aB aC aD aE aF aG aH aI aJ aK aL aM aN=false:=by unfold hpI;rw[h];simp
theorem TA (h:(a9.length:Int)≠aA.length):hpI a0 a1 a2 a3 a4 a5 a6 a7 a8 a9 aA aB aC aD aE aF aG aH aI aJ aK aL aM aN=false:=ado (VJ (by omega))
theorem Tw (i0:0<=i)(i1:i<a9.length)(h:caOk (aO a9 i 0)=false):hpI a0 a1 a2 a3 a4 a5 a6 a7 a8 a9 aA aB aC aD aE aF aG aH aI aJ aK aL aM aN=false:=adj (cN i0 i1 h)
theorem OS (hk:kerOk a0 a1 a2 a3 a4=true)(hr:rgOk a2.length a5=true)(hl:layOk a6 a7=true)(hp:pgI a2 a5 a6 a7=true)(hm:mailOk aA aB=true)(hn:decide (a9.length=aA.length)=true)(hq:quarOk aC aD=true)(hc:dt (Q9 a9) a9.length=true)(ho:objOk a6 a7 a8 a9 aH=true)(hh:hoI a6 a7 a8 a9 aA aB aD aF=true)(hs:inR aE 0 1073741823=true)(ht:inR aF 0 1000000=true)(hw:inR aG 0 1000=true)(hx:inR aH 1 1000000=true):hpI a0 a1 a2 a3 a4 a5 a6 a7 a8 a9 aA aB aC aD aE aF aG aH aI aJ aK aL aM aN=xi a6 aI aJ aK aL aM aN:=by unfold hpI;rw[hk,hr,hl,hp,hm,hn,hq,hc,ho,hh,hs,ht,hw,hx];rfl
structure HpT (a0 a1 a2:af)(a3:Int)(a4 a5 a6 a7 a8 a9 aA aB:af)(aC:Int)(aD:af)(aE aF aG aH:Int)(aI:Bool)(aJ aK:Int)(aL:af)(aM aN:Int):Prop where
 k:kerOk a0 a1 a2 a3 a4=true
 r:rgOk a2.length a5=true
 l:layOk a6 a7=true
 p:pgI a2 a5 a6 a7=true
 m:mailOk aA aB=true
 n:decide (a9.length=aA.length)=true
 q:quarOk aC aD=true
 c:dt (Q9 a9) a9.length=true
 o:objOk a6 a7 a8 a9 aH=true
 h:hoI a6 a7 a8 a9 aA aB aD aF=true
 s:inR aE 0 1073741823=true
 t:inR aF 0 1000000=true
 w:inR aG 0 1000=true
 x:inR aH 1 1000000=true
 j:xi a6 aI aJ aK aL aM aN=true
theorem je (h:hpI a0 a1 a2 a3 a4 a5 a6 a7 a8 a9 aA aB aC aD aE aF aG aH aI aJ aK aL aM aN=true):HpT a0 a1 a2 a3 a4 a5 a6 a7 a8 a9 aA aB aC aD aE aF aG aH aI aJ aK aL aM aN:=by
 unfold hpI at h;simp only[Zc]at h;obtain⟨hk,hr,hl,hp,hm,hn,hq,hc,ho,hh,hs,ht,hw,hx,hj⟩:=h;exact⟨hk,hr,hl,hp,hm,hn,hq,hc,ho,hh,hs,ht,hw,hx,hj⟩
theorem TV (h:jbOk aJ aK aL aM aN=false):false=xi a6 true aJ aK aL aM aN:=by unfold xi;rw[h];rfl
theorem TW (h:spI a6 aJ<0):false=xi a6 true aJ aK aL aM aN:=by unfold xi;rw[VJ (p:=0<=spI a6 aJ) (by omega)];simp
theorem TX (h:jbOk aJ aK aL aM aN=true)(g:0<=spI a6 aJ):cT .geq (spI a6 aK) 0=xi a6 true aJ aK aL aM aN:=by unfold xi;rw[h,VI g];rfl
end
end Go.V
namespace Go.V
def obD (a s ad:Int):Bool:=inR ad a (bO .sub Za (bO .add Za a s) 1)
def obC (os:af)(ad j:Int):Bool:=obD (ag os j 1) (ag os j 2) ad
def ofI (os:af)(ad:Int):Int:=cQ (obC os ad) os.length
def ooI (b:Bool)(os:af)(ad:Int):Int:=if b=true then ofI os ad else-1
theorem aaG {sp lg:af}{a s:Int}(h:okO sp lg a s=true):0<=a/\a<=2000/\1<=s/\s<=1000:=by
 unfold okO at h;simp only[Zc,Z6,VK]at h;obtain⟨_,⟨k,c⟩|⟨k,c⟩⟩:=h
 ·have e:=GT k;have q:0<=fU sp a:=by
   unfold dnK at k;by_cases w:0<=fU sp a;exact w
   ·rw[VM w]at k;split at k<;>omega
  have t:=(fG q).2;change ya sp a (fU sp a)=true at t;obtain⟨t1,t2,t3⟩:=si.1 (v9.1 t);have hs:=mg t1;have hk:=bi.1 hs.2.2.1;have w:dnI sp lg a=fU sp a:=by unfold dnI;rw[VL q]
  rw[w]at c;have b:=LZ (s:=s) (by omega);omega
 ·have q:¬ 0<=fU sp a:=fun w=>by
   unfold dnK at k;rw[VL w]at k;split at k<;>omega
  have g:0<=kN lg a:=by
   unfold dnK at k;rw[VM q]at k;by_cases w:0<=kN lg a;exact w
   ·rw[VM w]at k;omega
  have t:=(fG g).2;change xU lg a (kN lg a)=true at t;have w:dnI sp lg a=kN lg a:=by unfold dnI;rw[VM q,VL g]
  rw[w]at c;unfold xU lhB at t;rw[Zc]at t;obtain⟨t1,t2,t3,t4⟩:=mL t.1;have u:=bi.1 t.2;have v:=bi.1 t1;have pf:0<=ag lg (kN lg a) 1:=by rw[t2];unfold pfN;split<;>omega
  omega
theorem aaE {sp lg os cs:af}{nx i:Int}(h:objOk sp lg os cs nx=true)(i0:0<=i)(i1:i<os.length):0<=ag os i 1/\ag os i 1<=2000/\1<=ag os i 2/\ag os i 2<=1000:=by
 have t:=ed.1 h i i0 i1;unfold yY at t;simp only[Zc]at t;exact aaG t.2.2.2.2
structure ObB (os:af):Prop where
 w:Rw [tI,tI,tI,tI] os
 l:os.length<=1099511627776
 b:∀ i:Int,0<=i->i<os.length->0<=ag os i 1/\ag os i 1<=2000/\1<=ag os i 2/\ag os i 2<=1000
end Go.V
namespace Go.V
def ldV (cs us es:af)(a:Int):Int:=if machOk cs us es=true/\leM es a≠0 then ag (aO cs (leF es a) 0) (leK a) 0 else 0
end Go.V
namespace Go.V
def hlV (o v:Int):Int:=if o<0 then 0 else v
def hlK (o:Int):Int:=if o<0 then 1 else 0
end Go.V
namespace Go.V
theorem GU {sp lg:af}{a:Int}(h:dnK sp lg a=1):dnI sp lg a=fU sp a/\0<=fU sp a/\fU sp a<sp.length/\BX (ag sp (fU sp a) 0) (ag sp (fU sp a) 1) (ag sp (fU sp a) 2) a=true:=by
 have q:0<=fU sp a:=by
  unfold dnK at h;by_cases w:0<=fU sp a;exact w
  ·rw[VM w]at h;split at h<;>omega
 have t:=fG q;change fU sp a<sp.length/\ya sp a (fU sp a)=true at t;exact⟨by unfold dnI;rw[VL q],q,t.1,v9.1 t.2⟩
end Go.V
namespace Go.V
theorem JC {a b:Int}:bO .and Za a b=(q8 a&&&q8 b).toInt:=zW _
theorem Rv {m:Nat}(h:m<65536):bO .and Za (m:Int) 1=((m%2:Nat):Int):=by
 rw[JC];have e:q8 (m:Int)&&&q8 1=BitVec.ofNat 64 (m%2):=by
  apply BitVec.eq_of_toNat_eq;unfold q8;rw[BitVec.toNat_and,Xg,Y2,Y2];show(m%18446744073709551616)&&&1=_;rw[Nat.and_one_is_mod];omega
 rw[e,BitVec.toInt_eq_toNat_of_lt (by rw[Y2];omega),Y2];omega
theorem abx {n t:Nat}(ht:t<=15):IN .shr Za (n:Int) (t:Int)=((n/2^t:Nat):Int):=by
 show Int.fdiv (n:Int) (2^(min (t:Int).toNat 64))=_;rw[show min (t:Int).toNat 64=t by omega,Int.fdiv_eq_ediv_of_nonneg _ (Int.le_of_lt (Int.pow_pos (by omega)))];rw[Int.natCast_ediv,Int.natCast_pow];rfl
theorem CB {b:Int}{t:Nat}(hb:0<=b)(hb2:b<65536)(ht:t<=15):hsB b t=(q8 b).getLsbD t:=by
 obtain⟨n,rfl⟩:=Z8 hb;have hs:slB (n:Int) (t:Int)=true:=Bm.2 ⟨by omega,by omega,by omega⟩;have hd:n/2^t<65536:=Nat.lt_of_le_of_lt (Nat.div_le_self _ _) (by omega);unfold hsB;rw[hs,abx ht,Rv hd];unfold q8;rw[Xg,BitVec.getLsbD_ofNat,Nat.testBit_eq_decide_div_mod_eq];rw[VI (show t<64 by omega)];simp only[Yx];by_cases c:n/2^t%2=1
 ·rw[VI c,VI (by omega)]
 ·rw[VJ c,VJ (by omega)]
theorem zw {p k b:Int}(h:spOk p k b=true):0<=b/\b<65536:=by
 have t:=(mg h).2.2.2;unfold bmOk at t;simp only[Zc,bi]at t;obtain⟨⟨n0,n1⟩,b0,b1⟩:=t;have q:(2:Int)^(slN k).toNat<=2^16:=by
  have:=Nat.pow_le_pow_right (n:=2) (by omega) (show(slN k).toNat<=16 by omega)
  exact_mod_cast this
 have:(2:Int)^16=65536:=rfl;omega
end Go.V
namespace Go.V
structure PgT (es fr sp lg:af):Prop where
 l:∀ j:Nat,j<lg.length->∀ q:Int,ag lg j 0<=q->q<ag lg j 0+ag lg j 1->(fpg es q).length=1
 m:∀ q:Int,0<=q->q<es.length->(peM es q≠0↔q∈A9 sp lg)
 o:∀ q∈A9 sp lg,q<es.length
 c:∀ i j:Nat,i<sp.length->j<sp.length->peF es (ag sp i 0)=peF es (ag sp j 0)->ag sp i 1=ag sp j 1
theorem pgT {es fr sp lg:af}(h:pgI es fr sp lg=true):PgT es fr sp lg:=by
 unfold pgI at h;simp only[Zc]at h;obtain⟨h1,h2,h3,h4,h5⟩:=h;have half:∀ i j:Nat,i<sp.length->j<i->peF es (ag sp i 0)=peF es (ag sp j 0)->ag sp i 1=ag sp j 1:=fun i j hi hj e=>by
  have a:=mj h5 i hi;unfold Jm at a;have b:=mj a j (by omega);unfold Jl at b;rw[VI e]at b;simp only[Bool.not_true,Bool.false_or]at b;unfold KO mshB at b;simp only[Zc,VK]at b;exact b.2.2.1
 refine⟨fun j hj q q0 q1=>?_,fun q q0 q1=>?_,VN h4,fun i j hi hj e=>?_⟩
 ·have a:=mj h2 j hj;unfold CR at a;rw[Zc]at a;have b:=mj a.2 (q-ag lg j 0).toNat (by omega);unfold Md at b;rw[show ag lg j 0+((q-ag lg j 0).toNat:Int)=q by omega]at b;exact VN b
 ·have a:=mj h3 q.toNat (by omega);rw[Zr q0]at a;unfold Ga at a;rw[Zc]at a;have b:=eq_of_beq a.1;unfold mapB ownB at b;by_cases c:peM es q≠0
  ·rw[VI c]at b;exact⟨fun _=>VN b.symm,fun _=>c⟩
  ·rw[VJ c]at b;exact⟨fun x=>absurd x c,fun x=>absurd x (VO b.symm)⟩
 ·by_cases c:i=j
  ·rw[c]
  ·by_cases d:j<i;exact half i j hi d e;exact(half j i hj (by omega) e.symm).symm
end Go.V
namespace Go.V
def poN (sp lg fl:af):Nat->Int
 |0=>0
 |n+1=>poN sp lg fl n+clsSz (ag sp (dnI sp lg (ag fl n 0)) 1)
def ocF (s:Int):Int:=if 0<=clsOf s then clsSz (clsOf s)else s
def ocN (os:af):Nat->Int
 |0=>0
 |n+1=>ocN os n+ocF (ag os n 2)
end Go.V
namespace Go.V
theorem GM {k:Int}(h:inR k 0 3=true):clsSz k=1\/clsSz k=2\/clsSz k=4\/clsSz k=8:=by
 have:=bi.1 h;unfold clsSz;repeat' split<;>omega
theorem Ef {c d:Int}(hc:c=1\/c=2\/c=4\/c=8)(d0:0<=d)(d1:d<=15)(h:d%c=0):d+c<=16:=by
 rcases hc with rfl|rfl|rfl|rfl<;>omega
theorem PV {es fr sp lg:af}{a s i:Int}(hl:layOk sp lg=true)(hp:pgI es fr sp lg=true)(h:okO sp lg a s=true)(i0:0<=i)(i1:i<s):0<=(a+i)/16/\(a+i)/16<es.length/\peM es ((a+i)/16)≠0:=by
 have F:=MB hl;have T:=pgT hp
 suffices h:0<=(a+i)/16/\(a+i)/16∈A9 sp lg from⟨h.1,T.o _ h.2,(T.m _ h.1 (T.o _ h.2)).2 h.2⟩
 unfold okO at h;simp only[Zc,Z6,VK]at h;obtain⟨o,⟨k,c⟩|⟨k,c⟩⟩:=h
 ·obtain⟨e,q,l,t⟩:=GU k;obtain⟨t1,t2,t3⟩:=si.1 t;obtain⟨e1,e2⟩:=wd t;have hs:=mg t1;rw[e]at c;have b:=LZ (s:=s) (by have:=bi.1 hs.2.2.1;omega);rw[<-c]at b;have o':Lp sp a (fU sp a)=0:=by rw[<- (Oi (lg:=lg) q).2];exact o
  unfold Lp at o';rw[e2]at o';have fit:=Ef (GM hs.2.2.1) (by omega) (by omega) o';have p:(a+i)/16=ag sp (fU sp a) 0:=by omega
  rw[p];refine⟨hs.1,Zh.2 (.inl (ut.2 ⟨(fU sp a).toNat,by omega,?_⟩))⟩;rw[Zr q]
 ·have q:¬ 0<=fU sp a:=fun w=>by
   unfold dnK at k;rw[VL w]at k;split at k<;>omega
  have g:0<=kN lg a:=by
   unfold dnK at k;rw[VM q]at k;by_cases w:0<=kN lg a;exact w
   ·rw[VM w]at k;omega
  have t:=fG g;change kN lg a<lg.length/\xU lg a (kN lg a)=true at t;have w:dnI sp lg a=kN lg a:=by unfold dnI;rw[VM q,VL g]
  rw[w]at c;rw[(Oh q g).2]at o;obtain⟨tl,tt⟩:=t;unfold Re loI at o;unfold xU at tt;rw[VL tt]at o;unfold lhB at tt;rw[Zc]at tt;obtain⟨t1,t2,t3,t4⟩:=mL tt.1;have v:ag lg (kN lg a) 1=(ag lg (kN lg a) 2+15)/16:=by rw[t2];unfold pfN;rw[VL t1]
  refine⟨by omega,Zh.2 (.inr (uo.2 ⟨(kN lg a).toNat,by omega,?_,?_⟩))⟩
  ·rw[Zr g];omega
  ·rw[Zr g];omega
end Go.V
namespace Go.V
def ceI (cs es:af)(a:Int):Int:=ag (aO cs (peF es (a/16)) 0) (a%16) 0
def clN (cs es:af)(a:Int):Nat->af
 |0=>[]
 |n+1=>clN cs es a n++[[.i (ceI cs es (a+n))]]
structure ClP (cs es:af)(a i:Int)(o:af):Prop where
 e:o=clN cs es a i.toNat
structure ObC (cs es os:af):Prop where
 b:ObB os
 f:∀ j:Int,0<=j->j<os.length->∀ i:Int,0<=i->i<ag os j 2->0<=peF es ((ag os j 1+i)/16)/\peF es ((ag os j 1+i)/16)<cs.length/\(aO cs (peF es ((ag os j 1+i)/16)) 0).length=16
end Go.V
namespace Go.V
end Go.V
namespace Go.V
def Lj (k b:Int):Nat->af
 |0=>[]
 |n+1=>if hsB b ((n:Int)/clsSz k)=true then Lj k b n++[[.i n]]else Lj k b n
def Dp (p k b:Int):af:=if spOk p k b=true then Lj k b 16 else[]
structure ae8 (k b i:Int)(o:af):Prop where
 e:o=Lj k b i.toNat
def scS (sp:af):Nat->Int
 |0=>0
 |n+1=>scS sp n+(Dp (ag sp n 0) (ag sp n 1) (ag sp n 2)).length
def lgS (lg:af):Nat->Int
 |0=>0
 |n+1=>lgS lg n+ag lg n 2
def NW (ls:af):Nat->Int
 |0=>0
 |n+1=>NW ls n+(aO ls n 0).length*clsSz n
end Go.V
namespace Go.V
structure MkP (f:Int->Bool)(o:af):Prop where
 w:Rw [tB] o
 l:o.length=16
 v:∀ c:Int,0<=c->c<16->pF o c 0=f c
def mkI (f:Int->Bool)(x:af)(i c:Int):Bool:=f c||hasB (x.take i.toNat) c
def mkJ (f g:Int->Bool)(i c:Int):Bool:=f c||(decide (c<i)&&g c)
def mbS (es sp:af)(p:Int):Nat->Int->Bool
 |0,_=>false
 |n+1,c=>mbS es sp p n c||(hasB (fpg es p) (ag sp n 0)&&hasB (Dp (ag sp n 0) (ag sp n 1) (ag sp n 2)) c)
def mbG (es sp lg:af)(p:Int):Nat->Int->Bool
 |0,c=>mbS es sp p sp.length c
 |n+1,c=>mbG es sp lg p n c||lhB (ag lg n 0) (ag lg n 1) (ag lg n 2) (p*16+c)
end Go.V
namespace Go.V
theorem RH {ls:af}(h:caOk ls=true):ls.length=4/\∀ n:Nat,n<4->(aO ls n 0).length<=8:=by
 unfold caOk at h;simp only[Zc,VK]at h;refine⟨h.1,fun n hn=>?_⟩;have t:=ed.1 h.2.1 n (by omega) (by omega);unfold JQ at t;simp only[Zc,VK]at t;exact t.1
def ceC (ls:af):Int:=if caOk ls=true then NW ls ls.length else 0
structure ae4 (ls:af)(i t:Int):Prop where
 e:t=NW ls i.toNat
def acN (cs:af):Nat->Int
 |0=>0
 |n+1=>acN cs n+ceC (aO cs n 0)
structure AcP (cs:af)(i t:Int):Prop where
 e:t=acN cs i.toNat
structure OcP (os:af)(i t:Int):Prop where
 e:t=ocN os i.toNat
structure PoP (sp lg fl:af)(i t:Int):Prop where
 e:t=poN sp lg fl i.toNat
structure ae9 (sp:af)(i t:Int):Prop where
 e:t=scS sp i.toNat
structure ae6 (sp lg:af)(i t:Int):Prop where
 e:t=scS sp sp.length+lgS lg i.toNat
def ifZ (b:Bool)(x:Int):Int:=if b=true then x else 0
def zlI (es:af):Int:=es.length
end Go.V
namespace Go.V
section
variable {cs es fr sp lg: af} {p k: Int} (hl: layOk sp lg = true) (hp: pgI es fr sp lg = true) (hm: peM es p ≠ 0) (k0: 0 <= k) (k1: k < 16)
include hl hp hm k0 k1
end
structure MsP (es sp:af)(p i:Int)(o:af):Prop where
 m:MkP (mbS es sp p i.toNat) o
structure McP (es sp:af)(p i j:Int)(o:af):Prop where
 m:MkP (mkI (mbS es sp p i.toNat) (Dp (ag sp i 0) (ag sp i 1) (ag sp i 2)) j) o
structure MgP (es sp lg:af)(p i:Int)(o:af):Prop where
 m:MkP (mbG es sp lg p i.toNat) o
structure MdP (es sp lg:af)(p i j:Int)(o:af):Prop where
 m:MkP (mkJ (mbG es sp lg p i.toNat) (fun c=>lhB (ag lg i 0) (ag lg i 1) (ag lg i 2) (p*16+c)) j) o
end Go.V
namespace Go.V
section
variable {r0 r1 r2 r3 r4 r5 r6 r7 r8 r9 r10 r11 r12: af}
theorem L1 {n:Nat}(h:xz [r0,r1,r2,r3,r4,r5,r6,r7,r8,r9,r10,r11,r12]<=n):av r0<=n/\av r1<=n/\av r2<=n/\av r3<=n/\av r4<=n/\av r5<=n/\av r6<=n/\av r7<=n/\av r8<=n/\av r9<=n/\av r10<=n/\av r11<=n/\av r12<=n:=⟨eV h (by simp),eV h (by simp),eV h (by simp),eV h (by simp),eV h (by simp),eV h (by simp),eV h (by simp),eV h (by simp),eV h (by simp),eV h (by simp),eV h (by simp),eV h (by simp),eV h (by simp)⟩
end
end Go.V
namespace Go.V
def dlT (b:af)(f:Int):Int:=ag (aO b f 0) 0 0
structure DlT (b x:af)(f:Int):Prop where
 m:mailOk b x=true
 f0:0<=f
 f1:f<b.length
 n:0<(aO b f 0).length
 t0:0<=dlT b f
 t1:dlT b f<b.length
 l:x.length=b.length
end Go.V
namespace Go.V
structure HsT (cs us es:af)(a:Int):Prop where
 a0:0<=a
 m:smM cs us es a=peM es (a/16)
 f:smF cs us es a=peF es (a/16)
 n:smM cs us es a≠0
section
variable {a0 a1 a2: af} {a3: Int} {a4 a5 a6 a7 a8 a9 aA aB: af} {aC: Int} {aD: af} {aE aF aG aH: Int} {aI: Bool} {aJ aK: Int} {aL: af} {aM aN: Int}
end
end Go.V
namespace Go.V
abbrev Pr :=Int×Int
def jnS (o:List Pr)(x:Pr):List Pr:=match o.getLast? with
 |some y=>if y.1+y.2=x.1 then o.dropLast++[(y.1,y.2+x.2)]else o++[x]
 |none=>o++[x]
structure Ip where
 o:List Pr
 r:Pr
 d:Bool
def Rc (s:Ip)(x:Pr):Ip:=
 if x.1+x.2=s.r.1 then⟨s.o,(x.1,x.2+s.r.2),s.d⟩
 else if s.r.1+s.r.2=x.1 then⟨s.o,(s.r.1,s.r.2+x.2),s.d⟩
 else if s.r.1<x.1/\s.d=false then⟨s.o++[s.r,x],s.r,true⟩
 else⟨s.o++[x],s.r,s.d⟩
def ipE (s:Ip):List Pr:=if s.d then s.o else s.o++[s.r]
def ipL (l:List Pr)(r:Pr):List Pr:=ipE (l.foldl Rc ⟨[],r,false⟩)
structure Sp where
 o:List Pr
 d:Bool
def rsS (r:Pr)(s:Sp)(x:Pr):Sp:=if s.d=false/\r.1<x.1 then⟨s.o++[r]++[x],true⟩else⟨s.o++[x],s.d⟩
def Ji:List Pr->Prop
 |[]=>True
 |[x]=>0<x.2
 |x::y::l=>0<x.2/\x.1+x.2<y.1/\Ji (y::l)
theorem GK {x:Pr}{l:List Pr}(h:Ji (x::l)):Ji l:=by
 cases l with
 |nil=>trivial
 |cons y l=>exact h.2.2
theorem NZ {x:Pr}{l:List Pr}(h:Ji (x::l)):0<x.2:=by
 cases l with
 |nil=>exact h
 |cons y l=>exact h.1
theorem Cl {x:Pr}:∀ {l:List Pr},Ji (x::l)->∀ y∈l,x.1+x.2<y.1
 |[],_,y,hy=>by cases hy
 | z::l,h,y,hy=>by
   rcases Zk.1 hy with rfl|hy;exact h.2.1
   ·have:=Cl h.2.2 y hy;have:=NZ h.2.2;have:=h.2.1;omega
end Go.V
namespace Go.V
structure k9 (cs us es:af):Prop where
 n0:1<=cs.length
 n1:cs.length<=32
 u:us.length=cs.length
 l:∀ i:Int,0<=i->i<cs.length->(aO cs i 0).length=16
 c:∀ i k:Int,0<=i->i<cs.length->0<=k->k<16->0<=ag (aO cs i 0) k 0/\ag (aO cs i 0) k 0<=999/\(pF us i 0=false->ag (aO cs i 0) k 0=0)
 e0:1<=es.length
 e1:es.length<=32
 e:∀ i:Int,0<=i->i<es.length->0<=ag es i 0/\ag es i 0<=2/\(ag es i 0=0->ag es i 1=0)/\(0<ag es i 0->0<=ag es i 1/\ag es i 1<cs.length)
 m:∀ i:Int,0<=i->i<cs.length->pF us i 0=eY es i
theorem Pz {cs us es:af}(h:machOk cs us es=true):k9 cs us es:=by
 obtain⟨h1,h2,h3⟩:=MD h;have a:=rQ h1;have b:=Du h2;refine⟨a.2.1,a.2.2,a.1,fun i i0 i1=>SN h1 i0 i1,fun i k i0 i1 k0 k1=>?_,b.1,b.2,fun i i0 i1=>abH h2 i0 i1,h3⟩;have q:=h1;unfold framesOk at q;simp only[Zc,VK]at q;have r:=ed.1 q.2 i i0 i1;unfold ja at r;simp only[Zc,VK]at r;have s:=ed.1 r.2 k k0 (by omega);unfold nU at s;simp only[Zc,Z6,VK]at s;have t:=bi.1 s.1;refine⟨t.1,t.2,fun f=>?_⟩;rcases s.2 with w|w
 ·rw[f]at w;cases w
 ·exact w
theorem PC {cs us es:af}(h:k9 cs us es):machOk cs us es=true:=by
 have f:framesOk cs us=true:=Cw (i:=cs.length) (bi.2 ⟨by have:=h.n0;omega,by have:=h.n1;omega⟩) h.u (fun i i0 i1=>Hb (k:=16) (h.l i i0 i1) (fun k k0 k1=>by
  have c:=h.c i k i0 i1 k0 k1;refine GI (bi.2 ⟨c.1,c.2.1⟩) ?_;cases q:pF us i 0 with
  |true=>exact .inl rfl
  |false=>exact .inr (c.2.2 q)) (Yn _)) (Yn _)
 have t:tableOk es us.length=true:=by
  rw[Dv (i:=es.length) (fun i i0 i1=>IW (by have:=h.e i i0 i1;rw[h.u];exact this)) (Yn _)];exact bi.2 ⟨by have:=h.e0;omega,by have:=h.e1;omega⟩
 exact C0 (i:=us.length) f t (fun i i0 i1=>HP (h.m i i0 (by rw[h.u]at i1;exact i1))) (Yn _)
theorem HQ {es:af}{f:Int}:∀ {n:Nat},0<(vS es f n).length↔∃ i:Nat,i<n/\ag es i 0≠0/\ag es i 1=f
 |0=>⟨fun h=>absurd h (Nat.lt_irrefl _),fun⟨i,h,_⟩=>absurd h (by omega)⟩
 | n+1=>by
   by_cases c:ag es n 0≠0/\ag es n 1=f
   ·rw[vS,VL c,Zf];exact⟨fun _=>⟨n,by omega,c⟩,fun _=>by simp only[Zj,Zl];omega⟩
   ·rw[vS,VM c,HQ (n:=n)]
    constructor
    ·rintro⟨i,h,q⟩;exact⟨i,by omega,q⟩
    ·rintro⟨i,h,q⟩;by_cases z:i=n
     ·subst z;exact absurd q c
     ·exact⟨i,by omega,q⟩
theorem lX {es:af}{f:Int}:eY es f=true↔∃ i:Nat,i<es.length/\ag es i 0≠0/\ag es i 1=f:=yU.trans HQ
theorem lV {es:af}{n i:Nat}{r:aP}(h:n<es.length):(es.set n r).getD i []=if i=n then r else es.getD i []:=by
 simp only[Zn,List.getElem?_set];by_cases c:n=i
 ·subst c;rw[VL rfl,VL h,VL rfl];rfl
 ·rw[VM c,VM (Ne.symm c)]
theorem Mm {es:af}{n i:Int}{r:aP}{j:Nat}(n0:0<=n)(n1:n<es.length)(i0:0<=i):ag (es.set n.toNat r) i j=if i=n then KG (r.getD j .g)else ag es i j:=by
 unfold ag;rw[lV (by omega)];by_cases c:i=n
 ·rw[VL (by omega),VL c]
 ·rw[VM (by omega),VM c]
theorem gbS {es:af}{n i:Int}{r:aP}{j:Nat}(n0:0<=n)(n1:n<es.length)(i0:0<=i):pF (es.set n.toNat r) i j=if i=n then lfB (r.getD j .g)else pF es i j:=by
 unfold pF;rw[lV (by omega)];by_cases c:i=n
 ·rw[VL (by omega),VL c]
 ·rw[VM (by omega),VM c]
theorem gsS {es:af}{n i:Int}{r:aP}{j:Nat}(n0:0<=n)(n1:n<es.length)(i0:0<=i):aO (es.set n.toNat r) i j=if i=n then Mx (r.getD j .g)else aO es i j:=by
 unfold aO;rw[lV (by omega)];by_cases c:i=n
 ·rw[VL (by omega),VL c]
 ·rw[VM (by omega),VM c]
def Ag (es:af)(p:Int):af:=es.set p.toNat [.i 0,.i 0]
def dfU (us es:af)(f:Int):af:=if eY es f=true then us else us.set f.toNat [.v (.bool false)]
def dfC (cs es:af)(f:Int):af:=if eY es f=true then cs else cs.set f.toNat [.s 1 (Dl 16 [.i 0])]
theorem Kk {k:Int}(k0:0<=k)(k1:k<16):ag (Dl 16 [.i 0]) k 0=0:=by
 show ag (Zq 16 [L.i 0]) k 0=0;unfold ag;rw[Zn (l:=Zq _ _),List.getElem?_replicate,VL (by omega)];rfl
theorem Se {cs us es es':af}{f:Int}(h:k9 cs us es)(f0:0<=f)(f1:f<cs.length)(l:es'.length=es.length) 
 (e:∀ i:Int,0<=i->i<es.length->0<=ag es' i 0/\ag es' i 0<=2/\(ag es' i 0=0->ag es' i 1=0)/\(0<ag es' i 0->0<=ag es' i 1/\ag es' i 1<cs.length))
 (m:∀ i:Int,0<=i->i<cs.length->i≠f->eY es' i=eY es i) (g:eY es' f=true->eY es f=true):k9 (dfC cs es' f) (dfU us es' f) es':=by
 unfold dfC dfU;by_cases q:eY es' f=true
 ·rw[VL q,VL q];refine⟨h.n0,h.n1,h.u,h.l,h.c,by rw[l];exact h.e0,by rw[l];exact h.e1,fun i i0 i1=>e i i0 (by omega),fun i i0 i1=>?_⟩;by_cases c:i=f
  ·rw[c,q,h.m f f0 f1,g q]
  ·rw[m i i0 i1 c];exact h.m i i0 i1
 ·have hu:=h.u;rw[VM q,VM q];refine⟨by rw[Zw];exact h.n0,by rw[Zw];exact h.n1,by rw[Zw,Zw];exact h.u,fun i i0 i1=>?_,fun i k i0 i1 k0 k1=>?_,by rw[l];exact h.e0,by rw[l];exact h.e1,fun i i0 i1=>by rw[Zw];exact e i i0 (by omega),fun i i0 i1=>?_⟩
  ·rw[Zw]at i1;rw[gsS f0 f1 i0];split;rfl;exact h.l i i0 i1
  ·rw[Zw]at i1;rw[gsS f0 f1 i0,gbS f0 (by omega) i0];split
   ·show 0<=ag (Dl 16 [.i 0]) k 0/\ag (Dl 16 [.i 0]) k 0<=999/\(_->ag (Dl 16 [.i 0]) k 0=0);rw[Kk k0 k1];exact⟨by omega,by omega,fun _=>rfl⟩
   ·exact h.c i k i0 i1 k0 k1
  ·rw[Zw]at i1;rw[gbS f0 (by omega) i0];split
   ·rename_i c;subst c;show false=_;cases z:eY es' i with
    |false=>rfl
    |true=>exact absurd z q
   ·rename_i c;rw[m i i0 i1 c];exact h.m i i0 i1
theorem abM {cs us es:af}{p:Int}(h:k9 cs us es)(hp:peM es p≠0):k9 (dfC cs (Ag es p) (peF es p)) (dfU us (Ag es p) (peF es p)) (Ag es p):=by
 have pr:0<=p/\p<es.length:=by
  by_cases c:0<=p/\p<es.length;exact c;exact absurd (EI c).1 hp
 have em:peM es p=ag es p 0:=by unfold peM;rw[VL pr]
 have ef:peF es p=ag es p 1:=by unfold peF;rw[VL pr]
 rw[em]at hp;have ep:=h.e p pr.1 pr.2;have fr:=ep.2.2.2 (by omega);rw[ef];have z:∀ i:Int,0<=i->ag (Ag es p) i 0=(if i=p then 0 else ag es i 0)/\ag (Ag es p) i 1=if i=p then 0 else ag es i 1:=fun i i0=>⟨Mm pr.1 pr.2 i0,Mm pr.1 pr.2 i0⟩
 have lu:(Ag es p).length=es.length:=Zw;have mp:∀ f:Int,eY (Ag es p) f=true↔∃ i:Nat,i<es.length/\(i:Int)≠p/\ag es i 0≠0/\ag es i 1=f:=fun f=>by
  rw[lX,lu]
  constructor
  ·rintro⟨i,i1,a,b⟩;rw[(z i (by omega)).1]at a;rw[(z i (by omega)).2]at b;by_cases c:(i:Int)=p
   ·rw[VL c]at a;exact absurd rfl a
   ·rw[VM c]at a b;exact⟨i,i1,c,a,b⟩
  ·rintro⟨i,i1,c,a,b⟩;exact⟨i,i1,by rw[(z i (by omega)).1,VM c];exact a,by rw[(z i (by omega)).2,VM c];exact b⟩
 refine Se h fr.1 fr.2 lu (fun i i0 i1=>?_) (fun i i0 i1 ne=>?_) (fun q=>?_)
 ·rw[(z i i0).1,(z i i0).2];split;exact⟨by omega,by omega,fun _=>rfl,fun q=>by omega⟩;exact h.e i i0 i1
 ·rw[XM,mp,lX]
  constructor
  ·rintro⟨i,i1,_,a,b⟩;exact⟨i,i1,a,b⟩
  ·rintro⟨k,k1,a,b⟩;refine⟨k,k1,fun c=>?_,a,b⟩;rw[c]at b;exact ne b.symm
 ·obtain⟨i,i1,_,a,b⟩:=(mp _).1 q;exact lX.2 ⟨i,i1,a,b⟩
end Go.V
namespace Go.V
theorem Ig {es:af}{p:Int}(h:peM es p≠0):(0<=p/\p<es.length)/\peM es p=ag es p 0/\peF es p=ag es p 1:=by
 have pr:0<=p/\p<es.length:=by
  by_cases c:0<=p/\p<es.length;exact c;exact absurd (EI c).1 h
 exact⟨pr,by unfold peM;rw[VL pr],by unfold peF;rw[VL pr]⟩
def wR (es:af)(p m f:Int):af:=es.set p.toNat [.i m,.i f]
theorem qN {es:af}{p m f:Int}:(wR es p m f).length=es.length:=Zw
theorem oE {es:af}{p m f:Int}(p0:0<=p)(p1:p<es.length)(i:Int)(i0:0<=i):ag (wR es p m f) i 0=(if i=p then m else ag es i 0)/\ag (wR es p m f) i 1=if i=p then f else ag es i 1:=⟨Mm p0 p1 i0,Mm p0 p1 i0⟩
theorem Bi {es:af}{p m f g:Int}(p0:0<=p)(p1:p<es.length)(hm:m≠0):eY (wR es p m f) g=true↔f=g\/∃ i:Nat,i<es.length/\(i:Int)≠p/\ag es i 0≠0/\ag es i 1=g:=by
 rw[lX,qN]
 constructor
 ·rintro⟨i,i1,a,b⟩;rw[(oE p0 p1 i (by omega)).1]at a;rw[(oE p0 p1 i (by omega)).2]at b;by_cases c:(i:Int)=p
  ·rw[VL c]at b;exact .inl b
  ·rw[VM c]at a b;exact .inr ⟨i,i1,c,a,b⟩
 ·rintro(q|⟨i,i1,c,a,b⟩)
  ·obtain⟨n,rfl⟩:=Z8 p0;exact⟨n,by omega,by rw[(oE p0 p1 n (by omega)).1,VL rfl];exact hm,by rw[(oE p0 p1 n (by omega)).2,VL rfl];exact q⟩
  ·exact⟨i,i1,by rw[(oE p0 p1 i (by omega)).1,VM c];exact a,by rw[(oE p0 p1 i (by omega)).2,VM c];exact b⟩
theorem abt {es:af}{p m f:Int}{n:Nat}(p0:0<=p)(p1:p<es.length)(hm:1<=m/\m<=2)(hf:0<=f/\f<n) 
 (e:∀ i:Int,0<=i->i<es.length->0<=ag es i 0/\ag es i 0<=2/\(ag es i 0=0->ag es i 1=0)/\(0<ag es i 0->0<=ag es i 1/\ag es i 1<n)):
 ∀ i:Int,0<=i->i<es.length->0<=ag (wR es p m f) i 0/\ag (wR es p m f) i 0<=2/\(ag (wR es p m f) i 0=0->ag (wR es p m f) i 1=0)/\(0<ag (wR es p m f) i 0->0<=ag (wR es p m f) i 1/\ag (wR es p m f) i 1<n):=fun i i0 i1=>by
 rw[(oE p0 p1 i i0).1,(oE p0 p1 i i0).2];split;exact⟨by omega,by omega,fun q=>by omega,fun _=>hf⟩;exact e i i0 i1
theorem aal {cs us es:af}{p f:Int}(h:k9 cs us es)(p0:0<=p)(p1:p<es.length)(hp:ag es p 0=0)(f0:0<=f)(f1:f<cs.length):k9 cs (us.set f.toNat [.v (.bool true)]) (wR es p 2 f):=by
 have hu:=h.u;refine⟨h.n0,h.n1,by rw[Zw];exact h.u,h.l,fun i k i0 i1 k0 k1=>?_,by rw[qN];exact h.e0,by rw[qN];exact h.e1,fun i i0 i1=>abt p0 p1 (by omega) ⟨f0,f1⟩ h.e i i0 (by rw[qN]at i1;exact i1),fun i i0 i1=>?_⟩
 ·have c:=h.c i k i0 i1 k0 k1;refine⟨c.1,c.2.1,fun q=>?_⟩;rw[gbS f0 (by omega) i0]at q;split at q
  ·cases q
  ·exact c.2.2 q
 ·rw[gbS f0 (by omega) i0];split
  ·rename_i c;subst c;show true=_;exact((Bi p0 p1 (by omega)).2 (.inl rfl)).symm
  ·rename_i c;rw[h.m i i0 i1,XM,Bi p0 p1 (by omega),lX]
   constructor
   ·rintro⟨k,k1,a,b⟩;refine .inr ⟨k,k1,fun q=>?_,a,b⟩;rw[q]at a;exact a hp
   ·rintro(q|⟨k,k1,_,a,b⟩);exact absurd q.symm c;exact⟨k,k1,a,b⟩
theorem aby {cs us es:af}{p f k v:Int}(h:k9 cs us es)(hp:peM es p≠0)(ef':peF es p=f)(k0:0<=k)(k1:k<16)(v0:0<=v)(v1:v<=999):k9 (pj cs f k v) us es:=by
 obtain⟨pr,em,ef⟩:=Ig hp;rw[em]at hp;have ep:=h.e p pr.1 pr.2;have fr:=ep.2.2.2 (by omega);rw[<-ef,ef']at fr;have used:pF us f 0=true:=by
  rw[h.m f fr.1 fr.2];obtain⟨n,rfl⟩:=Z8 pr.1;exact lX.2 ⟨n,by omega,hp,by rw[<-ef,ef']⟩
 have lf:=h.l f fr.1 fr.2;unfold pj;refine⟨by rw[Zw];exact h.n0,by rw[Zw];exact h.n1,by rw[Zw];exact h.u,fun i i0 i1=>?_,fun i j i0 i1 j0 j1=>?_,h.e0,h.e1,fun i i0 i1=>by rw[Zw];exact h.e i i0 i1,fun i i0 i1=>by rw[Zw]at i1;exact h.m i i0 i1⟩
 ·rw[Zw]at i1;rw[gsS fr.1 fr.2 i0];split
  ·show((aO cs f 0).set k.toNat _).length=16;rw[Zw,lf]
  ·exact h.l i i0 i1
 ·rw[Zw]at i1;rw[gsS fr.1 fr.2 i0];split
  ·rename_i c;subst c;show 0<=ag ((aO cs i 0).set k.toNat [.i v]) j 0/\ag ((aO cs i 0).set k.toNat [.i v]) j 0<=999/\(_->ag ((aO cs i 0).set k.toNat [.i v]) j 0=0);rw[Mm k0 (by omega) j0];have c:=h.c i j i0 i1 j0 j1;split;exact⟨v0,v1,fun q=>by rw[used]at q;cases q⟩;exact c
  ·exact h.c i j i0 i1 j0 j1
end Go.V
namespace Go.V
def aeM (e:aP):Pr:=(KG (e.getD 0 .g),KG (e.getD 1 .g))
def pR (es:af):List Pr:=es.map aeM
def frP (p:Pr):aP:=[.i p.1,.i p.2]
def rowP (l:List Pr):af:=l.map frP
theorem oS {es:af}:(pR es).length=es.length:=YO _
theorem Iz {l:List Pr}:(rowP l).length=l.length:=YO _
theorem jN {es:af}{i:Int}(i0:0<=i)(i1:i<es.length):(pR es)[i.toNat]?=some (ag es i 0,ag es i 1):=by
 unfold pR ag;rw[List.getElem?_map,Zn (l:=es),Zu (by omega)];rfl
theorem LC {es:af}{x:Pr}(h:x∈pR es):∃ i:Nat,i<es.length/\x=(ag es i 0,ag es i 1):=by
 obtain⟨i,hi,e⟩:=Wg h;rw[oS]at hi;refine⟨i,hi,?_⟩;have q:=jN (es:=es) (i:=(i:Int)) (by omega) (by omega);rw[ZJ,Zu (by rw[oS];exact hi)]at q;rw[<-e];exact Yz q
theorem EU {l:List Pr}(h:∀ x∈l,(-9223372036854775808<=x.1/\x.1<=9223372036854775807)/\(-9223372036854775808<=x.2/\x.2<=9223372036854775807))(n:l.length<=maxLen):Rw [tI,tI] (rowP l):=⟨by rw[Iz];exact n,fun e he=>by
 obtain⟨x,hx,rfl⟩:=List.mem_map.1 he;exact⟨⟨rfl,(h x hx).1⟩,⟨rfl,(h x hx).2⟩,trivial⟩⟩
theorem v6 {a b:List Pr}:rowP (a++b)=rowP a++rowP b:=List.map_append
theorem GJ:∀ {l:List Pr},(∀ x∈l,0<x.2)->(∀ i:Nat,i+1<l.length->∀ x y,l[i]?=some x->l[i+1]?=some y->x.1+x.2<y.1)->Ji l
 |[],_,_=>trivial
 |[x],h,_=>h x (by simp)
 |x::y::l,h,g=>⟨h x (by simp),g 0 (by simp) x y rfl rfl,GJ (fun z hz=>h z (by simp[hz])) (fun i hi a b ha hb=>g (i+1) (by simp at hi ⊢;omega) a b (by simpa using ha) (by simpa using hb))⟩
structure Jx (n:Int)(rs:af):Prop where
 n0:1<=n
 n1:n<=32
 c:Ji (pR rs)
 b:∀ x∈pR rs,0<=x.1/\1<=x.2/\x.1+x.2<=n
theorem vX {n:Int}{rs:af}(h:rgOk n rs=true):Jx n rs:=by
 unfold rgOk at h;rw[Zc]at h;obtain⟨h1,h2⟩:=h;have r:=bi.1 h2;have at':∀ i:Int,0<=i->i<rs.length->(0<=ag rs i 0/\1<=ag rs i 1/\ag rs i 0+ag rs i 1<=n)/\(0<i->¬ ag rs i 0<=bO .add Za (ag rs (i-1) 0) (ag rs (i-1) 1)):=fun i i0 i1=>by
  have a:=ed.1 h1 i i0 i1;unfold vY at a;simp only[Zc,Bool.not_eq_true',Bool.and_eq_false_iff,decide_eq_false_iff_not]at a;have b:=a.1;unfold rngIn at b;simp only[Zc]at b;have b1:=bi.1 b.1;have b2:=bi.1 b.2;refine⟨by omega,fun p=>?_⟩;rcases a.2 with q|q;exact absurd p q;exact q
 have bd:∀ x∈pR rs,0<=x.1/\1<=x.2/\x.1+x.2<=n:=fun x hx=>by
  obtain⟨i,hi,rfl⟩:=LC hx;exact(at' i (by omega) (by omega)).1
 refine⟨r.1,r.2,GJ (fun x hx=>by have:=(bd x hx).2.1;omega) (fun i hi x y hx hy=>?_),bd⟩;rw[oS]at hi;have qx:=jN (es:=rs) (i:=(i:Int)) (by omega) (by omega);have qy:=jN (es:=rs) (i:=((i+1:Nat):Int)) (by omega) (by omega);rw[ZJ]at qx qy;rw[hx]at qx;rw[hy]at qy;cases qx;cases qy;have a:=(at' ((i+1:Nat):Int) (by omega) (by omega)).2 (by omega);have b:=(at' (i:Int) (by omega) (by omega)).1;rw[show((i+1:Nat):Int)-1=(i:Int)by omega,cE (by omega)]at a;show ag rs i 0+ag rs i 1<_;omega
def C9 (x r:Pr):Bool:=decide (x.1<r.1+r.2)&&decide (r.1<x.1+x.2)
def rpB (n:Int)(rs:af)(a l:Int):Bool:=rgOk n rs&&(rngIn n a l&&(pR rs).all fun x=> !C9 x (a,l))
def rpL (n:Int)(rs:af)(a l:Int):af:=if rpB n rs a l=true then rowP (ipL (pR rs) (a,l))else rs
structure Cc (rs:af)(a0 l0 i:Int)(o:af)(a l:Int)(d:Bool):Prop where
 s:∃ o',o=rowP o'/\((pR rs).take i.toNat).foldl Rc ⟨[],(a0,l0),false⟩=⟨o',(a,l),d⟩
 n:∀ x∈(pR rs).take i.toNat,C9 x (a0,l0)=false
 v:∀ x∈(pR rs).drop i.toNat,C9 x (a,l)=C9 x (a0,l0)
 b:0<=a/\1<=l/\a+l<=32
end Go.V
namespace Go.V
theorem As:∀ {l:List Pr} {i:Nat} {y:Pr},Ji l->l[i]?=some y->∀ x∈l.drop (i+1),y.1+y.2<x.1
 |[],i,y,_,h=>by simp at h
 | z::l,0,y,c,h=>by
   simp at h;subst h;intro x hx;exact Cl c x (by simpa using hx)
 | z::l,i+1,y,c,h=>by
   intro x hx;exact As (GK c) (by simpa using h) x (by simpa using hx)
theorem take_at {l:List Pr}{i:Int}{y:Pr}(i0:0<=i)(h:l[i.toNat]?=some y):l.take (i+1).toNat=l.take i.toNat++[y]:=by
 rw[show(i+1).toNat=i.toNat+1 by omega,List.take_add_one,h];rfl
theorem drop_at {l:List Pr}{i:Int}{y:Pr}(i0:0<=i)(h:l[i.toNat]?=some y):l.drop i.toNat=y::l.drop (i+1).toNat:=by
 rw[show(i+1).toNat=i.toNat+1 by omega];obtain⟨h1,h2⟩:=List.getElem?_eq_some_iff.1 h;rw[WP h1,h2]
theorem Db {x r:Pr}:C9 x r=true↔x.1<r.1+r.2/\r.1<x.1+x.2:=by unfold C9;rw[Zc,VK,VK]
section
variable {n: Int} {rs: af} {a0 l0 i: Int} {o: af} {a l: Int} {d: Bool}
theorem MV (b:0<=a0/\1<=l0/\a0+l0<=32):Cc rs a0 l0 0 [] a0 l0 false:=⟨⟨[],rfl,rfl⟩,fun x hx=>by simp at hx,fun _ _=>rfl,b⟩
theorem Qn (T:Jx n rs)(h:Cc rs a0 l0 i o a l d)(i0:0<=i)(i1:i<rs.length)(x1:ag rs i 0<a+l)(x2:a<ag rs i 0+ag rs i 1):rpB n rs a0 l0=false:=by
 have e:=jN (es:=rs) i0 i1;have m:(ag rs i 0,ag rs i 1)∈(pR rs).drop i.toNat:=by rw[drop_at i0 e];simp
 have v:=h.v _ m;rw[Db.2 ⟨x1,x2⟩]at v;unfold rpB;have:((pR rs).all fun x=> !C9 x (a0,l0))=false:=by
  rw[List.all_eq_false];exact⟨_,Yt m,by rw[<-v];simp⟩
 rw[this];simp
theorem EX (T:Jx n rs)(h:Cc rs a0 l0 i o a l d)(i0:0<=i)(i1:i<rs.length)(nov:¬ (ag rs i 0<a+l/\a<ag rs i 0+ag rs i 1)):
 (∀ x∈(pR rs).take (i+1).toNat,C9 x (a0,l0)=false)/\(∀ x∈(pR rs).drop (i+1).toNat,ag rs i 0+ag rs i 1<x.1/\1<=x.2/\C9 x (a,l)=C9 x (a0,l0))/\(0<=ag rs i 0/\1<=ag rs i 1/\ag rs i 0+ag rs i 1<=32):=by
 have e:=jN (es:=rs) i0 i1;have m:(ag rs i 0,ag rs i 1)∈(pR rs).drop i.toNat:=by rw[drop_at i0 e];simp
 have v:=h.v _ m;have b:=T.b _ (Yt m);have:=T.n1;refine⟨fun x hx=>?_,fun x hx=>?_,⟨b.1,b.2.1,by have:=b.2.2;omega⟩⟩
 ·rw[take_at i0 e]at hx;rcases Zh.1 hx with q|q;exact h.n x q
  ·rw[Yb]at q;rw[q, <-v];cases z:C9 (ag rs i 0,ag rs i 1) (a,l)with
   |false=>rfl
   |true=>exact absurd (Db.1 z) nov
 ·have c:=As T.c e x (by rw[show(i+1).toNat=i.toNat+1 by omega]at hx;exact hx);have p:=T.b x (Yt hx);exact⟨c,p.2.1,h.v x (by rw[drop_at i0 e];exact List.mem_cons_of_mem _ hx)⟩
theorem MW (T:Jx n rs)(h:Cc rs a0 l0 i o a l d)(i0:0<=i)(i1:i<rs.length)(nov:¬ (ag rs i 0<a+l/\a<ag rs i 0+ag rs i 1))(q:ag rs i 0+ag rs i 1=a):Cc rs a0 l0 (i+1) o (ag rs i 0) (ag rs i 1+l) d:=by
 have e:=jN (es:=rs) i0 i1;obtain⟨h1,h2,h3⟩:=EX T h i0 i1 nov;obtain⟨o',eo,es⟩:=h.s;have hb:=h.b;refine⟨⟨o',eo,?_⟩,h1,fun x hx=>?_,by omega⟩
 ·rw[take_at i0 e,XN,es,Y3,Xw];unfold Rc;rw[VL (by exact q)]
 ·obtain⟨c1,c2,c3⟩:=h2 x hx;rw[<-c3,XM,Db,Db]
  constructor<;>rintro⟨u,w⟩<;>constructor<;>(simp only at*;omega)
theorem MX (T:Jx n rs)(h:Cc rs a0 l0 i o a l d)(i0:0<=i)(i1:i<rs.length)(nov:¬ (ag rs i 0<a+l/\a<ag rs i 0+ag rs i 1))(p:ag rs i 0+ag rs i 1≠a)(q:a+l=ag rs i 0):Cc rs a0 l0 (i+1) o a (l+ag rs i 1) d:=by
 have e:=jN (es:=rs) i0 i1;obtain⟨h1,h2,h3⟩:=EX T h i0 i1 nov;obtain⟨o',eo,es⟩:=h.s;have hb:=h.b;refine⟨⟨o',eo,?_⟩,h1,fun x hx=>?_,by omega⟩
 ·rw[take_at i0 e,XN,es,Y3,Xw];unfold Rc;rw[VM (by exact p),VL (by exact q)]
 ·obtain⟨c1,c2,c3⟩:=h2 x hx;rw[<-c3,XM,Db,Db]
  constructor<;>rintro⟨u,w⟩<;>constructor<;>(simp only at*;omega)
theorem MY (T:Jx n rs)(h:Cc rs a0 l0 i o a l d)(i0:0<=i)(i1:i<rs.length)(nov:¬ (ag rs i 0<a+l/\a<ag rs i 0+ag rs i 1))(p:ag rs i 0+ag rs i 1≠a)(q:a+l≠ag rs i 0)(c:a<ag rs i 0)(hd:d=false):
 Cc rs a0 l0 (i+1) (o++[[.i a,.i l],[.i (ag rs i 0),.i (ag rs i 1)]]) a l true:=by
 have e:=jN (es:=rs) i0 i1;obtain⟨h1,h2,h3⟩:=EX T h i0 i1 nov;obtain⟨o',eo,es⟩:=h.s;refine⟨⟨o'++[(a,l),(ag rs i 0,ag rs i 1)],by rw[v6,eo];rfl,?_⟩,h1,fun x hx=>(h2 x hx).2.2,h.b⟩;rw[take_at i0 e,XN,es,Y3,Xw];unfold Rc;rw[VM (by exact p),VM (by exact q),VL (by exact⟨c,hd⟩)]
theorem ID (T:Jx n rs)(h:Cc rs a0 l0 i o a l d)(i0:0<=i)(i1:i<rs.length)(nov:¬ (ag rs i 0<a+l/\a<ag rs i 0+ag rs i 1))(p:ag rs i 0+ag rs i 1≠a)(q:a+l≠ag rs i 0)(c:¬ (a<ag rs i 0/\d=false)):
 Cc rs a0 l0 (i+1) (o++[[.i (ag rs i 0),.i (ag rs i 1)]]) a l d:=by
 have e:=jN (es:=rs) i0 i1;obtain⟨h1,h2,h3⟩:=EX T h i0 i1 nov;obtain⟨o',eo,es⟩:=h.s;refine⟨⟨o'++[(ag rs i 0,ag rs i 1)],by rw[v6,eo];rfl,?_⟩,h1,fun x hx=>(h2 x hx).2.2,h.b⟩;rw[take_at i0 e,XN,es,Y3,Xw];unfold Rc;rw[VM (by exact p),VM (by exact q),VM (by exact c)]
theorem aev (h:rgOk n rs=true)(g:rngIn n a0 l0=true)(nov:∀ x∈pR rs,C9 x (a0,l0)=false):rpB n rs a0 l0=true/\rpL n rs a0 l0=rowP (ipL (pR rs) (a0,l0)):=by
 have e:rpB n rs a0 l0=true:=by
  unfold rpB;rw[h,g];simp only[Yx,Z5];intro x hx;rw[nov x hx];rfl
 exact⟨e,by unfold rpL;rw[VL e]⟩
theorem IC (h:rpB n rs a0 l0=false):rpL n rs a0 l0=rs:=by unfold rpL;rw[h];rfl
theorem uv (hr:rgOk n rs=true)(g:rngIn n a0 l0=true)(h:Cc rs a0 l0 i o a l d)(i1:(rs.length:Int)<=i):rpB n rs a0 l0=true/\rpL n rs a0 l0=if d=true then o else o++[[.i a,.i l]]:=by
 have tk:(pR rs).take i.toNat=pR rs:=List.take_of_length_le (by rw[oS];omega);have hn:=h.n;obtain⟨o',eo,es⟩:=h.s;rw[tk]at hn es;obtain⟨e1,e2⟩:=aev hr g hn;refine⟨e1,?_⟩;rw[e2];unfold ipL;rw[es,eo];unfold ipE;cases d with
 |true=>rfl
 |false=>rw[VM (by simp),VM (by simp),v6];rfl
structure ae7 (rs:af)(a0 l0 i:Int)(o:af)(d:Bool):Prop where
 s:∃ o',o=rowP o'/\((pR rs).take i.toNat).foldl (rsS (a0,l0)) ⟨[],false⟩=⟨o',d⟩
 n:∀ x∈(pR rs).take i.toNat,C9 x (a0,l0)=false
 m:o.length<=2*i.toNat
end
end Go.V
namespace Go.V
theorem abQ {o:af}{n:Int}{x:Value}(h:Rw [tI,tI] o)(n0:0<=n)(n1:n<o.length):jS (.s 2 o) [(n.toNat,1)] [.v x]=o.set n.toNat [.i (ag o n 0),.v x]:=by
 show o.set n.toNat ((o.getD n.toNat []).take 1++[.v x]++(o.getD n.toNat []).drop (1+1))=_;rw[h.eta n0 n1];rfl
theorem abP {o:af}{n:Int}{x:Value}(h:Rw [tI,tI] o)(n0:0<=n)(n1:n<o.length):jS (.s 2 o) [(n.toNat,0)] [.v x]=o.set n.toNat [.v x,.i (ag o n 1)]:=by
 show o.set n.toNat ((o.getD n.toNat []).take 0++[.v x]++(o.getD n.toNat []).drop (0+1))=_;rw[h.eta n0 n1];rfl
theorem Qz {o:af}{n:Int}{j:Nat}(h:Rw [tI,tI] o)(n0:0<=n)(n1:n<o.length)(hj:j<2):∃ rec o',bQ (.s 2 o) [(n.toNat,j)]=some (rec,o')/\o'+1<=rec.length:=eL (by omega) (by
 rw[h.eta n0 n1];show j+1<=2;omega)
theorem KC {o:af}{n:Int}{j:Nat}(h:Rw [tI,tI] o)(n0:0<=n)(n1:n<o.length)(hj:j<2):∃ rec o',bQ (L.s 2 o) [(n.toNat,j)]=some (rec,o')/\o'+[L.v (Zi Zt 0)].length<=rec.length/\Z7 [L.v (Zi Zt 0)].length (Ym o' rec)=jL am (L.s 2 o) [(n.toNat,j)] 0 [L.v (Zi Zt 0)]:=by
 rcases(show j=0\/j=1 by omega)with rfl|rfl
 ·exact d8 (z0:=[.i 0,.i 0]) (z:=[.i 0]) h.wf (by omega) rfl (by decide)
 ·exact d8 (z0:=[.i 0,.i 0]) (z:=[.i 0]) h.wf (by omega) rfl (by decide)
theorem hZ {l:af}{sz j:Nat}{i:Int}(h0:0<=i):Ad (.s sz l) [(i.toNat,j)]=ag l i j:=by
 rw[za];unfold ag;rw[ZJ]
structure JnP (rs:af)(i:Int)(o:af):Prop where
 s:o=rowP (((pR rs).take i.toNat).foldl jnS [])
 l:o.length<=i.toNat
section
variable {rs o: af} {i: Int}
end
end Go.V
namespace Go.V
def F9 (rs:af)(n:Int):Nat->Int
 |0=> -1
 |k+1=>if n<=ag rs k 1/\(F9 rs n k<0\/ag rs k 1<ag rs (F9 rs n k) 1)then k else F9 rs n k
def dQ (rs:af)(n:Int):Int:=F9 rs n rs.length
theorem GE {rs:af}{n:Int}:∀ k:Nat,-1<=F9 rs n k/\F9 rs n k<k/\(0<=F9 rs n k->n<=ag rs (F9 rs n k) 1)
 |0=>⟨Yn _,by show(-1:Int)<0;omega,fun h=>absurd h (by show¬ (0:Int)<= -1;omega)⟩
 | k+1=>by
   have h:=GE (rs:=rs) (n:=n) k;unfold F9;split
   ·rename_i c;exact⟨by omega,by omega,fun _=>c.1⟩
   ·exact⟨h.1,by omega,h.2.2⟩
structure Jt (rs:af)(n i b:Int):Prop where
 e:b=F9 rs n i.toNat
section
variable {rs: af} {n i b: Int}
theorem RB:Jt rs n 0 (-1):=⟨rfl⟩
theorem RF (h:Jt rs n i b)(i0:0<=i): -1<=b/\b<i\/(i=0/\b= -1):=by
 have q:=GE (rs:=rs) (n:=n) i.toNat;rw[<-h.e]at q;omega
theorem RD (h:Jt rs n i b)(i0:0<=i)(c:n<=ag rs i 1)(d:b<0\/ag rs i 1<ag rs b 1):Jt rs n (i+1) i:=⟨by
 rw[show(i+1).toNat=i.toNat+1 by omega,F9,Zr i0, <-h.e,VL ⟨c,d⟩]⟩
theorem RE (h:Jt rs n i b)(i0:0<=i)(c:¬ (n<=ag rs i 1/\(b<0\/ag rs i 1<ag rs b 1))):Jt rs n (i+1) b:=⟨by
 rw[show(i+1).toNat=i.toNat+1 by omega,F9,Zr i0, <-h.e,VM c]⟩
theorem JD (h:Jt rs n i b)(i1:i<=rs.length)(i2:(rs.length:Int)<=i):b=dQ rs n:=by
 rw[h.e];unfold dQ;rw[show i.toNat=rs.length by omega]
end
def tkB (p:Int)(rs:af)(n:Int):Bool:=rgOk p rs&&(decide (1<=n)&&decide (0<=dQ rs n))
def xh (rs:af)(b:Int):af:=rs.take b.toNat++rs.drop (b+1).toNat
def tkL (p:Int)(rs:af)(n:Int):af:=if tkB p rs n=true then(if ag rs (dQ rs n) 1=n then xh rs (dQ rs n)else rs.set (dQ rs n).toNat [.i (ag rs (dQ rs n) 0+n),.i (ag rs (dQ rs n) 1-n)])else rs
def tkA (p:Int)(rs:af)(n:Int):Int:=if tkB p rs n=true then ag rs (dQ rs n) 0 else-1
theorem LB {p n:Int}{rs:af}(h:tkB p rs n=false):tkL p rs n=rs/\tkA p rs n= -1:=by unfold tkL tkA;rw[h];exact⟨rfl,rfl⟩
theorem QE {p n:Int}{rs:af}(h:rgOk p rs=false):tkB p rs n=false:=by unfold tkB;rw[h];rfl
theorem QF {p n:Int}{rs:af}(h:n<1):tkB p rs n=false:=by unfold tkB;rw[VJ (by omega)];simp
theorem QG {p n:Int}{rs:af}(h:dQ rs n<0):tkB p rs n=false:=by unfold tkB;rw[VJ (p:=0<=dQ rs n) (by omega)];simp
theorem aeJ {p n:Int}{rs:af}(h:rgOk p rs=true)(g:1<=n)(b:0<=dQ rs n):tkB p rs n=true:=by unfold tkB;rw[h,VI g,VI b];rfl
theorem QB {p n:Int}{rs:af}(h:tkB p rs n=true)(e:ag rs (dQ rs n) 1=n):tkL p rs n=xh rs (dQ rs n)/\tkA p rs n=ag rs (dQ rs n) 0:=by
 unfold tkL tkA;rw[VL h,VL h,VL e];exact⟨rfl,rfl⟩
theorem QC {p n:Int}{rs:af}(h:tkB p rs n=true)(e:ag rs (dQ rs n) 1≠n):tkL p rs n=rs.set (dQ rs n).toNat [.i (ag rs (dQ rs n) 0+n),.i (ag rs (dQ rs n) 1-n)]/\tkA p rs n=ag rs (dQ rs n) 0:=by
 unfold tkL tkA;rw[VL h,VL h,VM e];exact⟨rfl,rfl⟩
structure TkT (p:Int)(rs:af)(n:Int):Prop where
 i0:0<=dQ rs n
 i1:dQ rs n<rs.length
 n0:1<=n
 a0:0<=ag rs (dQ rs n) 0
 l0:n<=ag rs (dQ rs n) 1
 e:ag rs (dQ rs n) 0+ag rs (dQ rs n) 1<=p
 p0:p<=32
theorem zx {p n:Int}{rs:af}(h:tkB p rs n=true):TkT p rs n:=by
 unfold tkB at h;simp only[Zc,VK]at h;obtain⟨h1,h2,h3⟩:=h;have T:=vX h1;have b:=GE (rs:=rs) (n:=n) rs.length;change-1<=dQ rs n/\dQ rs n<rs.length/\(0<=dQ rs n->n<=ag rs (dQ rs n) 1)at b;have t:=T.b _ (List.mem_of_getElem? (jN (es:=rs) h3 b.2.1));exact⟨h3,b.2.1,h2,t.1,b.2.2 h3,t.2.2,T.n1⟩
theorem J1 {rs:af}{b:Int}{r:aP}(b0:0<=b):xh (rs.set b.toNat r) b=xh rs b:=by
 unfold xh;rw[List.take_set_of_le (Ze _),show(b+1).toNat=b.toNat+1 by omega,List.drop_set_of_lt (by omega)]
theorem Oc {fs:List Ty}{rs:af}{b:Int}(h:Rw fs rs)(b0:0<=b):Rw fs (xh rs b)/\(xh rs b).length<=rs.length:=by
 have l:(xh rs b).length<=rs.length:=by
  unfold xh;rw[Zf,Zg,Zo];omega
 refine⟨⟨ZI l h.1,fun e he=>?_⟩,l⟩;rcases Zh.1 he with q|q;exact h.2 e (Xh q);exact h.2 e (Yt q)
theorem abJ {p n:Int}{rs:af}(h:Rw [tI,tI] rs):Rw [tI,tI] (tkL p rs n)/\(tkL p rs n).length<=rs.length:=by
 cases c:tkB p rs n with
 |false=>rw[(LB c).1];exact⟨h,Ze _⟩
 | true=>
   have T:=zx c;have T1:=T.a0;have T2:=T.l0;have T3:=T.e;have T4:=T.p0;have T5:=T.n0;by_cases e:ag rs (dQ rs n) 1=n
   ·rw[(QB c e).1];exact Oc h T.i0
   ·rw[(QC c e).1,Zw];exact⟨Rw.set h (show bR [tI,tI] [.i (ag rs (dQ rs n) 0+n),.i (ag rs (dQ rs n) 1-n)]from⟨⟨rfl,show-9223372036854775808<=_/\_<=9223372036854775807 from by omega⟩,⟨rfl,show-9223372036854775808<=_/\_<=9223372036854775807 from by omega⟩,trivial⟩) _,Ze _⟩
end Go.V
namespace Go.V
def AG (b:Int):Nat->af
 |0=>[]
 |k+1=>if hsB b k=true then AG b k else AG b k++[[.i k]]
def frL (n b:Int):af:=if bmOk n b=true then AG b n.toNat else[]
theorem ue {b:Int}:∀ k:Nat,(AG b k).length<=k
 |0=>Ze _
 | k+1=>by
   have:=ue (b:=b) k;unfold AG;split;omega
   ·rw[Zf];show _+1<=_;omega
structure Jh (b i:Int)(o:af):Prop where
 e:o=AG b i.toNat
theorem SP {b:Int}:Jh b 0 []:=⟨rfl⟩
theorem SQ {b i:Int}{o:af}(h:Jh b i o)(i0:0<=i)(g:hsB b i=true):Jh b (i+1) o:=⟨by
 rw[h.e,show(i+1).toNat=i.toNat+1 by omega,AG,Zr i0,VL g]⟩
theorem SR {b i:Int}{o:af}(h:Jh b i o)(i0:0<=i)(g:hsB b i=false):Jh b (i+1) (o++[[.i i]]):=⟨by
 rw[h.e,show(i+1).toNat=i.toNat+1 by omega,AG,Zr i0,g];rfl⟩
theorem Kd {b i:Int}{o:af}(h:Jh b i o)(i0:0<=i):(o.length:Int)<=i:=by
 have:=ue (b:=b) i.toNat;rw[<-h.e]at this;omega
theorem ac3 {n b:Int}(h:bmOk n b=false):frL n b=[]:=by unfold frL;rw[h];rfl
theorem Kc {b n i:Int}{o:af}(h:Jh b i o)(g:bmOk n b=true)(i0:i<=n)(i1:n<=i):o=frL n b:=by
 rw[h.e];unfold frL;rw[VL g,show i.toNat=n.toNat by omega]
theorem yI {b:Int}:∀ k:Nat,k<=1024->Rw [tI] (AG b k)
 |0,_=>Rw.nil
 | k+1,h=>by
   have l:=ue (b:=b) k;unfold AG;split;exact yI k (by omega);exact Rw.append (yI k (by omega)) (Qp (by omega)) (by unfold maxLen;simp only[Zj,Zl];omega)
end Go.V
namespace Go.V
def clB (ls:af)(k:Int):Bool:=inR k 0 3&&caOk ls
def ctB (ls:af)(k:Int):Bool:=clB ls k&&decide (0<(aO ls k 0).length)
def ctL (ls:af)(k:Int):af:=if ctB ls k=true then ls.set k.toNat [.s 1 ((aO ls k 0).take ((aO ls k 0).length-1))]else ls
def ctA (ls:af)(k:Int):Int:=if ctB ls k=true then ag (aO ls k 0) ((aO ls k 0).length-1) 0 else-1
def xE (ls:af)(k a:Int):af:=ls.set k.toNat [.s 1 (aO ls k 0++[[.i a]])]
def o6 (ls:af)(k a:Int):Bool:=clB ls k&&caOk (xE ls k a)
def Ff (ls:af)(k a:Int):af:=if o6 ls k a=true then xE ls k a else ls
def czN (ls:af)(k n:Int):Nat:=min n.toNat (aO ls k 0).length
def clO (ls:af)(k n:Int):Bool:=clB ls k&&decide (1<=n)
def clK (ls:af)(k n:Int):af:=if clO ls k n=true then ls.set k.toNat [.s 1 ((aO ls k 0).drop (czN ls k n))]else ls
theorem R3 {ls:af}{k:Int}(h:ctB ls k=false):ctL ls k=ls/\ctA ls k= -1:=by unfold ctL ctA;rw[h];exact⟨rfl,rfl⟩
theorem R4 {ls:af}{k:Int}(h:ctB ls k=true):ctL ls k=ls.set k.toNat [.s 1 ((aO ls k 0).take ((aO ls k 0).length-1))]/\ctA ls k=ag (aO ls k 0) ((aO ls k 0).length-1) 0:=by unfold ctL ctA;rw[VL h,VL h];exact⟨rfl,rfl⟩
theorem xx {ls:af}{k:Int}(h:clB ls k=true):0<=k/\k<4/\ls.length=4/\(aO ls k 0).length<=8:=by
 unfold clB at h;rw[Zc]at h;have r:=bi.1 h.1;have c:=RH h.2;have d:=c.2 k.toNat (by omega);rw[Zr r.1]at d;exact⟨r.1,by omega,c.1,d⟩
theorem IM {ls r:af}{k:Nat}(h:Rw [.sl [tI]] ls)(g:Rw [tI] r):Rw [.sl [tI]] (ls.set k [.s 1 r]):=Rw.set h (show bR [.sl [tI]] [.s 1 r]from⟨⟨rfl,g⟩,trivial⟩) _
theorem Lm {ls r:af}{k:Nat}:av (ls.set k [.s 1 r])<=av ls+av r:=by
 have s:=vf (es:=ls) (n:=k) (e:=[.s 1 r]);have e:gx [.s 1 r]=av r:=by simp only[gx,vg,av];omega
 omega
theorem N9 {ls:af}{k:Int}(h:Rw [.sl [tI]] ls)(g:clB ls k=true):Rw [tI] (aO ls k 0):=by
 have c:=xx g;exact Rw.sub (fs:=[.sl [tI]]) (j:=0) (i:=k) h (by omega) rfl
theorem RY {ls:af}{k a:Int}(h:o6 ls k a=false):Ff ls k a=ls:=by unfold Ff;rw[h];rfl
theorem RZ {ls:af}{k a:Int}(h:o6 ls k a=true):Ff ls k a=xE ls k a:=by unfold Ff;rw[VL h]
theorem L5 {ls:af}{k a:Int}(h:Rw [.sl [tI]] ls)(g:clB ls k=true)(ha: -9223372036854775808<=a/\a<=9223372036854775807):Rw [.sl [tI]] (xE ls k a)/\av (xE ls k a)<=2*av ls+4:=by
 have c:=xx g;have q:=N9 h g;have s:=Lm (ls:=ls) (k:=k.toNat) (r:=aO ls k 0++[[.i a]]);have e:=Aw (a:=aO ls k 0) (b:=[[.i a]]);have o:av [[L.i a]]<=4:=by simp[av,cP,gx,vg]
 have d:=iN (es:=ls) (i:=k) (j:=0);exact⟨IM h (Rw.append q (Qp ha) (by unfold maxLen;simp only[Zj,Zl];omega)),by unfold xE;omega⟩
end Go.V
namespace Go.V
def EL:af->Int->Nat
 |[],_=>0
 |e::l,r=>if qcI (e::l)<=r then 0 else EL l r+1
theorem MO:∀ {l:af} {r:Int} {n:Nat},n<EL l r->r<qcI (l.drop n)
 |[],r,n,h=>absurd h (by show¬ n<0;omega)
 | e::l,r,n,h=>by
   unfold EL at h;split at h
   ·omega
   ·rename_i c;cases n with
    |zero=>rw[YF];omega
    |succ n=>rw[XO];exact MO (by omega)
theorem MN:∀ {l:af} {r:Int},0<=r->qcI (l.drop (EL l r))<=r
 |[],r,h=>h
 | e::l,r,h=>by
   unfold EL;split
   ·rename_i c;rw[YF];exact c
   ·rw[XO];exact MN h
theorem Dj:∀ {l:af} {r:Int},EL l r<=l.length
 |[],r=>Ze _
 | e::l,r=>by
   have:=Dj (l:=l) (r:=r);unfold EL;split;exact ZC _
   ·rw[Zj];omega
structure NC (l:af)(r i:Int):Prop where
 e:i.toNat<=EL l r
section
variable {l: af} {r i: Int}
theorem aa8:NC l r 0:=⟨ZC _⟩
theorem aa9 (h:NC l r i)(i0:0<=i):i<=l.length:=by have:=h.e;have:=Dj (l:=l) (r:=r);omega
theorem P9 (h:NC l r i)(i0:0<=i)(r0:0<=r)(g:r<qcI (l.drop i.toNat)):NC l r (i+1)/\i<l.length:=by
 have e:=h.e;have ne:i.toNat≠EL l r:=fun q=>by
  have:=MN (l:=l) r0;rw[<-q]at this;omega
 have:=Dj (l:=l) (r:=r);exact⟨⟨by omega⟩,by omega⟩
theorem K7 (h:NC l r i)(g:qcI (l.drop i.toNat)<=r):i.toNat=EL l r:=by
 have e:=h.e;rcases Nat.lt_or_eq_of_le e with q|q
 ·have:=MO q;omega
 ·exact q
end
def Bp (a c s:Int):aP:=[.i a,.i c,.i s]
def FI (rm:Int)(qs:af)(a c s:Int):Bool:=quarOk rm qs&&stlOk qs a c s
def qaL (rm:Int)(qs:af)(a c s:Int):af:=if FI rm qs a c s=true then(qs++[Bp a c s]).drop (EL (qs++[Bp a c s]) rm)else qs
def qaR (rm:Int)(qs:af)(a c s:Int):af:=if FI rm qs a c s=true then(qs++[Bp a c s]).take (EL (qs++[Bp a c s]) rm)else[]
theorem Io {rm:Int}{qs:af}{a c s:Int}(h:FI rm qs a c s=false):qaL rm qs a c s=qs/\qaR rm qs a c s=[]:=by unfold qaL qaR;rw[h];exact⟨rfl,rfl⟩
theorem K6 {rm:Int}{qs:af}{a c s:Int}(h:FI rm qs a c s=true):qaL rm qs a c s=(qs++[Bp a c s]).drop (EL (qs++[Bp a c s]) rm)/\qaR rm qs a c s=(qs++[Bp a c s]).take (EL (qs++[Bp a c s]) rm):=by unfold qaL qaR;rw[VL h,VL h];exact⟨rfl,rfl⟩
def qeN:af->Int->Nat
 |[],_=>0
 |e::l,t=>if KG (e.getD 2 .g)<t then qeN l t+1 else 0
structure QeP (l:af)(t i:Int):Prop where
 e:i.toNat<=qeN l t
section
variable {l: af} {t i: Int}
end
def qeB (rm:Int)(qs:af)(now age:Int):Bool:=quarOk rm qs&&(inR now 0 1000000&&inR age 0 1000000)
def qeL (rm:Int)(qs:af)(now age:Int):af:=if qeB rm qs now age=true then qs.drop (qeN qs (now-age))else qs
def K8 (rm:Int)(qs:af)(now age:Int):af:=if qeB rm qs now age=true then qs.take (qeN qs (now-age))else[]
end Go.V
namespace Go.V
theorem yx {k:Nat}:∀ {l:af},(∀ e∈l,gx e<=k)->cP l<=k*l.length
 |[],_=>ZC _
 | e::l,h=>by
   have a:=h e (by simp);have b:=yx (l:=l) (fun x hx=>h x (by simp[hx]));simp only[cP,Zj,Nat.mul_succ];omega
theorem uh {cs us es:af}(h:k9 cs us es)(rc:Rw [.sl [tI]] cs)(ru:Rw [tB] us)(re:Rw [tI,tI] es):av cs<=1024/\av us<=64/\av es<=64:=by
 have n1:=h.n1;have hu:=h.u;have e1:=h.e1;refine⟨?_,?_,?_⟩
 ·have q:cP cs<=16*cs.length:=yx fun e he=>by
   obtain⟨i,hi,rfl⟩:=Wg he;have a:=rc.eta (i:=i) (by omega) (by omega);rw[Zn,ZJ,Zu hi,Option.getD_some]at a;rw[a];show gx [.s 1 (aO cs i 0)]<=16;have l:=h.l i (by omega) (by omega);have w:=(Rw.sub (fs:=[.sl [tI]]) (j:=0) (i:=(i:Int)) rc (by omega) rfl).cnt rfl;have e:gx [.s 1 (aO cs i 0)]=av (aO cs i 0):=by simp only[gx,vg,av];omega
   rw[e,w];omega
  unfold av;omega
 ·rw[ru.cnt rfl];omega
 ·rw[re.cnt rfl];omega
def sU (us es:af)(c:Int)(rs:af)(p:Int):Bool:=(!hasB rs c&&decide (0<=dH us))&&(inR p 0 (es.length-1)&&decide (peM es p=0))
def Er (us es:af)(c:Int)(rs:af)(p:Int):af:=if sU us es c rs p=true then us.set (dH us).toNat [.v (.bool true)]else us
def CO (us es:af)(c:Int)(rs:af)(p:Int):af:=if sU us es c rs p=true then wR es p 2 (dH us)else es
def CP (cs es:af)(p:Int):af:=if peM es p≠0 then dfC cs (Ag es p) (peF es p)else cs
def CQ (us es:af)(p:Int):af:=if peM es p≠0 then dfU us (Ag es p) (peF es p)else us
def Ab (es:af)(p:Int):af:=if peM es p≠0 then Ag es p else es
def kpB (es:af)(c:Int)(rs:af)(p m:Int):Bool:= !hasB rs c&&(decide (peM es p≠0)&&(decide (m=1)||decide (m=2)))
def kpE (es:af)(c:Int)(rs:af)(p m:Int):af:=if kpB es c rs p m=true then wR es p m (peF es p)else es
def koB (es:af)(c:Int)(rs:af)(p q:Int):Bool:= !hasB rs c&&(decide (peM es p≠0)&&(decide (peM es q≠0)&&decide (p≠q)))
def koC (cs es:af)(c:Int)(rs:af)(p q:Int):af:=if koB es c rs p q=true then dfC cs (wR es p 2 (peF es q)) (peF es p)else cs
def koU (us es:af)(c:Int)(rs:af)(p q:Int):af:=if koB es c rs p q=true then dfU us (wR es p 2 (peF es q)) (peF es p)else us
def koE (es:af)(c:Int)(rs:af)(p q:Int):af:=if koB es c rs p q=true then wR es p 2 (peF es q)else es
theorem TZ {cs us es rs:af}{c p:Int}(h:k9 cs us es):k9 cs (Er us es c rs p) (CO us es c rs p):=by
 unfold Er CO;by_cases g:sU us es c rs p=true
 ·rw[VL g,VL g];unfold sU at g;simp only[Zc,VK]at g;have r:=bi.1 g.2.1;have f:=uf (us:=us);have u:=h.u;have pr:0<=p/\p<es.length:=by omega
  have z:ag es p 0=0:=by have:=g.2.2;unfold peM at this;rw[VL pr]at this;exact this
  exact aal h r.1 (by omega) z g.1.2 (by omega)
 ·rw[VM g,VM g];exact h
theorem T8 {cs us es:af}{p:Int}(h:k9 cs us es):k9 (CP cs es p) (CQ us es p) (Ab es p):=by
 unfold CP CQ Ab;by_cases g:peM es p≠0
 ·rw[VL g,VL g,VL g];exact abM h g
 ·rw[VM g,VM g,VM g];exact h
theorem rwU {us:af}{n:Nat}{b:Bool}(h:Rw [tB] us):Rw [tB] (us.set n [.v (.bool b)]):=Rw.set h (show bR [tB] [.v (.bool b)]from⟨trivial,trivial⟩) _
theorem Qo {es:af}{p m f:Int}(h:Rw [tI,tI] es)(hm: -9223372036854775808<=m/\m<=9223372036854775807)(hf: -9223372036854775808<=f/\f<=9223372036854775807):Rw [tI,tI] (wR es p m f):=Rw.set h (show bR [tI,tI] [.i m,.i f]from⟨⟨rfl,hm⟩,⟨rfl,hf⟩,trivial⟩) _
theorem aew {cs es:af}{f:Int}(h:Rw [.sl [tI]] cs):Rw [.sl [tI]] (dfC cs es f):=by
 unfold dfC;split;exact h;exact IM h (Rw.replicate (show bR [tI] [.i 0]from⟨⟨rfl,show-9223372036854775808<=(0:Int)/\(0:Int)<=9223372036854775807 from by omega⟩,trivial⟩) (by unfold maxLen;omega))
theorem aex {us es:af}{f:Int}(h:Rw [tB] us):Rw [tB] (dfU us es f):=by
 unfold dfU;split;exact h;exact rwU h
theorem Ms {us es rs:af}{c p:Int}(hu:Rw [tB] us)(he:Rw [tI,tI] es)(l:us.length<=32):Rw [tB] (Er us es c rs p)/\Rw [tI,tI] (CO us es c rs p):=by
 have f:=uf (us:=us);unfold Er CO
 constructor<;>split
 ·exact rwU hu
 ·exact hu
 ·exact Qo he (by omega) (by omega)
 ·exact he
theorem Mu {cs us es:af}{p:Int}(hc:Rw [.sl [tI]] cs)(hu:Rw [tB] us)(he:Rw [tI,tI] es):Rw [.sl [tI]] (CP cs es p)/\Rw [tB] (CQ us es p)/\Rw [tI,tI] (Ab es p):=by
 unfold CP CQ Ab;refine⟨?_,?_,?_⟩<;>split
 ·exact aew hc
 ·exact hc
 ·exact aex hu
 ·exact hu
 ·exact Qo (m:=0) (f:=0) he (by omega) (by omega)
 ·exact he
theorem jP {cs us es rs:af}{c:Int}(h:kerOk cs us es c rs=true):k9 cs us es/\0<=c/\c<=100000/\md rs=true:=by
 unfold kerOk at h;simp only[Zc]at h;have r:=bi.1 h.1.2;exact⟨Pz h.1.1,r.1,r.2,h.2⟩
theorem yP {cs us es rs:af}{c:Int}(h:k9 cs us es)(c0:0<=c)(c1:c<=100000)(r:md rs=true):kerOk cs us es c rs=true:=En (PC h) (bi.2 ⟨c0,c1⟩) r
end Go.V
namespace Go.V
structure mZ (a0 a1 a2 a4 a5 a6 a7 a8 a9 aA aB aD aL:af):Prop where
 r0:Rw [.sl [tI]] a0
 r1:Rw [tB] a1
 r2:Rw [tI,tI] a2
 r4:Rw [tI] a4
 r5:Rw [tI,tI] a5
 r6:Rw [tI,tI,tI] a6
 r7:Rw [tI,tI,tI] a7
 r8:Rw [tI,tI,tI,tI] a8
 r9:Rw [.sl [.sl [tI]]] a9
 r10:Rw [.sl [tI,tI]] aA
 r11:Rw [.sl [tI]] aB
 r13:Rw [tI,tI,tI] aD
 r21:Rw [tI] aL
 c0:av a0<=1073741824
 c1:av a1<=1073741824
 c2:av a2<=1073741824
 c4:av a4<=1073741824
 c5:av a5<=1073741824
 c6:av a6<=1073741824
 c7:av a7<=1073741824
 c8:av a8<=1073741824
 c9:av a9<=1073741824
 c10:av aA<=1073741824
 c11:av aB<=1073741824
 c13:av aD<=1073741824
 c21:av aL<=1073741824
theorem mZ.hp {a0 a1 a2 a4 a5 a6 a7 a8 a9 aA aB aD aL:af}(h:mZ a0 a1 a2 a4 a5 a6 a7 a8 a9 aA aB aD aL):HpN a0 a1 a2 a4 a5 a6 a7 a8 a9 aA aB aD aL:=by
 have l2:=aS (es:=a2);have l5:=aS (es:=a5);have l6:=aS (es:=a6);have l7:=aS (es:=a7);have l8:=aS (es:=a8);have l13:=aS (es:=aD);have l21:=aS (es:=aL);have c2:=h.c2;have c5:=h.c5;have c6:=h.c6;have c7:=h.c7;have c8:=h.c8;have c13:=h.c13;have c21:=h.c21;exact⟨⟨h.r6,h.r7,h.r8,h.r9,h.r13,H2 h.r10 h.r11 h.c10 h.c11,PR h.r9 h.c9,by omega,by omega,by omega,by omega,h.c9⟩,h.r0,h.r1,h.r2,by omega,h.r4,h.r5,by omega,h.r21,by omega⟩
theorem sr {fs:List Ty}{es:af}{i:Int}(h:Rw [.sl fs] es)(h0:0<=i)(h1:i<es.length):Rw fs (aO es i 0):=Rw.sub (fs:=[.sl fs]) (j:=0) (i:=i) h (by omega) rfl
end Go.V
namespace Go.V
def htB (b x:af)(f:Int):Bool:=inR f 0 (b.length-1)&&mailOk b x
theorem OU {b x:af}{f:Int}(h:htB b x f=true):0<=f/\f<b.length:=by
 unfold htB at h;simp only[Zc]at h;have:=bi.1 h.1;omega
theorem TD {b x:af}{f:Int}(h:inR f 0 (b.length-1)=false):htB b x f=false:=by unfold htB;rw[h];rfl
theorem TE {b x:af}{f:Int}(h:inR f 0 (b.length-1)=true):htB b x f=mailOk b x:=by unfold htB;rw[h];rfl
theorem TF {b x:af}{f:Int}(h:mailOk b x=false):htB b x f=false:=by unfold htB;rw[h];simp
theorem TG {b x:af}{f:Int}(h:mailOk b x=true):htB b x f=inR f 0 (b.length-1):=by unfold htB;rw[h];simp
theorem IY {b x:af}{i:Int}(h:Rw [.sl [tI]] b)(h0:0<=i)(h1:i<b.length):jS (.s 1 b) [(i.toNat,0)] [.s 1 x]=b.set i.toNat [.s 1 x]:=eZ (by rw[h.eta h0 h1];rfl)
theorem E1 {fs:List Ty}{b:af}{i:Int}(h:Rw [.sl fs] b)(h0:0<=i)(h1:i<b.length):∃ rec o',bQ (.s 1 b) [(i.toNat,0)]=some (rec,o')/\o'+1<=rec.length:=eL (by omega) (by rw[h.eta h0 h1];exact Ze _)
theorem HR {b x b' x':af}{r r':Bool}(h1:b=b')(h2:x=x')(h3:r=r'):[DV.agg [.s 1 b,.s 1 x],DV.k r]=[DV.agg [.s 1 b',.s 1 x'],DV.k r']:=by rw[h1,h2,h3]
end Go.V
namespace Go.V
def ccB (cs us es:af)(c:Int)(rs:af):Bool:=decide (c≠100000)&&kerOk cs us es c rs
theorem LY {cs us es rs:af}{c:Int}(h:ccB cs us es c rs=true):c≠100000/\kerOk cs us es c rs=true:=by
 unfold ccB at h;rw[Zc,VK]at h;exact h
theorem RP {cs us es rs:af}{c:Int}(h:c=100000):ccB cs us es c rs=false:=by unfold ccB;rw[VJ (fun n=>n h)];rfl
theorem GH {cs us es rs:af}{c:Int}(h:c≠100000):ccB cs us es c rs=kerOk cs us es c rs:=by unfold ccB;rw[VI h];rfl
def ktC (k:Bool)(cs es:af)(p:Int):af:=if k=true then CP cs es p else cs
def ktU (k:Bool)(us es:af)(p:Int):af:=if k=true then CQ us es p else us
def ktE (k:Bool)(es:af)(p:Int):af:=if k=true then Ab es p else es
def ktB (k:Bool)(es:af)(p:Int):Bool:=k&&mapB es p
theorem T7 {k:Bool}{cs us es:af}{p:Int}(h:k=false):ktC k cs es p=cs/\ktU k us es p=us/\ktE k es p=es/\ktB k es p=false:=by subst h;exact⟨rfl,rfl,rfl,rfl⟩
theorem Pf {k:Bool}{cs us es:af}{p:Int}(h:k=true):ktC k cs es p=CP cs es p/\ktU k us es p=CQ us es p/\ktE k es p=Ab es p/\ktB k es p=mapB es p:=by subst h;exact⟨rfl,rfl,rfl,rfl⟩
theorem adX {cs us es:af}{p:Int}(h:mapB es p=false):CP cs es p=cs/\CQ us es p=us/\Ab es p=es:=by
 unfold mapB at h;have:=VO h;unfold CP CQ Ab;rw[VM this,VM this,VM this];exact⟨rfl,rfl,rfl⟩
theorem adY {cs us es:af}{p:Int}(h:mapB es p=true):CP cs es p=dfC cs (Ag es p) (peF es p)/\CQ us es p=dfU us (Ag es p) (peF es p)/\Ab es p=Ag es p:=by
 unfold mapB at h;have:=VN h;unfold CP CQ Ab;rw[VL this,VL this,VL this];exact⟨rfl,rfl,rfl⟩
theorem adW {k:Bool}{cs us es:af}{p:Int}(h:mapB es p=false):ktC k cs es p=cs/\ktU k us es p=us/\ktE k es p=es/\ktB k es p=false:=by
 cases k with
 |false=>exact T7 rfl
 |true=>have q:=adX (cs:=cs) (us:=us) h;exact⟨q.1,q.2.1,q.2.2,h⟩
theorem Ew {es:af}{p:Int}(h:mapB es p=true):(0<=p/\p<es.length)/\peM es p=ag es p 0/\peF es p=ag es p 1/\peM es p≠0:=by
 unfold mapB at h;have:=VN h;have q:=Ig this;exact⟨q.1,q.2.1,q.2.2,this⟩
theorem Ey {cs us es:af}{p:Int}(m:k9 cs us es)(h:mapB es p=true):0<=ag es p 1/\ag es p 1<cs.length:=by
 have q:=Ew h;have e:=m.e p q.1.1 q.1.2;exact e.2.2.2 (by have:=q.2.1;have:=q.2.2.2;omega)
theorem acJ {cs us es:af}{f:Int}(h:((pagesOn es f).length:Int)=0):dfC cs es f=cs.set f.toNat [.s 1 (Dl 16 [.i 0])]/\dfU us es f=us.set f.toNat [.v (.bool false)]:=by
 have e:eY es f=false:=KJ (by omega);unfold dfC dfU;rw[e];exact⟨rfl,rfl⟩
theorem acK {cs us es:af}{f:Int}(h:¬ ((pagesOn es f).length:Int)=0):dfC cs es f=cs/\dfU us es f=us:=by
 have e:eY es f=true:=yU.2 (by omega);unfold dfC dfU;rw[e];exact⟨rfl,rfl⟩
theorem abN {es:af}{p:Int}(h:Rw [tI,tI] es)(p0:0<=p)(p1:p<es.length):jS (.s 2 es) [(p.toNat,0)] [.i 0,.i 0]=Ag es p:=by
 unfold Ag;exact eZ (by rw[h.eta p0 p1];rfl)
theorem Es {es:af}{p:Int}:(Ab es p).length=es.length:=by
 unfold Ab Ag;split;exact Zw;rfl
structure K3 where
 c:af
 u:af
 e:af
def D8 (a0 a1 a2:af)(t:Int):Nat->K3
 |0=>⟨a0,a1,a2⟩
 |n+1=>⟨CP (D8 a0 a1 a2 t n).c (D8 a0 a1 a2 t n).e (t+n),CQ (D8 a0 a1 a2 t n).u (D8 a0 a1 a2 t n).e (t+n),Ab (D8 a0 a1 a2 t n).e (t+n)⟩
theorem D9 {a0 a1 a2:af}{t:Int}{n:Nat}:D8 a0 a1 a2 t (n+1)=⟨CP (D8 a0 a1 a2 t n).c (D8 a0 a1 a2 t n).e (t+n),CQ (D8 a0 a1 a2 t n).u (D8 a0 a1 a2 t n).e (t+n),Ab (D8 a0 a1 a2 t n).e (t+n)⟩:=rfl
def duC (a0 a1 a2:af)(t l:Int):af:=(D8 a0 a1 a2 t l.toNat).c
def duU (a0 a1 a2:af)(t l:Int):af:=(D8 a0 a1 a2 t l.toNat).u
def duE (a0 a1 a2:af)(t l:Int):af:=(D8 a0 a1 a2 t l.toNat).e
theorem acQ {a0 a1 a2:af}{t:Int}:duC a0 a1 a2 t 1=CP a0 a2 t/\duU a0 a1 a2 t 1=CQ a1 a2 t/\duE a0 a1 a2 t 1=Ab a2 t:=by
 unfold duC duU duE;have z:t+((0:Nat):Int)=t:=by omega
 rw[show(1:Int).toNat=0+1 from rfl,D9,z];exact⟨rfl,rfl,rfl⟩
structure F3 (a0 a1 a2:af)(t p:Int)(c u e:af):Prop where
 m:k9 c u e
 rc:Rw [.sl [tI]] c
 ru:Rw [tB] u
 re:Rw [tI,tI] e
 l:e.length=a2.length
 ec:c=duC a0 a1 a2 t (p-t)
 eu:u=duU a0 a1 a2 t (p-t)
 ee:e=duE a0 a1 a2 t (p-t)
section
variable {a0 a1 a2 c u e: af} {t p: Int}
theorem GX (m:k9 a0 a1 a2)(rc:Rw [.sl [tI]] a0)(ru:Rw [tB] a1)(re:Rw [tI,tI] a2):F3 a0 a1 a2 t t a0 a1 a2:=by
 have z:(t-t).toNat=0:=by omega
 refine⟨m,rc,ru,re,rfl,?_,?_,?_⟩
 ·unfold duC;rw[z];rfl
 ·unfold duU;rw[z];rfl
 ·unfold duE;rw[z];rfl
theorem Cs (h:F3 a0 a1 a2 t p c u e)(p0:t<=p):F3 a0 a1 a2 t (p+1) (CP c e p) (CQ u e p) (Ab e p):=by
 have w:=Mu (p:=p) h.rc h.ru h.re;have s:(p+1-t).toNat=(p-t).toNat+1:=by omega
 have q:t+((p-t).toNat:Int)=p:=by omega
 refine⟨T8 h.m,w.1,w.2.1,w.2.2,by rw[Es];exact h.l,?_,?_,?_⟩
 ·rw[h.ec,h.ee];unfold duC duE;rw[s,D9,q]
 ·rw[h.eu,h.ee];unfold duU duE;rw[s,D9,q]
 ·rw[h.ee];unfold duE;rw[s,D9,q]
theorem Eb {l:Int}(h:F3 a0 a1 a2 t p c u e)(p1:t+l<=p)(p2:p<=t+l):c=duC a0 a1 a2 t l/\u=duU a0 a1 a2 t l/\e=duE a0 a1 a2 t l:=by
 have q:p-t=l:=by omega
 exact⟨q▸h.ec,q▸h.eu,q▸h.ee⟩
theorem yE (h:F3 a0 a1 a2 t p c u e):av c<=1024/\av u<=64/\av e<=64:=uh h.m h.rc h.ru h.re
theorem Ea (m:k9 a0 a1 a2)(rc:Rw [.sl [tI]] a0)(ru:Rw [tB] a1)(re:Rw [tI,tI] a2):∀ n:Nat,F3 a0 a1 a2 t (t+n) (duC a0 a1 a2 t n) (duU a0 a1 a2 t n) (duE a0 a1 a2 t n)
 |0=>by have:=GX (t:=t) m rc ru re;rw[show t+((0:Nat):Int)=t by omega];exact this
 | n+1=>by
   have h:=Cs (Ea m rc ru re n) (by omega);have e:((n+1:Nat):Int)=(n:Int)+1:=by omega
   rw[show t+((n+1:Nat):Int)=t+n+1 by omega];exact h
end
def ifR (b:Bool)(x y:af):af:=if b=true then x else y
theorem Dk {o o':af}{r r':Bool}(h2:o=o')(h3:r=r'):[DV.one (.s 2 o),DV.k r]=[DV.one (.s 2 o'),DV.k r']:=by rw[h2,h3]
end Go.V
namespace Go.V
structure SmR (rs:af):Prop where
 w:Rw [tI,tI] rs
 b:∀ i:Int,0<=i->i<rs.length->0<=ag rs i 0/\ag rs i 0<=64/\0<=ag rs i 1/\ag rs i 1<=64
theorem abO {o:af}{n:Int}{b:Bool}(h:Rw [tB] o)(h0:0<=n)(h1:n<o.length):jS (.s 1 o) [(n.toNat,0)] [.v (.bool b)]=o.set n.toNat [.v (.bool b)]:=eZ (by rw[h.eta h0 h1];rfl)
theorem aeI {o:af}{n:Int}(h:Rw [tB] o)(h0:0<=n)(h1:n<o.length):∃ rec o',bQ (.s 1 o) [(n.toNat,0)]=some (rec,o')/\o'+1<=rec.length:=eL (by omega) (by rw[h.eta h0 h1];exact Ze _)
theorem abA {es:af}{p:Int}(h:Rw [tI,tI] es)(p0:0<=p)(p1:p<es.length):∃ rec o,bQ (.s 2 es) [(p.toNat,0)]=some (rec,o)/\o+2<=rec.length:=eL (by omega) (by rw[h.eta p0 p1];exact Ze _)
section
variable {n a0 l0 i: Int} {rs o: af} {d: Bool}
theorem MU (g:rngIn n a0 l0=true)(T:Jx n rs):0<=a0/\1<=l0/\a0+l0<=32:=by
 unfold rngIn at g;simp only[Zc]at g;have p:=bi.1 g.1;have q:=bi.1 g.2;have:=T.n1;omega
structure JnQ (rs:af)(i:Int)(o:af)(n:Nat):Prop where
 p:JnP rs i o
 n:n=o.length
 w:Rw [tI,tI] o
 b:∀ k:Int,0<=k->k<o.length->0<=ag o k 0/\ag o k 0<=64/\0<=ag o k 1/\ag o k 1<=64*i
end
end Go.V
namespace Go.V
theorem OK {a0 a1 a2 a4 a5 a6 a7 a8 a9 aA aB aD aL:af}(h0:Rw [.sl [tI]] a0)(h1:Rw [tB] a1)(h2:Rw [tI,tI] a2)(h4:Rw [tI] a4)(h5:Rw [tI,tI] a5)(h6:Rw [tI,tI,tI] a6)(h7:Rw [tI,tI,tI] a7)(h8:Rw [tI,tI,tI,tI] a8)(h9:Rw [.sl [.sl [tI]]] a9)(h10:Rw [.sl [tI,tI]] aA)(h11:Rw [.sl [tI]] aB)(h13:Rw [tI,tI,tI] aD)(h21:Rw [tI] aL)(hs:xz [a0,a1,a2,a4,a5,a6,a7,a8,a9,aA,aB,aD,aL]<=1048576):mZ a0 a1 a2 a4 a5 a6 a7 a8 a9 aA aB aD aL:=by
 obtain⟨c0,c1,c2,c4,c5,c6,c7,c8,c9,c10,c11,c13,c21⟩:=L1 hs;exact⟨h0,h1,h2,h4,h5,h6,h7,h8,h9,h10,h11,h13,h21,by omega,by omega,by omega,by omega,by omega,by omega,by omega,by omega,by omega,by omega,by omega,by omega,by omega⟩
end Go.V
namespace Go.V
section
variable {n a0 l0: Int} {rs: af}
theorem Qq {x y:Pr}(hx:0<=x.1/\x.1<=64/\0<=x.2/\x.2<=64)(hy:0<=y.1/\y.1<=64/\0<=y.2/\y.2<=64):Rw [tI,tI] (rowP [x,y]):=EU (fun z hz=>by
 rcases Zk.1 hz with q|q
 ·rw[q];omega
 ·rw[Yb]at q;rw[q];omega) (by unfold maxLen;simp)
theorem M0 {x:Pr}(hx:0<=x.1/\x.1<=64/\0<=x.2/\x.2<=64):Rw [tI,tI] (rowP [x]):=EU (fun z hz=>by
 rw[Yb]at hz;rw[hz];omega) (by unfold maxLen;simp)
theorem EW (T:Jx n rs)(g:rngIn n a0 l0=true)(hl:rs.length<=1073741824)(nov:∀ x∈pR rs,C9 x (a0,l0)=false):∀ i:Nat,i<=rs.length->∃ o x y d,Cc rs a0 l0 i o x y d/\Rw [tI,tI] o/\o.length<=2*i
 |0,_=>⟨[],a0,l0,false,MV (MU g T),Rw.nil,Ze _⟩
 | i+1,hi=>by
   obtain⟨o,x,y,d,h,rw_,ol⟩:=EW T g hl nov i (by omega);have e:=jN (es:=rs) (i:=(i:Int)) (by omega) (by omega);have m:(ag rs i 0,ag rs i 1)∈(pR rs).drop (i:Int).toNat:=by rw[drop_at (by omega) e];simp
   have v:=h.v _ m;rw[nov _ (Yt m)]at v;have no:¬ (ag rs i 0<x+y/\x<ag rs i 0+ag rs i 1):=fun c=>by rw[Db.2 c]at v;cases v
   have b:=T.b _ (Yt m);have hb:=h.b;have:=T.n1;have bp:0<=ag rs i 0/\ag rs i 0<=64/\0<=ag rs i 1/\ag rs i 1<=64:=⟨b.1,by have:=b.2.1;have:=b.2.2;omega,by have:=b.2.1;omega,by have:=b.1;have:=b.2.2;omega⟩;have c:((i+1:Nat):Int)=(i:Int)+1:=by omega
   rw[c];by_cases q1:ag rs i 0+ag rs i 1=x;exact⟨o,_,_,d,MW T h (by omega) (by omega) no q1,rw_,by omega⟩
   by_cases q2:x+y=ag rs i 0;exact⟨o,_,_,d,MX T h (by omega) (by omega) no q1 q2,rw_,by omega⟩
   by_cases q3:x<ag rs i 0/\d=false;exact⟨_,_,_,true,MY T h (by omega) (by omega) no q1 q2 q3.1 q3.2,Rw.append rw_ (Qq (x:=(x,y)) (y:=(ag rs i 0,ag rs i 1)) (by simp only;omega) bp) (by unfold maxLen;show _+2<=_;omega),by rw[Zf];show _+2<=_;omega⟩;exact⟨_,_,_,d,ID T h (by omega) (by omega) no q1 q2 q3,Rw.append rw_ (M0 (x:=(ag rs i 0,ag rs i 1)) bp) (by unfold maxLen;show _+1<=_;omega),by rw[Zf];show _+1<=_;omega⟩
theorem IB (w:Rw [tI,tI] rs)(hl:rs.length<=1073741824):Rw [tI,tI] (rpL n rs a0 l0)/\(rpL n rs a0 l0).length<=2*rs.length+1:=by
 cases h:rpB n rs a0 l0 with
 |false=>rw[IC h];exact⟨w,by omega⟩
 | true=>
   unfold rpB at h;simp only[Zc,Z5]at h;obtain⟨h1,h2,h3⟩:=h;have T:=vX h1;have nov:∀ x∈pR rs,C9 x (a0,l0)=false:=fun x hx=>by have:=h3 x hx;simpa using this
   obtain⟨o,x,y,d,p,r,l⟩:=EW T h2 hl nov rs.length (Ze _);have e:=uv h1 h2 p (by omega);rw[e.2];cases d with
   |true=>rw[VL rfl];exact⟨r,by omega⟩
   | false=>
     rw[VM (by simp)];have b:=p.b;exact⟨Rw.append r (M0 (x:=(x,y)) (by simp only;omega)) (by unfold maxLen;show _+1<=_;omega),by rw[Zf];show _+1<=_;omega⟩
end
theorem NU {c u e a0 a1 a2 a4:af}{a3:Int}(m:k9 c u e)(h:kerOk a0 a1 a2 a3 a4=true)(n:a3≠100000):ccB c u e a3 a4=true:=by
 have k:=(jP h).2;unfold ccB;rw[VI n,yP m k.1 k.2.1 k.2.2];rfl
def bsB (m:Bool)(k v p:Int):Bool:=m&&(decide (k=p)||decide (v=p))
theorem acB {m:Bool}{k v p:Int}(h:m=false):bsB m k v p=false:=by subst h;rfl
theorem acz {m:Bool}{k v p:Int}(h:m=true)(e:k=p):bsB m k v p=true:=by subst h;unfold bsB;rw[VI e];rfl
theorem acA {m:Bool}{k v p:Int}(h:m=true)(e:k≠p):bsB m k v p=decide (v=p):=by subst h;unfold bsB;rw[VJ e];rfl
def dsC (a0 a1 a2 a6:af)(i:Int):af:=duC a0 a1 a2 (ag a6 i 0) 1
def dsU (a0 a1 a2 a6:af)(i:Int):af:=duU a0 a1 a2 (ag a6 i 0) 1
def dsE (a0 a1 a2 a6:af)(i:Int):af:=duE a0 a1 a2 (ag a6 i 0) 1
def dsF (a0 a1 a2 a5 a6:af)(i:Int):af:=rpL (zlI (dsE a0 a1 a2 a6 i)) a5 (ag a6 i 0) 1
def dsS (a6:af)(i:Int):af:=delL a6 i (i+1)
theorem GW {a0 a1 a2 a6:af}{i:Int}:dsC a0 a1 a2 a6 i=CP a0 a2 (ag a6 i 0)/\dsU a0 a1 a2 a6 i=CQ a1 a2 (ag a6 i 0)/\dsE a0 a1 a2 a6 i=Ab a2 (ag a6 i 0):=acQ
theorem uc {fs:List Ty}{es:af}{i j:Int}(h:Rw fs es)(ij:i<=j):Rw fs (delL es i j)/\(delL es i j).length<=es.length:=by
 have l:(delL es i j).length<=es.length:=by unfold delL;rw[Zf,Zg,Zo];omega
 refine⟨⟨ZI l h.1,fun e he=>?_⟩,l⟩;unfold delL at he;rcases Zh.1 he with q|q;exact h.2 e (Xh q);exact h.2 e (Yt q)
end Go.V