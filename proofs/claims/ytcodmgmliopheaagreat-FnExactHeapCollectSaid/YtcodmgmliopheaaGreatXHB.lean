/- Plain facts. -/
import Derived.Test.YtcodmgmliopheaaGreatXW2
import Derived.Test.YtcodmgmliopheaaGreatXW1
set_option linter.all false
open Go
open BitVec renaming ofInt->adG,toNat_and->agk,ofInt_natCast->aeN,toNat_ofNat->aeB,toInt_eq_toNat_of_lt->afC,getLsbD_ofNat->afV
open Bool renaming and_eq_true->AI,or_eq_true->adJ,and_false->adN,true_and->aeA,not_eq_true->aer,or_true->agX,eq_iff_iff->afJ,and_true->agU
open Decidable renaming not_not->ahh
open Int renaming mul_nonneg->agT,mul_le_mul_of_nonneg_right->aes,toNat_of_nonneg->IS,add_mul->ag7,ediv_nonneg->agG,eq_ofNat_of_zero_le->adf,mul_comm->ag0,le_refl->aev,toNat_natCast->ac4,toNat->afg,mul_ediv_add_emod->af3
open IntKind renaming i64->adl,wrap->aeE
open List renaming length_map->aeG,mem_append->If,length_append->AT,append_assoc->IN,length_cons->ac7,length_nil->ade,mem_cons->acZ,mem_singleton->ado,nodup_append->ac3,nodup_nil->adz,append_nil->adP,mem_range->ad2,mergeSort_perm->agb,getD_eq_getElem?_getD->BY,take_append_drop->adi,mem_map->adK,getElem_mem->agx,getElem?_eq_getElem->IT,mem_iff_getElem->afa,map_append->aeR,take->aeT,drop->aeU,getElem?_eq_none->adu,length_take->acX,count_eq_zero->agi,take_length->aea,drop_eq_getElem_cons->aez,take_of_length_le->adD,nodup_iff_count->af1,count_pos_iff->agj,mem_of_getElem?->acY,not_mem_nil->aed,getLast?_append->afb,getLast?_singleton->ae4,foldl_cons->adk,foldl_append->ad6,foldl_nil->aew,replicate->adC,length_set->adr,getElem_of_mem->afi,all_eq_false->agp,mem_of_mem_drop->ad5,mem_cons_of_mem->afj,all_eq_true->aei,eq_nil_of_length_eq_zero->adM,mem_cons_self->agl,mem_of_mem_take->afd,getElem?_append_left->adj,getElem?_append_right->ac9,length_drop->ac5,nil_append->ads,getElem?_set_self->afW
open List.Nodup renaming length_le_of_subset->afh
open List.Pairwise renaming nil->ag1,imp₂->ag2
open List.Sublist renaming refl->afQ,append->ag8
open Nat renaming zero_le->OF,lt_trichotomy->afw,le_refl->No,le_trans->aem,not_lt_zero->ad8,sub_self->afc
open Option renaming getD_some->adw
open Option.some renaming inj->ad4,injEq->adB
open Value renaming int->adg
namespace Go.V
def FB (sp:aa)(i:Int):Nat->List Int
 |0=>[]
 |n+1=>FB sp i n++(if hsB (ag sp i 2) n then[aaI (ag sp i 0) (ag sp i 1) (ag sp i 2) n]else[])
def Ez (sp:aa):Nat->List Int
 |0=>[]
 |n+1=>Ez sp n++FB sp n (slN (ag sp n 1)).toNat
def Hj (lg:aa):Nat->List Int
 |0=>[]
 |n+1=>Hj lg n++[ag lg n 0*16]
def UK (sp lg:aa):List Int:=Ez sp sp.length++Hj lg lg.length
def iaL (sp lg:aa):aa:=if layOk sp lg then srtL (jc (UK sp lg))else[]
theorem Vq {a b:Int}(h: -9223372036854775808<=a*b/\a*b<=9223372036854775807):bR .mul .i64 a b=a*b:=IntWalk.i64_in _ h
theorem GP {l:aa}:(srtL l).length=l.length:=by unfold srtL;rw[cg,List.length_mergeSort];unfold qP;rw[aeG]
def TU (l:List Int):Prop:=∀ x∈l,-1<=x/\x<=1000
theorem I0 {a b:List Int}(h:TU a)(g:TU b):TU (a++b):=fun x hx=>by
 rcases If.1 hx with q|q;exact h x q;exact g x q
theorem Q3 {x:Int}(h: -1<=x/\x<=1000):TU [x]:=fun y hy=>by simp at hy;rw[hy];exact h
theorem abe {p k b s:Int}: -1<=aaI p k b s/\aaI p k b s<=1000:=by
 unfold aaI;by_cases h:TP p k b s=true
 ·rw[if_pos h];unfold TP at h;simp only[AI]at h;have t:=nh h.1;have c:=ma t.2.2.1;have s1:=bP.1 h.2;have m0:0<=s*clsSz k:=agT (by omega) (by omega);have m1:s*clsSz k<=slN k*clsSz k:=aes (by omega) (by omega);omega
 ·rw[if_neg h];omega
theorem Ey {sp:aa}{i k:Int}(h:0<=k):FB sp i (k+1).toNat=FB sp i k.toNat++(if hsB (ag sp i 2) k then[aaI (ag sp i 0) (ag sp i 1) (ag sp i 2) k]else[]):=by
 rw[show(k+1).toNat=k.toNat+1 from by omega,FB,IS h]
theorem ME {sp:aa}{i:Int}(h:0<=i):Ez sp (i+1).toNat=Ez sp i.toNat++FB sp i (slN (ag sp i 1)).toNat:=by
 rw[show(i+1).toNat=i.toNat+1 from by omega,Ez,IS h]
theorem HS {lg:aa}{i:Int}(h:0<=i):Hj lg (i+1).toNat=Hj lg i.toNat++[ag lg i 0*16]:=by
 rw[show(i+1).toNat=i.toNat+1 from by omega,Hj,IS h]
structure Wm (sp:aa)(i:Int)(o:aa):Prop where
 e:o=jc (Ez sp i.toNat)
 b:TU (Ez sp i.toNat)
 l:(Ez sp i.toNat).length<=16*i.toNat
structure OR (sp:aa)(i k:Int)(o:aa):Prop where
 e:o=jc (Ez sp i.toNat++FB sp i k.toNat)
 b:TU (Ez sp i.toNat++FB sp i k.toNat)
 l:(Ez sp i.toNat).length<=16*i.toNat
 k:(FB sp i k.toNat).length<=k.toNat
structure QS (sp lg:aa)(j:Int)(o:aa):Prop where
 e:o=jc (Ez sp sp.length++Hj lg j.toNat)
 b:TU (Ez sp sp.length++Hj lg j.toNat)
 l:(Ez sp sp.length++Hj lg j.toNat).length<=16*sp.length+j.toNat
theorem abM {sp:aa}:Wm sp 0 []:=⟨rfl,(fun x hx=>by cases hx),OF _⟩
theorem abO {sp o:aa}{i:Int}(h:Wm sp i o):OR sp i 0 o:=
 ⟨by rw[h.e];simp[FB],by simpa[FB]using h.b,h.l,OF _⟩
theorem UN {sp o:aa}{i k:Int}(h:OR sp i k o):o.length<=16*i.toNat+k.toNat:=by
 have l:=h.l;have m:=h.k;rw[h.e,cg,AT];omega
theorem UO {sp o:aa}{i k:Int}(h:OR sp i k o)(k0:0<=k)(hh:hsB (ag sp i 2) k=true):OR sp i (k+1) (o++[[.i (aaI (ag sp i 0) (ag sp i 1) (ag sp i 2) k)]]):=by
 have m:=h.k;have e:=h.e;refine⟨?_,?_,h.l,?_⟩
 ·rw[Ey k0,if_pos hh, <-IN,ig, <-e];rfl
 ·rw[Ey k0,if_pos hh, <-IN];exact I0 h.b (Q3 abe)
 ·rw[Ey k0,if_pos hh,AT,ac7,ade];omega
theorem Yj {sp o:aa}{i k:Int}(h:OR sp i k o)(k0:0<=k)(hh:hsB (ag sp i 2) k=false):OR sp i (k+1) o:=by
 have m:=h.k;have e:=h.e;have u:FB sp i (k+1).toNat=FB sp i k.toNat:=by rw[Ey k0,hh];simp
 refine⟨?_,?_,h.l,?_⟩
 ·rw[u];exact e
 ·rw[u];exact h.b
 ·rw[u];omega
theorem acI {sp lg:aa}{i:Int}(hl:layOk sp lg=true)(h0:0<=i)(h1:i<sp.length):0<=slN (ag sp i 1)/\slN (ag sp i 1)<=16:=by
 have t:=nh ((MY hl).1 i h0 h1);have c:=ma t.2.2.1;omega
theorem UM {sp o:aa}{i k:Int}(h:OR sp i k o)(i0:0<=i)(k1:k<=slN (ag sp i 1))(k2:slN (ag sp i 1)<=k)(hs:0<=slN (ag sp i 1)/\slN (ag sp i 1)<=16):Wm sp (i+1) o:=by
 have ek:k=slN (ag sp i 1):=by omega
 have e:=h.e;have b:=h.b;have l:=h.l;have m:=h.k;rw[ek, <-ME i0]at e b;rw[ek]at m;refine⟨e,b,?_⟩;rw[ME i0,AT];omega
theorem abP {sp lg o:aa}{i:Int}(h:Wm sp i o)(h1:i<=sp.length)(h2:(sp.length:Int)<=i):QS sp lg 0 o:=by
 have ei:i.toNat=sp.length:=by omega
 have e:=h.e;have b:=h.b;have l:=h.l;rw[ei]at e b l;exact⟨by rw[e];simp[Hj],by simpa[Hj]using b,by simpa[Hj]using l⟩
theorem MH {sp lg o:aa}{j:Int}(h:QS sp lg j o):o.length<=16*sp.length+j.toNat:=by
 have l:=h.l;rw[h.e,cg];exact l
theorem abW {sp lg:aa}{j:Int}(hl:layOk sp lg=true)(h0:0<=j)(h1:j<lg.length):0<=ag lg j 0/\ag lg j 0<=32:=by
 have t:=oz ((MY hl).2.1 j h0 h1);have b:=na t.1;omega
theorem Yl {sp lg o:aa}{j:Int}(h:QS sp lg j o)(j0:0<=j)(hb:0<=ag lg j 0/\ag lg j 0<=32):QS sp lg (j+1) (o++[[.i (ag lg j 0*16)]]):=by
 have e:=h.e;have l:=h.l;refine⟨?_,?_,?_⟩
 ·rw[HS j0, <-IN,ig, <-e];rfl
 ·rw[HS j0, <-IN];exact I0 h.b (Q3 (by omega))
 ·rw[HS j0, <-IN,AT,ac7,ade];omega
theorem Yk {sp lg o:aa}{j:Int}(h:QS sp lg j o)(h1:sp.length<=1073741824)(h2:j<=1073741824):Rw [tI] o/\o.length<=70368744177664:=by
 have l:=MH h;refine⟨?_,by omega⟩;have e:=h.e;have l2:=h.l;rw[e];exact v7 (fun x hx=>by have:=h.b x hx;omega) (by omega)
theorem UP {sp lg o:aa}{j:Int}(h:QS sp lg j o)(j1:j<=lg.length)(j2:(lg.length:Int)<=j)(hl:layOk sp lg=true):srtL o=iaL sp lg:=by
 have ej:j.toNat=lg.length:=by omega
 have e:=h.e;rw[ej]at e;unfold iaL UK;rw[if_pos hl, <-e]
theorem abN {sp lg:aa}(hl:layOk sp lg=false):([]:aa)=iaL sp lg:=by unfold iaL;rw[hl];rfl
end Go.V
namespace Go.V
theorem yZ :∀ {a b:List Int},a.Pairwise (· < ·)->b.Pairwise (· < ·)->(∀ x,x∈a↔x∈b)->a=b
 |[],[],_,_,_=>rfl
 |[],y::b,_,_,h=>by have:=(h y).2 (by simp);simp at this
 |x::a,[],_,_,h=>by have:=(h x).1 (by simp);simp at this
 | x::a,y::b,ha,hb,h=>by
   rw[List.pairwise_cons]at ha hb;have e:x=y:=by
    rcases acZ.1 ((h x).1 (by simp))with q|q;exact q
    ·rcases acZ.1 ((h y).2 (by simp))with r|r;exact r.symm
     ·have:=hb.1 x q;have:=ha.1 y r;omega
   subst e;rw[yZ ha.2 hb.2 (fun z=>?_)]
   constructor
   ·intro m;rcases acZ.1 ((h z).1 (by simp[m]))with q|q
    ·have:=ha.1 z m;omega
    ·exact q
   ·intro m;rcases acZ.1 ((h z).2 (by simp[m]))with q|q
    ·have:=hb.1 z m;omega
    ·exact q
theorem rB {sp:aa}{x:Int}:∀ {n:Nat},x∈oJ sp n↔∃ i:Nat,i<n/\ag sp i 0=x
 |0=>by simp[oJ]
 | n+1=>by
   rw[oJ,If,rB,ado]
   constructor
   ·rintro(⟨i,h,e⟩|rfl);exact⟨i,by omega,e⟩;exact⟨n,by omega,rfl⟩
   ·rintro⟨i,h,e⟩;by_cases c:i=n
    ·subst c;exact .inr e.symm
    ·exact .inl ⟨i,by omega,e⟩
theorem EW {p x:Int}:∀ {n:Nat},x∈rE p n↔p<=x/\x<p+n
 |0=>⟨(fun h=>by cases h),(fun h=>absurd h (by omega))⟩
 | n+1=>by
   rw[rE,If,EW,ado];omega
theorem uv {lg:aa}{x:Int}:∀ {n:Nat},x∈oI lg n↔∃ j:Nat,j<n/\ag lg j 0<=x/\x<ag lg j 0+(ag lg j 1).toNat
 |0=>by simp[oI]
 | n+1=>by
   rw[oI,If,uv,EW]
   constructor
   ·rintro(⟨i,h,e⟩|h);exact⟨i,by omega,e⟩;exact⟨n,by omega,h⟩
   ·rintro⟨i,h,e⟩;by_cases c:i=n
    ·subst c;exact .inr e
    ·exact .inl ⟨i,by omega,e⟩
theorem Oi {sp:aa}:∀ {n:Nat},(oJ sp n).Nodup->∀ i i':Nat,i<i'->i'<n->ag sp i 0≠ag sp i' 0
 |0,_,i,i',_,h=>by omega
 | n+1,hn,i,i',h1,h2=>by
   rw[oJ,ac3]at hn;by_cases c:i'=n
   ·subst c;exact hn.2.2 _ (rB.2 ⟨i,h1,rfl⟩) _ (by simp)
   ·exact Oi hn.1 i i' h1 (by omega)
theorem M1 {lg:aa}:∀ {n:Nat},(oI lg n).Nodup->∀ (j j':Nat) (x:Int),j<j'->j'<n->ag lg j 0<=x->x<ag lg j 0+(ag lg j 1).toNat->ag lg j' 0<=x->x<ag lg j' 0+(ag lg j' 1).toNat->False
 |0,_,j,j',x,_,h,_,_,_,_=>by omega
 | n+1,hn,j,j',x,h1,h2,a,b,c,d=>by
   rw[oI,ac3]at hn;by_cases e:j'=n
   ·subst e;exact hn.2.2 x (uv.2 ⟨j,h1,a,b⟩) x (EW.2 ⟨c,d⟩) rfl
   ·exact M1 hn.1 j j' x h1 (by omega) a b c d
structure TA (sp lg:aa):Prop where
 s:∀ i:Nat,i<sp.length->spOk (ag sp i 0) (ag sp i 1) (ag sp i 2)=true
 l:∀ j:Nat,j<lg.length->lgOk (ag lg j 0) (ag lg j 1) (ag lg j 2)=true
 ss:∀ i i':Nat,i<sp.length->i'<sp.length->ag sp i 0=ag sp i' 0->i=i'
 sl:∀ i j:Nat,i<sp.length->j<lg.length->ag lg j 0<=ag sp i 0->ag sp i 0<ag lg j 0+ag lg j 1->False
 ll:∀ (j j':Nat) (x:Int),j<lg.length->j'<lg.length->ag lg j 0<=x->x<ag lg j 0+ag lg j 1->ag lg j' 0<=x->x<ag lg j' 0+ag lg j' 1->j=j'
theorem Vf {sp lg:aa}(h:layOk sp lg=true):TA sp lg:=by
 obtain⟨h1,h2,h3⟩:=MY h;unfold Bd at h3;rw[ac3]at h3;have n0:∀ j:Nat,j<lg.length->((ag lg j 1).toNat:Int)=ag lg j 1:=fun j hj=>by
  have t:=oz (h2 j (by omega) (by omega));have b:=na t.1;omega
 refine⟨fun i hi=>h1 i (by omega) (by omega),fun j hj=>h2 j (by omega) (by omega),fun i i' a b e=>?_,fun i j a b c d=>?_,fun j j' x a b c d e f=>?_⟩
 ·rcases afw i i' with q|q|q;exact absurd e (Oi h3.1 i i' q b);exact q;exact absurd e.symm (Oi h3.1 i' i q a)
 ·exact h3.2.2 _ (rB.2 ⟨i,a,rfl⟩) _ (uv.2 ⟨j,b,c,by rw[n0 j b];exact d⟩) rfl
 ·rcases afw j j' with q|q|q;exact(M1 h3.2.1 j j' x q b c (by rw[n0 j a];exact d) e (by rw[n0 j' b];exact f)).elim;exact q;exact(M1 h3.2.1 j' j x q a e (by rw[n0 j' b];exact f) c (by rw[n0 j a];exact d)).elim
theorem qq {p k b s:Int}(h:spOk p k b=true)(h0:0<=s)(h1:s<slN k):aaI p k b s=p*16+s*clsSz k/\0<=s*clsSz k/\s*clsSz k+clsSz k<=16/\1<=clsSz k:=by
 have t:=nh h;have c:=ma t.2.2.1;have a:TP p k b s=true:=by unfold TP;rw[h,bP.2 ⟨h0,by omega⟩];rfl
 have m0:0<=s*clsSz k:=agT h0 (by omega);have m1:(s+1)*clsSz k<=slN k*clsSz k:=aes (by omega) (by omega);rw[ag7]at m1;unfold aaI;rw[if_pos a];exact⟨rfl,m0,by omega,by omega⟩
theorem yG {sp:aa}{i x:Int}:∀ {n:Nat},x∈FB sp i n↔∃ k:Nat,k<n/\hsB (ag sp i 2) k=true/\x=aaI (ag sp i 0) (ag sp i 1) (ag sp i 2) k
 |0=>by simp[FB]
 | n+1=>by
   rw[FB,If,yG]
   constructor
   ·rintro(⟨k,h,e⟩|h);exact⟨k,by omega,e⟩
    ·by_cases c:hsB (ag sp i 2) n=true
     ·rw[if_pos c,ado]at h;exact⟨n,by omega,c,h⟩
     ·rw[if_neg c]at h;simp at h
   ·rintro⟨k,h,c,e⟩;by_cases q:k=n
    ·subst q;rw[if_pos c];exact .inr (by simp[e])
    ·exact .inl ⟨k,by omega,c,e⟩
theorem yH {sp:aa}{x:Int}:∀ {n:Nat},x∈Ez sp n↔∃ i k:Nat,i<n/\k<(slN (ag sp i 1)).toNat/\hsB (ag sp i 2) k=true/\x=aaI (ag sp i 0) (ag sp i 1) (ag sp i 2) k
 |0=>by simp[Ez]
 | n+1=>by
   rw[Ez,If,yH,yG]
   constructor
   ·rintro(⟨i,k,h,e⟩|⟨k,h⟩);exact⟨i,k,by omega,e⟩;exact⟨n,k,by omega,h⟩
   ·rintro⟨i,k,h,e⟩;by_cases q:i=n
    ·subst q;exact .inr ⟨k,e⟩
    ·exact .inl ⟨i,k,by omega,e⟩
theorem yF {lg:aa}{x:Int}:∀ {n:Nat},x∈Hj lg n↔∃ j:Nat,j<n/\x=ag lg j 0*16
 |0=>by simp[Hj]
 | n+1=>by
   rw[Hj,If,yF,ado]
   constructor
   ·rintro(⟨i,h,e⟩|h);exact⟨i,by omega,e⟩;exact⟨n,by omega,h⟩
   ·rintro⟨i,h,e⟩;by_cases q:i=n
    ·subst q;exact .inr e
    ·exact .inl ⟨i,by omega,e⟩
theorem HT {sp:aa}{i:Nat}(h:spOk (ag sp i 0) (ag sp i 1) (ag sp i 2)=true):∀ {n:Nat},n<=(slN (ag sp i 1)).toNat->(FB sp i n).Nodup
 |0,_=>adz
 | n+1,hn=>by
   rw[FB];by_cases c:hsB (ag sp i 2) n=true
   ·rw[if_pos c];refine nF (HT h (by omega)) (fun m=>?_);obtain⟨k,k1,_,k3⟩:=yG.1 m;have a:=qq (s:=(n:Int)) h (by omega) (by omega);have b:=qq (s:=(k:Int)) h (by omega) (by omega);have q:((k:Int)+1)*clsSz (ag sp i 1)<=(n:Int)*clsSz (ag sp i 1):=aes (by omega) (by omega);rw[ag7]at q;omega
   ·rw[if_neg c,adP];exact HT h (by omega)
theorem MD {sp lg:aa}(F:TA sp lg):∀ {n:Nat},n<=sp.length->(Ez sp n).Nodup
 |0,_=>adz
 | n+1,hn=>by
   rw[Ez,ac3];refine⟨MD F (by omega),HT (F.s n (by omega)) (No _),fun x hx y hy e=>?_⟩;subst e;obtain⟨i,k,i1,k1,_,e1⟩:=yH.1 hx;obtain⟨k',k2,_,e2⟩:=yG.1 hy;have a:=qq (s:=(k:Int)) (F.s i (by omega)) (by omega) (by omega);have b:=qq (s:=(k':Int)) (F.s n (by omega)) (by omega) (by omega);have:=F.ss i n (by omega) (by omega) (by omega);omega
theorem MC {sp lg:aa}(F:TA sp lg):∀ {n:Nat},n<=lg.length->(Hj lg n).Nodup
 |0,_=>adz
 | n+1,hn=>by
   rw[Hj];refine nF (MC F (by omega)) (fun m=>?_);obtain⟨j,j1,e⟩:=yF.1 m;have t:=oz (F.l j (by omega));have b:=na t.1;have t':=oz (F.l n (by omega));have b':=na t'.1;have:=F.ll j n (ag lg j 0) (by omega) (by omega) (by omega) (by omega) (by omega) (by omega);omega
theorem UL {sp lg:aa}(F:TA sp lg):(UK sp lg).Nodup:=by
 unfold UK;rw[ac3];refine⟨MD F (No _),MC F (No _),fun x hx y hy e=>?_⟩;subst e;obtain⟨i,k,i1,k1,_,e1⟩:=yH.1 hx;obtain⟨j,j1,e2⟩:=yF.1 hy;have a:=qq (s:=(k:Int)) (F.s i (by omega)) (by omega) (by omega);have t:=oz (F.l j (by omega));have b:=na t.1;exact F.sl i j i1 j1 (by omega) (by omega)
end Go.V
namespace Go.V
theorem nD {p:Int->Bool}{n:Nat}(h:0<=dL p n):dL p n<n/\p (dL p n)=true:=by
 refine⟨by rcases ua (p:=p) (n:=n)with q|q<;>omega,?_⟩;unfold dL at h ⊢;split at h
 ·rename_i j e;have q:=List.find?_some e;exact q
 ·omega
theorem uc {p:Int->Bool}{n i:Nat}(h:i<n)(hp:p i=true):0<=dL p n:=by
 unfold dL;split;omega
 ·rename_i e;rw[List.find?_eq_none]at e;exact absurd hp (e i (ad2.2 h))
theorem Dt {sp:aa}{a i:Int}:CE sp a i=true↔FE (ag sp i 0) (ag sp i 1) (ag sp i 2) a=true:=by
 unfold CE;rw[decide_eq_true_eq]
 constructor
 ·intro h;cases c:FE (ag sp i 0) (ag sp i 1) (ag sp i 2) a with
  |true=>rfl
  |false=>rw[(Du c).1]at h;omega
 ·intro h;obtain⟨h1,h2,h3⟩:=yr.1 h;have cb:=ma (nh h1).2.2.1;rw[(Bq h).1];exact agG (by omega) (by omega)
def lvP (sp lg:aa)(x:Int):Prop:=(∃ i k:Nat,i<sp.length/\k<(slN (ag sp i 1)).toNat/\hsB (ag sp i 2) k=true/\x=aaI (ag sp i 0) (ag sp i 1) (ag sp i 2) k)\/∃ j:Nat,j<lg.length/\x=ag lg j 0*16
theorem JO {sp lg:aa}{x:Int}:x∈UK sp lg↔lvP sp lg x:=by
 unfold UK lvP;rw[If,yH,yF]
theorem Xv {sp lg:aa}{a:Int}(h:0<=jk sp a):dnK sp lg a=(if hsB (ag sp (jk sp a) 2) (yN sp a (jk sp a))then 1 else 2)/\dnO sp lg a=V0 sp a (jk sp a):=by
 unfold dnK dnO;rw[if_pos h,if_pos h];exact⟨rfl,rfl⟩
theorem Xt {sp lg:aa}{a:Int}(h:¬ 0<=jk sp a)(g:0<=Cy lg a):dnK sp lg a=3/\dnO sp lg a=loA lg a (Cy lg a):=by
 unfold dnK dnO;rw[if_neg h,if_neg h,if_pos g,if_pos g];exact⟨rfl,rfl⟩
theorem abr {sp lg:aa}{a:Int}(h:¬ 0<=jk sp a)(g:¬ 0<=Cy lg a):dnK sp lg a=0/\dnO sp lg a=0:=by
 unfold dnK dnO;rw[if_neg h,if_neg h,if_neg g,if_neg g];exact⟨rfl,rfl⟩
theorem JJ {sp lg:aa}{a:Int}(hl:layOk sp lg=true):yl sp lg a=true↔dnO sp lg a=0/\(dnK sp lg a=1\/dnK sp lg a=3):=by
 unfold yl dzO dzK;rw[if_pos hl,if_pos hl];simp only[AI,adJ,decide_eq_true_eq]
theorem Se {sp lg:aa}{x:Int}(F:TA sp lg)(hl:layOk sp lg=true)(h:yl sp lg x=true):lvP sp lg x:=by
 obtain⟨h1,h2⟩:=(JJ hl).1 h;by_cases c:0<=jk sp x
 ·obtain⟨d1,d2⟩:=Xv (lg:=lg) c;obtain⟨b,q⟩:=nD c;change jk sp x<sp.length at b;change CE sp x (jk sp x)=true at q;rw[d1]at h2;rw[d2]at h1;generalize hF:jk sp x=f at*;obtain⟨f,rfl⟩:=adf c;have bf:f<sp.length:=by omega
  have q':=Dt.1 q;obtain⟨a1,a2,a3⟩:=yr.1 q';obtain⟨e1,e2⟩:=Bq q';have cb:=ma (nh a1).2.2.1;have hh:hsB (ag sp f 2) (yN sp x f)=true:=by
   cases c:hsB (ag sp f 2) (yN sp x f)with
   |true=>rfl
   |false=>rw[c]at h2;simp at h2
  unfold V0 at h1;rw[e2]at h1;unfold yN at hh;rw[e1]at hh;have dv:clsSz (ag sp f 1)*((x-ag sp f 0*16)/clsSz (ag sp f 1))=x-ag sp f 0*16:=Int.mul_ediv_cancel_of_emod_eq_zero h1;have nn:0<=(x-ag sp f 0*16)/clsSz (ag sp f 1):=agG (by omega) (by omega);generalize hs:(x-ag sp f 0*16)/clsSz (ag sp f 1)=s at*;have lt:s<slN (ag sp f 1):=by
   by_cases w:s<slN (ag sp f 1);exact w
   ·have m:slN (ag sp f 1)*clsSz (ag sp f 1)<=s*clsSz (ag sp f 1):=aes (by omega) (by omega);rw[ag0 s]at m;omega
  obtain⟨s,rfl⟩:=adf nn;have ae:=qq a1 nn lt;refine .inl ⟨f,s,bf,by omega,hh,?_⟩;have ae1:=ae.1;rw[ag0 (s:Int)]at ae1;show x=aaI (ag sp f 0) (ag sp f 1) (ag sp f 2) s;rw[ae1];omega
 ·by_cases g:0<=Cy lg x
  ·obtain⟨d1,d2⟩:=Xt c g;obtain⟨b,q⟩:=nD g;change Cy lg x<lg.length at b;change Gr lg x (Cy lg x)=true at q;rw[d2]at h1;generalize hF:Cy lg x=f at*;obtain⟨f,rfl⟩:=adf g;refine .inr ⟨f,by omega,?_⟩;unfold loA loI at h1;unfold Gr at q;rw[if_pos q]at h1;show x=ag lg f 0*16;omega
  ·obtain⟨d1,d2⟩:=abr c g;rw[d1]at h2;omega
theorem RF {sp lg:aa}{x:Int}(h:0<=jk sp x):∃ f:Nat,jk sp x=f/\f<sp.length/\FE (ag sp f 0) (ag sp f 1) (ag sp f 2) x=true:=by
 obtain⟨b,q⟩:=nD h;obtain⟨f,e⟩:=adf h;refine⟨f,e,?_,?_⟩
 ·have:jk sp x<sp.length:=b;rw[e]at this;exact Int.ofNat_lt.1 this
 ·have:CE sp x (jk sp x)=true:=q;rw[e]at this;exact Dt.1 this
theorem YP {sp lg:aa}{x:Int}(F:TA sp lg)(hl:layOk sp lg=true)(h:lvP sp lg x):yl sp lg x=true:=by
 rw[JJ hl];rcases h with⟨i,k,i1,k1,hh,e⟩|⟨j,j1,e⟩
 ·have a1:=F.s i i1;have cb:=ma (nh a1).2.2.1;have ae:=qq (s:=(k:Int)) a1 (by omega) (by omega);have sb:FE (ag sp i 0) (ag sp i 1) (ag sp i 2) x=true:=yr.2 ⟨a1,by omega,by omega⟩;have c:0<=jk sp x:=uc i1 (Dt.2 sb);obtain⟨f,e1,f1,f2⟩:=RF (lg:=lg) c;obtain⟨_,g2,g3⟩:=yr.1 f2;have:f=i:=F.ss f i f1 i1 (by omega);subst this;obtain⟨d1,d2⟩:=Xv (lg:=lg) c;rw[d1,d2,e1];obtain⟨y1,y2⟩:=Bq sb;have xe:x-ag sp f 0*16=k*clsSz (ag sp f 1):=by omega
  unfold yN V0;rw[y1,y2,xe,Int.mul_ediv_cancel _ (by omega),if_pos hh];exact⟨Int.mul_emod_left _ _,.inl rfl⟩
 ·have t:=oz (F.l j j1);have b:=na t.1;have r:=bP.1 t.1;have c:¬ 0<=jk sp x:=fun c=>by
   obtain⟨f,e1,f1,f2⟩:=RF (lg:=lg) c;obtain⟨_,g2,g3⟩:=yr.1 f2;exact F.sl f j f1 j1 (by omega) (by omega)
  have lb:lhB (ag lg j 0) (ag lg j 1) (ag lg j 2) x=true:=U6.2 ⟨F.l j j1,by omega,by omega⟩;have g:0<=Cy lg x:=uc j1 (show Gr lg x j=true from lb);obtain⟨d1,d2⟩:=Xt c g;obtain⟨b1,q⟩:=nD g;change Cy lg x<lg.length at b1;change Gr lg x (Cy lg x)=true at q;rw[d1,d2];generalize hF:Cy lg x=f at*;obtain⟨f,rfl⟩:=adf g;have f1:f<lg.length:=by omega
  have q':lhB (ag lg f 0) (ag lg f 1) (ag lg f 2) x=true:=q;obtain⟨_,u1,u2⟩:=U6.1 q';have t2:=oz (F.l f f1);have b2:=na t2.1;have:f=j:=F.ll f j (ag lg j 0) f1 j1 (by omega) (by omega) (by omega) (by omega);subst this;refine⟨?_,.inr rfl⟩;show loI (ag lg f 0) (ag lg f 1) (ag lg f 2) x=0;unfold loI;rw[if_pos lb];omega
def Sc (sp lg:aa):Nat->List Int
 |0=>[]
 |n+1=>Sc sp lg n++(if yl sp lg n then[(n:Int)]else[])
theorem AY {sp lg:aa}:∀ n:Nat,ON sp lg n=jc (Sc sp lg n)
 |0=>rfl
 | n+1=>by
   rw[ON,Sc,ig,AY n];by_cases c:yl sp lg n=true
   ·rw[if_pos c,if_pos c];rfl
   ·rw[if_neg c,if_neg c];rfl
theorem uw {sp lg:aa}{x:Int}:∀ {n:Nat},x∈Sc sp lg n↔0<=x/\x<n/\yl sp lg x=true
 |0=>⟨(fun h=>by cases h),(fun h=>absurd h.2.1 (by omega))⟩
 | n+1=>by
   rw[Sc,If,uw]
   constructor
   ·rintro(h|h);exact⟨h.1,by omega,h.2.2⟩
    ·by_cases c:yl sp lg n=true
     ·rw[if_pos c,ado]at h;subst h;exact⟨by omega,by omega,c⟩
     ·rw[if_neg c]at h;cases h
   ·rintro⟨h1,h2,h3⟩;by_cases q:x=n
    ·subst q;rw[if_pos h3];exact .inr (by simp)
    ·exact .inl ⟨h1,by omega,h3⟩
theorem Il {sp lg:aa}:∀ n:Nat,(Sc sp lg n).Pairwise (· < ·)
 |0=>ag1
 | n+1=>by
   rw[Sc,List.pairwise_append];refine⟨Il n,?_,fun a ha b hb=>?_⟩
   ·by_cases c:yl sp lg n=true
    ·rw[if_pos c];simp
    ·rw[if_neg c];simp
   ·have m:=uw.1 ha;by_cases c:yl sp lg n=true
    ·rw[if_pos c,ado]at hb;omega
    ·rw[if_neg c]at hb;cases hb
theorem Qd {l:List Int}(h:l.Nodup):(l.mergeSort fun x y=>decide (x<=y)).Pairwise (· < ·):=by
 have p:=List.pairwise_mergeSort (le:=fun x y:Int=>decide (x<=y)) (fun a b c h1 h2=>by simp only[decide_eq_true_eq]at*;omega) (fun a b=>by simp only[adJ,decide_eq_true_eq];omega) l;have n:(l.mergeSort fun x y=>decide (x<=y)).Nodup:=(agb l _).nodup_iff.2 h;refine ag2 (R:=fun a b=>decide (a<=b)=true) (S:=(· ≠ ·)) (T:=(· < ·)) (fun a b h1 h2=>?_) p n;simp only[decide_eq_true_eq]at h1;omega
theorem PZ {sp lg:aa}:iaL sp lg=laL sp lg:=by
 unfold iaL laL;by_cases hl:layOk sp lg=true
 ·rw[if_pos hl,if_pos hl];have F:=Vf hl;unfold srtL;rw[HU,AY];refine congrArg jc (yZ (Qd (UL F)) (Il 512) (fun x=>?_));rw[(agb _ _).mem_iff,JO,uw]
  constructor
  ·intro h;have v:=YP F hl h;refine⟨?_,?_,v⟩
   ·rcases h with⟨i,k,i1,k1,_,e⟩|⟨j,j1,e⟩
    ·have ae:=qq (s:=(k:Int)) (F.s i i1) (by omega) (by omega);have t:=nh (F.s i i1);omega
    ·have t:=oz (F.l j j1);omega
   ·rcases h with⟨i,k,i1,k1,_,e⟩|⟨j,j1,e⟩
    ·have ae:=qq (s:=(k:Int)) (F.s i i1) (by omega) (by omega);have t:=nh (F.s i i1);omega
    ·have t:=oz (F.l j j1);have b:=na t.1;omega
  ·rintro⟨_,_,h⟩;exact Se F hl h
 ·rw[if_neg hl,if_neg hl]
end Go.V
namespace Go.V
def Cz (qs:aa)(a j:Int):Bool:=eqB (ag qs j 0) a
def qtI (qs:aa)(a:Int):Int:=dL (Cz qs a) qs.length
def qtB (qs:aa)(a:Int):Bool:=decide (0<=qtI qs a)
theorem VH {qs:aa}{a i:Int}(h:upto (dt (Cz qs a)) i)(h0:0<=i)(h1:i<qs.length)(e:ag qs i 0=a):qtB qs a=true:=by
 unfold qtB qtI;rw[fF h h0 h1 (Ay e)];exact decide_eq_true h0
theorem ZM {qs:aa}{a i:Int}(h:upto (dt (Cz qs a)) i)(h1:(qs.length:Int)<=i):qtB qs a=false:=by
 unfold qtB qtI;rw[gB h h1];rfl
end Go.V
namespace Go.V
structure TC (ls:aa):Prop where
 w:Rw [.sl [tI]] ls
 l:ls.length<=1099511627776
 n:∀ i:Int,(ap ls i 0).length<=1099511627776
theorem TC.el {ls:aa}(h:TC ls){i:Int}(h0:0<=i)(h1:i<ls.length):Rw [tI] (ap ls i 0)/\(ap ls i 0).length<=1099511627776:=
 ⟨Rw.sub (fs:=[.sl [tI]]) h.w (by omega) rfl,h.n i⟩
end Go.V
namespace Go.V
def KS (b:aa)(i k:Int):Bool:=inR (ag (ap b i 0) k 0) 0 ((b.length:Int)-1)&&decide (0<=ag (ap b i 0) k 1)
def Lq (x:aa)(i k:Int):Bool:=decide (0<=ag (ap x i 0) k 0)
def WA (b x:aa)(i:Int):Bool:=cF (KS b i) (ap b i 0).length&&cF (Lq x i) (ap x i 0).length
def P4 (b x:aa):Nat->Int
 |0=>0
 |n+1=>P4 b x n+((ap b n 0).length+(ap x n 0).length)
def mailOk (b x:aa):Bool:=inR b.length 1 4&&(decide (x.length=b.length)&&(cF (WA b x) b.length&&decide (P4 b x b.length<=30)))
structure Lm (b x:aa):Prop where
 bw:Rw [.sl [tI,tI]] b
 xw:Rw [.sl [tI]] x
 bl:b.length<=1099511627776
 xl:x.length<=1099511627776
 bn:∀ i:Int,(ap b i 0).length<=1099511627776
 xn:∀ i:Int,(ap x i 0).length<=1099511627776
theorem Sg {b x:aa}(h:Lm b x):∀ n:Nat,0<=P4 b x n/\P4 b x n<=2199023255552*n
 |0=>⟨aev _,aev _⟩
 | n+1=>by
   have q:=Sg h n;have p1:=h.bn n;have p2:=h.xn n;rw[P4];omega
structure OY (b x:aa)(i t:Int):Prop where
 ok:upto (WA b x) i
 t:t=P4 b x i.toNat
theorem ab1 {b x:aa}:OY b x 0 0:=⟨bM,rfl⟩
theorem YZ {b x:aa}{i t:Int}(N:Lm b x)(h:OY b x i t)(i0:0<=i)(i1:i<=4):0<=t/\t<=8796093022208:=by
 have q:=Sg N i.toNat;have e:=h.t;omega
theorem Y0 {b x:aa}{i t k j:Int}(h:OY b x i t)(i0:0<=i)(hp:upto (KS b i) k)(k1:((ap b i 0).length:Int)<=k)(ha:upto (Lq x i) j)(j1:((ap x i 0).length:Int)<=j):OY b x (i+1) (t+((ap b i 0).length+(ap x i 0).length)):=by
 refine⟨bj h.ok ?_,?_⟩
 ·unfold WA;rw[bN hp k1,bN ha j1];rfl
 ·rw[show(i+1).toNat=i.toNat+1 from by omega,P4, <-h.t,IS i0]
theorem Vm {b x:aa}(h:inR b.length 1 4=false):mailOk b x=false:=by unfold mailOk;rw[h];rfl
theorem Vn {b x:aa}(h:(x.length:Int)≠b.length):mailOk b x=false:=by
 unfold mailOk;rw[decide_eq_false (p:=x.length=b.length) (by omega)];simp
theorem Sf {b x:aa}{i:Int}(i0:0<=i)(i1:i<b.length)(h:WA b x i=false):mailOk b x=false:=by
 unfold mailOk;rw[bW i0 i1 h];simp
theorem Nj {b x:aa}{i k:Int}(i0:0<=i)(i1:i<b.length)(k0:0<=k)(k1:k<(ap b i 0).length)(h:KS b i k=false):mailOk b x=false:=
 Sf i0 i1 (by unfold WA;rw[bW k0 k1 h];rfl)
theorem Vo {b x:aa}{i k:Int}(i0:0<=i)(i1:i<b.length)(k0:0<=k)(k1:k<(ap x i 0).length)(h:Lq x i k=false):mailOk b x=false:=
 Sf i0 i1 (by unfold WA;rw[bW k0 k1 h,adN])
theorem Vl {b x:aa}{i t:Int}(h:OY b x i t)(h1:inR b.length 1 4=true)(h2:(x.length:Int)=b.length)(i1:i<=b.length)(i2:(b.length:Int)<=i):mailOk b x=decide (t<=30):=by
 have e:i.toNat=b.length:=by omega
 have q:=h.t;rw[e]at q;unfold mailOk;rw[h1,decide_eq_true (p:=x.length=b.length) (by omega),bN h.ok i2, <-q];rfl
theorem Zj {b:aa}{i k:Int}(h:inR (ag (ap b i 0) k 0) 0 ((b.length:Int)-1)=false):KS b i k=false:=by unfold KS;rw[h];rfl
theorem Zk {b:aa}{i k:Int}(h:ag (ap b i 0) k 1<0):KS b i k=false:=by unfold KS;rw[decide_eq_false (by omega),adN]
theorem Zl {b:aa}{i k:Int}(h:inR (ag (ap b i 0) k 0) 0 ((b.length:Int)-1)=true)(g:0<=ag (ap b i 0) k 1):KS b i k=true:=by unfold KS;rw[h,decide_eq_true g];rfl
theorem abd {x:aa}{i k:Int}(h:ag (ap x i 0) k 0<0):Lq x i k=false:=by unfold Lq;rw[decide_eq_false (by omega)]
theorem WT {x:aa}{i k:Int}(h:0<=ag (ap x i 0) k 0):Lq x i k=true:=by unfold Lq;rw[decide_eq_true h]
end Go.V
namespace Go.V
def RA (b:aa)(i:Int):Nat->aa
 |0=>[]
 |n+1=>RA b i n++[[.i (ag (ap b i 0) n 1)]]
def La (b:aa):Nat->aa
 |0=>[]
 |n+1=>La b n++RA b n (ap b n 0).length
def qm (x:aa):Nat->aa
 |0=>[]
 |n+1=>qm x n++ap x n 0
def ifL (b x:aa):aa:=if mailOk b x then La b b.length++qm x x.length else[]
theorem Nk {b x:aa}(h:mailOk b x=true):b.length<=4/\x.length=b.length:=by
 unfold mailOk at h;simp only[AI,decide_eq_true_eq,bP]at h;omega
structure QN (b:aa)(i:Int)(o:aa):Prop where
 e:o=La b i.toNat
 l:o.length<=1099511627776*i.toNat
structure QO (b:aa)(i k:Int)(o:aa):Prop where
 e:o=La b i.toNat++RA b i k.toNat
 l:o.length<=1099511627776*i.toNat+k.toNat
structure QP (b x:aa)(j:Int)(o:aa):Prop where
 e:o=La b b.length++qm x j.toNat
 l:o.length<=1099511627776*b.length+1099511627776*j.toNat
theorem abw {b:aa}:QN b 0 []:=⟨rfl,OF _⟩
theorem abx {b o:aa}{i:Int}(h:QN b i o):QO b i 0 o:=⟨by rw[h.e];simp[RA],by have:=h.l;omega⟩
theorem XC {b o:aa}{i k:Int}(h:QO b i k o)(k0:0<=k):QO b i (k+1) (o++[[.i (ag (ap b i 0) k 1)]]):=by
 have l:=h.l;have e:=h.e;refine⟨?_,?_⟩
 ·rw[show(k+1).toNat=k.toNat+1 from by omega,RA,IS k0, <-IN, <-e]
 ·rw[AT,ac7,ade];omega
theorem Uo {b o:aa}{i k:Int}(h:QO b i k o)(i0:0<=i)(hn:(ap b i 0).length<=1099511627776)(k1:k<=((ap b i 0).length:Int))(k2:((ap b i 0).length:Int)<=k):QN b (i+1) o:=by
 have l:=h.l;have e:=h.e;have ek:k.toNat=(ap b i 0).length:=by omega
 refine⟨?_,by omega⟩;rw[show(i+1).toNat=i.toNat+1 from by omega,La,IS i0, <-ek];exact e
theorem abz {b x o:aa}{i:Int}(h:QN b i o)(i1:i<=b.length)(i2:(b.length:Int)<=i):QP b x 0 o:=by
 have l:=h.l;have e:=h.e;have ei:i.toNat=b.length:=by omega
 rw[ei]at e l;exact⟨by rw[e];simp[qm],by omega⟩
theorem XL {b x o:aa}{j:Int}(h:QP b x j o)(j0:0<=j)(hn:(ap x j 0).length<=1099511627776):QP b x (j+1) (o++ap x j 0):=by
 have l:=h.l;have e:=h.e;refine⟨?_,?_⟩
 ·rw[show(j+1).toNat=j.toNat+1 from by omega,qm,IS j0, <-IN, <-e]
 ·rw[AT];omega
theorem Uv {b x o:aa}{j:Int}(h:QP b x j o)(hm:mailOk b x=true)(j1:j<=x.length)(j2:(x.length:Int)<=j):o=ifL b x:=by
 have e:=h.e;rw[show j.toNat=x.length from by omega]at e;unfold ifL;rw[if_pos hm];exact e
theorem abQ {b x:aa}(hm:mailOk b x=false):([]:aa)=ifL b x:=by unfold ifL;rw[hm];rfl
end Go.V
namespace Go.V
structure NsC (cs:aa):Prop where
 w:Rw [.sl [.sl [tI]]] cs
 l:cs.length<=1099511627776
 n:∀ i:Int,0<=i->i<cs.length->TC (ap cs i 0)
end Go.V
namespace Go.V
theorem CR :∀ {fs:List Ty} {e:ay} {j:Nat},cG fs e->fs[j]?=some tI->∃ n,e[j]?=some (.i n)/\ -9223372036854775808<=n/\n<=9223372036854775807
 |[],_,j,_,h=>by simp at h
 |_::_,[],j,h,_=>h.elim
 | t::ts,l::ls,0,h,e=>by
   simp at e;subst e;have h1:=h.1;cases l with
   | v x=>cases x with
     |int k n=>simp only[dr]at h1;exact⟨n,by simp[h1.1],mJ h1.2⟩
     |_=>simp[dr]at h1
   |_=>simp[dr]at h1
 | t::ts,l::ls,j+1,h,e=>by
   simp at e;obtain⟨n,h1,h2⟩:=CR h.2 e;exact⟨n,by simpa using h1,h2⟩
theorem AL {fs:List Ty}{es:aa}{i:Int}{j:Nat}(h:Rw fs es)(hj:fs[j]?=some tI)(h1:i.toNat<es.length): -9223372036854775808<=ag es i j/\ag es i j<=9223372036854775807:=by
 obtain⟨n,e,b⟩:=CR (h.at h1) hj;unfold ag;rw[BY (l:=es.getD i.toNat []),e];exact b
theorem ZZ {x:Int}(h: -9223372036854775808<=x/\x<=9223372036854775807):Rw [tI] [[.i x]]:=Rw.one (fs:=[tI]) ⟨⟨rfl,h⟩,trivial⟩
def Wx (os:aa)(f:Nat):Nat->aa
 |0=>[]
 |n+1=>Wx os f n++[[.i (ag os n f)]]
def clR (ls:aa):Nat->aa
 |0=>[]
 |n+1=>clR ls n++ap ls n 0
def ccR (cs:aa):Nat->aa
 |0=>[]
 |n+1=>ccR cs n++clR (ap cs n 0) (ap cs n 0).length
theorem AO {es:aa}{n j:Nat}(h:n<es.length):ak (ap es n j)<=cS (es.getD n []):=by
 unfold ap;rw[ac4];generalize es.getD n []=r;cases e:r[j]? with
 |none=>rw[BY,e];exact OF _
 | some l=>
   rw[BY,e];have q:=I8 e;cases l with
   |s sz es=>exact q
   |_=>exact OF _
theorem pc {es:aa}{n:Nat}(h:n<es.length):bK (es.take (n+1))=bK (es.take n)+cS (es.getD n []):=by
 rw[fG (d:=[]) h,fI];simp[bK]
theorem FX {es:aa}{n:Nat}:bK (es.take n)<=bK es:=by
 conv=>rhs;rw[<-adi n es,fI]
 omega
theorem ue {b:aa}{i:Int}:∀ n,(RA b i n).length=n
 |0=>rfl
 |n+1=>by rw[RA,AT,ue n];rfl
theorem Nq {b x:aa}:∀ n:Nat,(((La b n).length+(qm x n).length:Nat):Int)=P4 b x n
 |0=>rfl
 | n+1=>by
   have q:=Nq (b:=b) (x:=x) n;rw[P4,La,qm,AT,AT,ue, <-q];omega
theorem EA {b x:aa}:(ifL b x).length<=30:=by
 unfold ifL;by_cases c:mailOk b x=true
 ·rw[if_pos c,AT];have t:=Nk c;unfold mailOk at c;simp only[AI,decide_eq_true_eq]at c;have q:=Nq (b:=b) (x:=x) b.length;rw[t.2];omega
 ·rw[if_neg c];exact OF _
theorem Md {b x:aa}{i:Int}(h:Lm b x)(i0:0<=i)(i1:i<b.length):∀ n,n<=(ap b i 0).length->Rw [tI] (RA b i n)
 |0,_=>Rw.nil
 | n+1,hn=>Rw.append (Md h i0 i1 n (by omega)) (ZZ (AL (fs:=[tI,tI]) (Rw.sub (fs:=[.sl [tI,tI]]) h.bw (by omega) rfl) rfl (by omega))) (by
    have:=h.bn i;rw[ue];unfold maxLen;simp only[ac7,ade];omega)
theorem Ma {b x:aa}(h:Lm b x)(hb:b.length<=4):∀ n,n<=b.length->Rw [tI] (La b n)/\(La b n).length<=n*1099511627776
 |0,_=>⟨Rw.nil,OF _⟩
 | n+1,hn=>by
   obtain⟨q1,q2⟩:=Ma h hb n (by omega);have l:=h.bn n;refine⟨Rw.append q1 (Md h (by omega) (by omega) _ (No _)) (by rw[ue];unfold maxLen;omega),?_⟩;rw[La,AT,ue];omega
theorem Mp {b x:aa}(h:Lm b x)(hb:x.length<=4):∀ n,n<=x.length->Rw [tI] (qm x n)/\(qm x n).length<=n*1099511627776
 |0,_=>⟨Rw.nil,OF _⟩
 | n+1,hn=>by
   obtain⟨q1,q2⟩:=Mp h hb n (by omega);have l:=h.xn n;refine⟨Rw.append q1 (Rw.sub (fs:=[.sl [tI]]) h.xw (by omega) rfl) (by unfold maxLen;omega),?_⟩;rw[qm,AT];omega
theorem ML {b x:aa}(h:Lm b x):Rw [tI] (ifL b x):=by
 unfold ifL;by_cases c:mailOk b x=true
 ·rw[if_pos c];have t:=Nk c;obtain⟨q1,l1⟩:=Ma h t.1 b.length (No _);obtain⟨q2,l2⟩:=Mp h (by omega) x.length (No _);exact Rw.append q1 q2 (by unfold maxLen;omega)
 ·rw[if_neg c];exact Rw.nil
structure OZ (sp lg os cs b x qs:aa):Prop where
 sw:Rw [tI,tI,tI] sp
 lw:Rw [tI,tI,tI] lg
 ow:Rw [tI,tI,tI,tI] os
 cw:Rw [.sl [.sl [tI]]] cs
 qw:Rw [tI,tI,tI] qs
 m:Lm b x
 c:NsC cs
 sl:sp.length<=1073741824
 ll:lg.length<=1073741824
 ol:os.length<=1073741824
 ql:qs.length<=1073741824
 cl:ak cs<=1073741824
structure O1P (os:aa)(i:Int)(o:aa):Prop where
 e:o=Wx os 1 i.toNat
structure O2P (os cs:aa)(i:Int)(o:aa):Prop where
 e:o=Wx os 1 os.length++ccR cs i.toNat
structure O3P (os cs:aa)(i k:Int)(o:aa):Prop where
 e:o=Wx os 1 os.length++ccR cs i.toNat++clR (ap cs i 0) k.toNat
structure O4P (os cs qs:aa)(j:Int)(o:aa):Prop where
 e:o=Wx os 1 os.length++ccR cs cs.length++Wx qs 0 j.toNat
section
variable {sp lg os cs b x qs o : aa} {i k j : Int}
end
def PI (e:ay):Int:=PY (e.getD 0 .g)
theorem Da {l:aa}{a:Int}:hasB l a=true↔a∈l.map PI:=by
 rw[Jn,adK]
 constructor
 ·rintro⟨k,hk,e⟩;refine⟨l[k],agx _,?_⟩;rw[<-e];unfold ag PI;rw[ac4,BY (l:=l),IT hk];rfl
 ·rintro⟨e,he,q⟩;obtain⟨k,hk,rfl⟩:=afa.1 he;refine⟨k,hk,?_⟩;rw[<-q];unfold ag PI;rw[ac4,BY (l:=l),IT hk];rfl
theorem PG {l m:aa}{a:Int}:hasB (l++m) a=(hasB l a||hasB m a):=by
 refine gY ?_;rw[adJ,Da,Da,Da,aeR,If]
theorem PH {x a:Int}:hasB [[.i x]] a=true↔x=a:=by
 rw[Da];show a∈[x]↔x=a;rw[ado];exact⟨Eq.symm,Eq.symm⟩
theorem C4 {p:Int->Bool}{n:Nat}:0<=dL p n↔∃ k:Nat,k<n/\p k=true:=by
 constructor
 ·intro h;obtain⟨h1,h2⟩:=nD h;obtain⟨k,e⟩:=adf h;rw[e]at h1 h2;exact⟨k,by omega,h2⟩
 ·rintro⟨k,h1,h2⟩;exact uc h1 h2
def flN (p:Int->Bool)(l:aa):Nat->aa
 |0=>[]
 |n+1=>flN p l n++(if p (ag l n 0)then[[.i (ag l n 0)]]else[])
structure acS (p:Int->Bool)(l:aa)(i:Int)(o:aa):Prop where
 e:o=flN p l i.toNat
 l:o.length<=i.toNat
section
variable {p : Int -> Bool} {l o : aa} {i : Int}
end
theorem MW {sp lg:aa}:(laL sp lg).length<=512:=by
 have k:∀ n,(ON sp lg n).length<=n:=by
  intro n
  induction n with
  |zero=>exact No _
  |succ n ih=>rw[ON,AT];split<;>simp<;>omega
 unfold laL;split;exact k 512;exact OF _
theorem YD {sp lg:aa}:Rw [tI] (laL sp lg):=by
 unfold laL;by_cases c:layOk sp lg=true
 ·rw[if_pos c,AY];refine v7 (fun x hx=>?_) ?_
  ·have:=uw.1 hx;omega
  ·have q:=MW (sp:=sp) (lg:=lg);unfold laL at q;rw[if_pos c,AY,cg]at q;omega
 ·rw[if_neg c];exact Rw.nil
theorem Do {l:aa}{i:Int}(h:Rw [tI] l)(h0:0<=i)(h1:i<l.length):∃ rec o,bX (L.s 1 l) [(i.toNat,0)]=some (rec,o)/\o+[L.v (adg adl 0)].length<=rec.length/\aeT [L.v (adg adl 0)].length (aeU o rec)=ou ah (L.s 1 l) [(i.toNat,0)] 0 [L.v (adg adl 0)]:=
 kg (z0:=[.i 0]) (z:=[.i 0]) h.wf (by omega) rfl (by decide)
theorem jK {es:aa}{i:Int}{j:Nat}:ak (ap es i j)<=ak es:=by
 by_cases c:i.toNat<es.length
 ·have q:=AO (j:=j) c;rw[show ap es (i.toNat:Nat) j=ap es i j from by unfold ap;rw[ac4]]at q;have d:=pc c;have e:=FX (es:=es) (n:=i.toNat+1);unfold ak at q ⊢;omega
 ·have e:ap es i j=[]:=by
   unfold ap;rw[BY (l:=es),adu (by omega)];simp[Lb]
  rw[e];exact OF _
theorem Vu {ls:aa}(h:Rw [.sl [tI]] ls)(hc:ak ls<=1073741824):TC ls:=by
 refine⟨h,by unfold ak at hc;omega,fun i=>?_⟩;have:=jK (es:=ls) (i:=i) (j:=0);unfold ak at this hc;omega
theorem Vt {cs:aa}(h:Rw [.sl [.sl [tI]]] cs)(hc:ak cs<=1073741824):NsC cs:=by
 refine⟨h,by unfold ak at hc;omega,fun i i0 i1=>Vu (Rw.sub (fs:=[.sl [.sl [tI]]]) h (by omega) rfl) ?_⟩;exact aem jK hc
theorem Ia {b x:aa}(hb:Rw [.sl [tI,tI]] b)(hx:Rw [.sl [tI]] x)(cb:ak b<=1073741824)(cx:ak x<=1073741824):Lm b x:=by
 refine⟨hb,hx,by unfold ak at cb;omega,by unfold ak at cx;omega,fun i=>?_,fun i=>?_⟩
 ·have:=jK (es:=b) (i:=i) (j:=0);unfold ak at this cb;omega
 ·have:=jK (es:=x) (i:=i) (j:=0);unfold ak at this cx;omega
end Go.V
namespace Go.V
theorem CF {i:Int}(h:0<=i)(h1:i<=9223372036854775807):bR .sub .i64 i 1=i-1:=dD (by omega)
theorem Bu {es:aa}{i:Int}:oW es (afg 0) (F2 i 0)=es.take i.toNat:=by simp[oW,F2]
theorem cmp_eq {a b:Int}:dx .eql a b=decide (a=b):=by unfold dx;by_cases c:a=b<;>simp[c]
theorem Eg {a b:Int}:dx .neq a b=decide (a≠b):=by unfold dx;by_cases c:a=b<;>simp[c]
def rngIn (n a l:Int):Bool:=inR l 1 n&&inR a 0 (n-l)
def vX (n:Int)(rs:aa)(i:Int):Bool:=rngIn n (ag rs i 0) (ag rs i 1)&& !(decide (0<i)&&decide (ag rs i 0<=bR .add .i64 (ag rs (i-1) 0) (ag rs (i-1) 1)))
def rgOk (n:Int)(rs:aa):Bool:=cF (vX n rs) rs.length&&inR n 1 32
section
variable {n i : Int} {rs : aa}
theorem VJ (i0:0<=i)(i1:i<rs.length)(h:rngIn n (ag rs i 0) (ag rs i 1)=false):rgOk n rs=false:=by
 unfold rgOk;rw[bW i0 i1 (by unfold vX;rw[h];rfl)];rfl
theorem VK (i0:0<=i)(i1:i<rs.length)(h:0<i)(g:ag rs i 0<=bR .add .i64 (ag rs (i-1) 0) (ag rs (i-1) 1)):rgOk n rs=false:=by
 unfold rgOk;rw[bW i0 i1 (by unfold vX;rw[decide_eq_true h,decide_eq_true g];simp)];rfl
theorem Qk (h:rngIn n (ag rs i 0) (ag rs i 1)=true)(g:i<=0):vX n rs i=true:=by
 unfold vX;rw[h,decide_eq_false (by omega)];rfl
theorem Ql (h:rngIn n (ag rs i 0) (ag rs i 1)=true)(g:bR .add .i64 (ag rs (i-1) 0) (ag rs (i-1) 1)<ag rs i 0):vX n rs i=true:=by
 unfold vX;rw[h,decide_eq_false (p:=ag rs i 0<=_) (by omega)];simp
theorem VI (h:upto (vX n rs) i)(g:(rs.length:Int)<=i):inR n 1 32=rgOk n rs:=by unfold rgOk;rw[bN h g];rfl
end
def uk (rs:aa)(p j:Int):Bool:=decide (ag rs j 0<=p)&&decide (p<bR .add .i64 (ag rs j 0) (ag rs j 1))
def rhI (rs:aa)(p:Int):Int:=dL (uk rs p) rs.length
def rhB (rs:aa)(p:Int):Bool:=decide (0<=rhI rs p)
def rh1 (a l p:Int):Bool:=decide (a<=p)&&decide (p<bR .add .i64 a l)
theorem VL {rs:aa}{p i:Int}(h:upto (dt (uk rs p)) i)(h0:0<=i)(h1:i<rs.length)(a:ag rs i 0<=p)(b:p<bR .add .i64 (ag rs i 0) (ag rs i 1)):rhB rs p=true:=by
 unfold rhB rhI;rw[fF h h0 h1 (by unfold uk;rw[decide_eq_true a,decide_eq_true b];rfl)];exact decide_eq_true h0
theorem ZS {rs:aa}{p i:Int}(h:upto (dt (uk rs p)) i)(h1:(rs.length:Int)<=i):rhB rs p=false:=by
 unfold rhB rhI;rw[gB h h1];rfl
theorem ZQ {rs:aa}{p i:Int}(a:p<ag rs i 0):dt (uk rs p) i=true:=by unfold dt uk;rw[decide_eq_false (by omega)];rfl
theorem ZR {rs:aa}{p i:Int}(b:bR .add .i64 (ag rs i 0) (ag rs i 1)<=p):dt (uk rs p) i=true:=by unfold dt uk;rw[decide_eq_false (p:=p<_) (by omega)];simp
def mshB (p1 k1 b1 p2 k2 b2:Int):Bool:=spOk p1 k1 b1&&(spOk p2 k2 b2&&(decide (k1=k2)&&(decide (p1≠p2)&&decide (bR .and .i64 b1 b2=0))))
def VD (qs:aa):Nat->Int
 |0=>0
 |n+1=>VD qs n+clsSz (ag qs n 1)
def qcI (qs:aa):Int:=VD qs qs.length
theorem I6 {k:Int}:0<=clsSz k/\clsSz k<=8:=by
 unfold clsSz;repeat' split
 all_goals omega
theorem SI {qs:aa}:∀ n:Nat,0<=VD qs n/\VD qs n<=8*n
 |0=>⟨aev _,aev _⟩
 |n+1=>by have q:=SI (qs:=qs) n;have c:=I6 (k:=ag qs n 1);rw[VD];omega
structure O0 (qs:aa)(i t:Int):Prop where
 e:t=VD qs i.toNat
theorem ab8 {qs:aa}:O0 qs 0 0:=⟨rfl⟩
theorem ab9 {qs:aa}{i t:Int}(h:O0 qs i t)(i0:0<=i):0<=t/\t<=8*i:=by have q:=SI (qs:=qs) i.toNat;rw[<-h.e]at q;omega
theorem ZD {qs:aa}{i t:Int}(h:O0 qs i t)(i0:0<=i)(i1:i<=1099511627776):O0 qs (i+1) (bR .add .i64 t (clsSz (ag qs i 1))):=by
 have b:=ab9 h i0;have c:=I6 (k:=ag qs i 1);refine⟨?_⟩;rw[show bR .add .i64 t (clsSz (ag qs i 1))=t+clsSz (ag qs i 1)from bE (by omega),show(i+1).toNat=i.toNat+1 from by omega,VD, <-h.e,IS i0]
theorem VE {qs:aa}{i t:Int}(h:O0 qs i t)(i1:i<=qs.length)(i2:(qs.length:Int)<=i):t=qcI qs:=by unfold qcI;rw[h.e,show i.toNat=qs.length from by omega]
def stlOk (b:aa)(a c s:Int):Bool:=inR c 0 3&&(decide (0<=a)&&(decide (0<=s)&&(!qtB b a&&(decide (b.length=0)||decide (ag b (b.length-1:Int) 2<=s)))))
def FD (qs:aa)(i:Int):Bool:=stlOk (qs.take i.toNat) (ag qs i 0) (ag qs i 1) (ag qs i 2)
def quarOk (rm:Int)(qs:aa):Bool:=cF (FD qs) qs.length&&(inR rm 0 500&&decide (qcI qs<=rm))
def staB (a c s:Int):Bool:=inR c 0 3&&(decide (0<=a)&&decide (0<=s))
theorem yC {es:aa}{n:Nat}{i:Int}{j:Nat}(h:i.toNat<n):ag (es.take n) i j=ag es i j:=by
 unfold ag;rw[BY (l:=es.take n),List.getElem?_take,if_pos h,BY (l:=es)]
section
variable {rm i : Int} {qs : aa}
theorem J6 (i0:0<=i)(i1:i<qs.length)(h:FD qs i=false):quarOk rm qs=false:=by unfold quarOk;rw[bW i0 i1 h];rfl
theorem NQ (h:upto (FD qs) i)(g:(qs.length:Int)<=i):quarOk rm qs=(inR rm 0 500&&decide (qcI qs<=rm)):=by unfold quarOk;rw[bN h g];rfl
theorem Zy (h:staB (ag qs i 0) (ag qs i 1) (ag qs i 2)=false):FD qs i=false:=by
 unfold FD stlOk;unfold staB at h
 revert h
 cases inR (ag qs i 1) 0 3<;>cases decide (0<=ag qs i 0)<;>cases decide (0<=ag qs i 2)<;>simp
theorem J5 (i0:0<i)(i1:i<qs.length):(decide ((qs.take i.toNat).length=0)||decide (ag (qs.take i.toNat) ((qs.take i.toNat).length-1:Int) 2<=ag qs i 2))=decide (ag qs (i-1) 2<=ag qs i 2):=by
 have e:(qs.take i.toNat).length=i.toNat:=by rw[acX];omega
 rw[e,yC (by omega),decide_eq_false (p:=i.toNat=0) (by omega),show((i.toNat:Nat):Int)-1=i-1 from by omega];rfl
theorem Zz (i0:0<i)(i1:i<qs.length)(h:ag qs i 2<ag qs (i-1) 2):FD qs i=false:=by
 unfold FD stlOk;rw[J5 i0 i1,decide_eq_false (p:=ag qs (i-1) 2<=ag qs i 2) (by omega)];simp
theorem ZA (h:qtB (qs.take i.toNat) (ag qs i 0)=true):FD qs i=false:=by unfold FD stlOk;rw[h];simp
theorem ZB (h:staB (ag qs i 0) (ag qs i 1) (ag qs i 2)=true)(g:qtB (qs.take i.toNat) (ag qs i 0)=false)(i0:0<=i)(z:i<=0):FD qs i=true:=by
 unfold FD stlOk;unfold staB at h;simp only[AI]at h;have e:i=0:=by omega
 subst e;rw[h.1,h.2.1,h.2.2,g];rfl
theorem ZC (h:staB (ag qs i 0) (ag qs i 1) (ag qs i 2)=true)(g:qtB (qs.take i.toNat) (ag qs i 0)=false)(i0:0<i)(i1:i<qs.length)(z:ag qs (i-1) 2<=ag qs i 2):FD qs i=true:=by
 unfold FD stlOk;unfold staB at h;simp only[AI]at h;rw[J5 i0 i1,h.1,h.2.1,h.2.2,g,decide_eq_true z];rfl
end
def s7 (ls:aa)(i:Int):Nat->List Int
 |0=>[]
 |n+1=>s7 ls i n++[ag (ap ls i 0) n 0]
def s8 (ls:aa):Nat->List Int
 |0=>[]
 |n+1=>s8 ls n++s7 ls n (ap ls n 0).length
def LI (ls:aa)(i k:Int):Bool:=inR (ag (ap ls i 0) k 0) 0 511&&decide (bR .rem .i64 (ag (ap ls i 0) k 0) (clsSz i)=0)
def OL (ls:aa)(i:Int):Bool:=decide ((ap ls i 0).length<=8)&&cF (LI ls i) (ap ls i 0).length
def caOk (ls:aa):Bool:=decide (ls.length=4)&&(cF (OL ls) 4&&decide ((s8 ls 4).Nodup))
theorem yy {ls:aa}{i:Int}:∀ n,(s7 ls i n).length=n
 |0=>rfl
 |n+1=>by rw[s7,AT,yy n];rfl
theorem I1 {ls:aa}{i:Int}:∀ (m n:Nat),n<=m->∃ r,s7 ls i m=s7 ls i n++r
 |0,n,h=>⟨[],by rw[show n=0 from by omega];rfl⟩
 | m+1,n,h=>by
   by_cases c:n=m+1
   ·subst c;exact⟨[],by simp⟩
   ·obtain⟨r,e⟩:=I1 (ls:=ls) (i:=i) m n (by omega);exact⟨r++[ag (ap ls i 0) m 0],by rw[s7,e,IN]⟩
theorem I2 {ls:aa}:∀ (m n:Nat),n<=m->∃ r,s8 ls m=s8 ls n++r
 |0,n,h=>⟨[],by rw[show n=0 from by omega];rfl⟩
 | m+1,n,h=>by
   by_cases c:n=m+1
   ·subst c;exact⟨[],by simp⟩
   ·obtain⟨r,e⟩:=I2 (ls:=ls) m n (by omega);exact⟨r++s7 ls m (ap ls m 0).length,by rw[s8,e,IN]⟩
theorem An {ls:aa}{i k:Int}(h:0<=k):s7 ls i (k+1).toNat=s7 ls i k.toNat++[ag (ap ls i 0) k 0]:=by
 rw[show(k+1).toNat=k.toNat+1 from by omega,s7,IS h]
theorem Ao {ls:aa}{i:Int}(h:0<=i):s8 ls (i+1).toNat=s8 ls i.toNat++s7 ls i (ap ls i 0).length:=by
 rw[show(i+1).toNat=i.toNat+1 from by omega,s8,IS h]
structure To (ls:aa)(i:Int):Prop where
 ok:upto (OL ls) i
 nd:(s8 ls i.toNat).Nodup
 l:i<=4
 b:∀ x∈s8 ls i.toNat,0<=x/\x<=511
 n:(s8 ls i.toNat).length<=8*i.toNat
structure Wc (ls:aa)(i k:Int):Prop where
 ok:upto (OL ls) i
 nd:(s8 ls i.toNat++s7 ls i k.toNat).Nodup
 l:i<=3
 s:(ap ls i 0).length<=8
 bk:upto (LI ls i) k
 b:∀ x∈s8 ls i.toNat++s7 ls i k.toNat,0<=x/\x<=511
 n:(s8 ls i.toNat).length<=8*i.toNat
section
variable {ls : aa} {i k : Int}
theorem WZ :To ls 0:=⟨bM,adz,by omega,(fun x hx=>by cases hx),OF _⟩
theorem W2 (h:To ls i)(i0:0<=i)(c:inR i 0 3=true)(s:(ap ls i 0).length<=8):Wc ls i 0:=
 ⟨h.ok,by simpa[s7]using h.nd,(bP.1 c).2,s,bM,by simpa[s7]using h.b,h.n⟩
theorem Ra (h:Wc ls i k)(k0:0<=k)(h1:inR (ag (ap ls i 0) k 0) 0 511=true)(h2:bR .rem .i64 (ag (ap ls i 0) k 0) (clsSz i)=0)(h3:ag (ap ls i 0) k 0∉s8 ls i.toNat++s7 ls i k.toNat):Wc ls i (k+1):=by
 refine⟨h.ok,?_,h.l,h.s,bj h.bk (by unfold LI;rw[h1,decide_eq_true h2];rfl),?_,h.n⟩
 ·rw[An k0, <-IN];exact nF h.nd h3
 ·rw[An k0, <-IN];intro x hx;rcases If.1 hx with q|q;exact h.b x q
  ·simp at q;subst q;exact bP.1 h1
theorem Q7 (h:Wc ls i k)(i0:0<=i)(k1:k<=((ap ls i 0).length:Int))(k2:((ap ls i 0).length:Int)<=k):To ls (i+1):=by
 have e:k.toNat=(ap ls i 0).length:=by omega
 have nd:=h.nd;have b:=h.b;have n:=h.n;have s:=h.s;have l:=h.l;rw[e, <-Ao i0]at nd b;refine⟨bj h.ok (by unfold OL;rw[decide_eq_true h.s,bN h.bk k2];rfl),nd,by omega,b,?_⟩;rw[Ao i0,AT,yy];omega
theorem Ec (h:(ls.length:Int)≠4):caOk ls=false:=by unfold caOk;rw[decide_eq_false (by omega)];rfl
theorem Q6 (i0:0<=i)(l:i<=3)(h:OL ls i=false):caOk ls=false:=by unfold caOk;rw[bW (n:=4) i0 (by omega) h];simp
theorem LL (i0:0<=i)(h:8<(ap ls i 0).length)(l:i<=3):caOk ls=false:=Q6 i0 l (by unfold OL;rw[decide_eq_false (by omega)];rfl)
theorem Ed (i0:0<=i)(l:i<=3)(k0:0<=k)(k1:k<(ap ls i 0).length)(h:LI ls i k=false):caOk ls=false:=Q6 i0 l (by unfold OL;rw[bW k0 k1 h,adN])
theorem Q8 (h:inR (ag (ap ls i 0) k 0) 0 511=false):LI ls i k=false:=by unfold LI;rw[h];rfl
theorem Q9 (h:bR .rem .i64 (ag (ap ls i 0) k 0) (clsSz i)≠0):LI ls i k=false:=by unfold LI;rw[decide_eq_false h,adN]
theorem LK (i0:0<=i)(l:i<=3)(k0:0<=k)(k1:k<(ap ls i 0).length)(h:ag (ap ls i 0) k 0∈s8 ls i.toNat++s7 ls i k.toNat):caOk ls=false:=by
 obtain⟨r,e⟩:=I2 (ls:=ls) 4 (i+1).toNat (by omega);obtain⟨r2,e2⟩:=I1 (ls:=ls) (i:=i) (ap ls i 0).length (k+1).toNat (by omega);rw[Ao i0,e2,An k0]at e;have:¬ (s8 ls 4).Nodup:=dup (a:=s8 ls i.toNat++s7 ls i k.toNat) (b:=r2++r) (x:=ag (ap ls i 0) k 0) (by rw[e];simp only[IN];rfl) h;unfold caOk;rw[decide_eq_false this];simp
theorem LM (h:To ls i)(h1:(ls.length:Int)=4)(i2:4<=i):caOk ls=true:=by
 have l:=h.l;have e:i=4:=by omega
 subst e;unfold caOk;rw[decide_eq_true (by omega),bN h.ok (by omega),decide_eq_true (p:=(s8 ls 4).Nodup) h.nd];rfl
theorem TY (h:To ls i)(i1:i<=ls.length)(i2:(ls.length:Int)<=i):decide ((ls.length:Int)=4)=caOk ls:=by
 by_cases c:(ls.length:Int)=4
 ·rw[LM h c (by omega)];exact decide_eq_true c
 ·rw[Ec c];exact decide_eq_false c
end
structure WR (ls:aa)(i:Int)(o:aa):Prop where
 p:To ls i
 e:o=jc (s8 ls i.toNat)
structure QZ (ls:aa)(i k:Int)(o:aa):Prop where
 p:Wc ls i k
 e:o=jc (s8 ls i.toNat++s7 ls i k.toNat)
structure Hm (ls:aa)(i:Int)(es:aa):Prop where
 p:To ls i
 s:rX es (s8 ls i.toNat)
structure Hn (ls:aa)(i k:Int)(es:aa):Prop where
 p:Wc ls i k
 s:rX es (s8 ls i.toNat++s7 ls i k.toNat)
section
variable {ls o es : aa} {i k : Int}
theorem acG :WR ls 0 []:=⟨WZ,rfl⟩
theorem acH (h:WR ls i o)(i0:0<=i)(i1:i<4)(s:(ap ls i 0).length<=8):QZ ls i 0 o:=⟨W2 h.p i0 (bP.2 (by omega)) s,by rw[h.e];simp[s7]⟩
theorem aad (h:QZ ls i k o)(k0:0<=k)(h1:inR (ag (ap ls i 0) k 0) 0 511=true)(h2:bR .rem .i64 (ag (ap ls i 0) k 0) (clsSz i)=0)(h3:hasB o (ag (ap ls i 0) k 0)=false):QZ ls i (k+1) (o++[[.i (ag (ap ls i 0) k 0)]]):=by
 have e:=h.e;rw[e]at h3;refine⟨Ra h.p k0 h1 h2 (yD h3),?_⟩;rw[An k0, <-IN,ig, <-e];rfl
theorem aab (h:QZ ls i k o)(i0:0<=i)(k1:k<=((ap ls i 0).length:Int))(k2:((ap ls i 0).length:Int)<=k):WR ls (i+1) o:=
 ⟨Q7 h.p i0 k1 k2,by rw[Ao i0,h.e,show k.toNat=(ap ls i 0).length from by omega]⟩
theorem VV (h:QZ ls i k o)(i0:0<=i)(k0:0<=k)(k1:k<(ap ls i 0).length)(h3:hasB o (ag (ap ls i 0) k 0)=true):caOk ls=false:=by
 rw[h.e,ry]at h3;exact LK i0 h.p.l k0 k1 h3
theorem VW (h:QZ ls i k o)(k0:0<=k):o.length<=40+k.toNat/\Rw [tI] o:=by
 have n:=h.p.n;have l:=h.p.l;have s:=h.p.s;have q:o.length<=40+k.toNat:=by rw[h.e,cg,AT,yy];omega
 refine⟨q,?_⟩;rw[h.e];have nd:=h.p.nd;refine v7 (fun x hx=>by have:=h.p.b x hx;omega) ?_;rw[<-cg, <-h.e];have bd:k.toNat<=512\/512<k.toNat:=by omega
 rcases bd with bd|bd;omega
 ·exfalso;have c:=afh (l₁:=s8 ls i.toNat++s7 ls i k.toNat) (l₂:=(List.range 512).map fun j:Nat=>(j:Int)) nd (fun x hx=>by
   have b:=h.p.b x hx;rw[adK];exact⟨x.toNat,ad2.2 (by omega),by omega⟩)
  rw[AT,yy,aeG,List.length_range]at c;omega
theorem Ym :Hm ls 0 []:=⟨WZ,Iu⟩
theorem Yn (h:Hm ls i es)(i0:0<=i)(c:inR i 0 3=true)(s:(ap ls i 0).length<=8):Hn ls i 0 es:=⟨W2 h.p i0 c s,by simpa[s7]using h.s⟩
theorem UR (h:Hn ls i k es)(k0:0<=k)(h1:inR (ag (ap ls i 0) k 0) 0 511=true)(h2:bR .rem .i64 (ag (ap ls i 0) k 0) (clsSz i)=0)(h3:mgbI es (ag (ap ls i 0) k 0)=false):Hn ls i (k+1) (o6 es (ag (ap ls i 0) k 0) (.v (.bool true))):=by
 refine⟨Ra h.p k0 h1 h2 (fun m=>by rw[(h.s.at_ _).2 m]at h3;cases h3),?_⟩;rw[An k0, <-IN];exact yM h.s
theorem UQ (h:Hn ls i k es)(i0:0<=i)(k1:k<=((ap ls i 0).length:Int))(k2:((ap ls i 0).length:Int)<=k):Hm ls (i+1) es:=
 ⟨Q7 h.p i0 k1 k2,by have s:=h.s;rw[show k.toNat=(ap ls i 0).length from by omega]at s;rw[Ao i0];exact s⟩
theorem PP (h:Hn ls i k es)(i0:0<=i)(k0:0<=k)(k1:k<(ap ls i 0).length)(h3:mgbI es (ag (ap ls i 0) k 0)=true):caOk ls=false:=LK i0 h.p.l k0 k1 ((h.s.at_ _).1 h3)
theorem PN (h:Hm ls i es)(i0:0<=i)(s:8<(ap ls i 0).length)(i1:i<ls.length):caOk ls=false:=by
 by_cases c:(ls.length:Int)=4;exact LL i0 s (by omega);exact Ec c
theorem PO (h:Hm ls i es)(i0:0<=i)(c:inR i 0 3=false)(i1:i<ls.length):caOk ls=false:=by
 have:=AR.1 c;exact Ec (by omega)
end
def Le (cs:aa)(i:Int):Bool:=inR (ag cs i 0) 0 15&& !(decide (0<i)&&decide (ag cs i 0<=ag cs (i-1) 0))
def plOk (k m:Int)(cs:aa):Bool:=cF (Le cs) cs.length&&(inR k 0 31&&(inR m 0 31&&decide (k≠m)))
def jbOk (k m:Int)(cs:aa)(ph nx:Int):Bool:=plOk k m cs&&(inR ph 0 5&&inR nx 0 cs.length)
section
variable {k m i : Int} {cs : aa}
theorem NL (i0:0<=i)(i1:i<cs.length)(h:inR (ag cs i 0) 0 15=false):plOk k m cs=false:=by
 unfold plOk;rw[bW i0 i1 (by unfold Le;rw[h];rfl)];rfl
theorem NM (i0:0<=i)(i1:i<cs.length)(h:0<i)(g:ag cs i 0<=ag cs (i-1) 0):plOk k m cs=false:=by
 unfold plOk;rw[bW i0 i1 (by unfold Le;rw[decide_eq_true h,decide_eq_true g];simp)];rfl
theorem J1 (h:inR (ag cs i 0) 0 15=true)(g:i<=0):Le cs i=true:=by unfold Le;rw[h,decide_eq_false (by omega)];rfl
theorem J2 (h:inR (ag cs i 0) 0 15=true)(g:ag cs (i-1) 0<ag cs i 0):Le cs i=true:=by
 unfold Le;rw[h,decide_eq_false (p:=ag cs i 0<=_) (by omega)];simp
theorem E4 (h:upto (Le cs) i)(g:(cs.length:Int)<=i):plOk k m cs=(inR k 0 31&&(inR m 0 31&&decide (k≠m))):=by unfold plOk;rw[bN h g];rfl
end
end Go.V
namespace Go.V
theorem Ro {sp lg:aa}{a:Int}(h:layOk sp lg=true):dzK sp lg a=dnK sp lg a:=by unfold dzK;rw[if_pos h]
theorem Rp {sp lg:aa}{a:Int}(h:layOk sp lg=true):dzI sp lg a=dnI sp lg a:=by unfold dzI;rw[if_pos h]
theorem Rq {sp lg:aa}{a:Int}(h:layOk sp lg=true):dzO sp lg a=dnO sp lg a:=by unfold dzO;rw[if_pos h]
theorem Jc {sp lg:aa}{a:Int}(h:dnK sp lg a=1):0<=dnI sp lg a/\dnI sp lg a<sp.length:=by
 unfold dnK at h;by_cases c:0<=jk sp a
 ·unfold dnI;rw[if_pos c];rcases ua (p:=CE sp a) (n:=sp.length)with q|q
  ·have:jk sp a= -1:=q;omega
  ·exact q
 ·rw[if_neg c]at h;by_cases d:0<=Cy lg a
  ·rw[if_pos d]at h;omega
  ·rw[if_neg d]at h;omega
theorem Rm {sp lg:aa}{a:Int}(h:dnK sp lg a=3):0<=dnI sp lg a/\dnI sp lg a<lg.length:=by
 unfold dnK at h;by_cases c:0<=jk sp a
 ·rw[if_pos c]at h;split at h<;>omega
 ·rw[if_neg c]at h;by_cases d:0<=Cy lg a
  ·unfold dnI;rw[if_neg c,if_pos d];rcases ua (p:=Gr lg a) (n:=lg.length)with q|q
   ·have:Cy lg a= -1:=q;omega
   ·exact q
  ·rw[if_neg d]at h;omega
def HW (os:aa)(x j:Int):Bool:=eqB (ag os j 0) x
def oiI (os:aa)(x:Int):Int:=dL (HW os x) os.length
def oiB (os:aa)(x:Int):Bool:=decide (0<=oiI os x)
def okO (sp lg:aa)(a s:Int):Bool:=decide (dnO sp lg a=0)&&((decide (dnK sp lg a=1)&&decide (ag sp (dnI sp lg a) 1=clsOf s))||(decide (dnK sp lg a=3)&&decide (ag lg (dnI sp lg a) 2=s)))
def Dl (sp lg os cs:aa)(nx i:Int):Bool:=
 !(decide (0<i)&&decide (ag os i 1<=ag os (i-1) 1))&&(inR (ag os i 0) 1 (bR .sub .i64 nx 1)&&(inR (ag os i 3) 0 (cs.length-1:Int)&&(!oiB (os.take i.toNat) (ag os i 0)&&okO sp lg (ag os i 1) (ag os i 2))))
def objOk (sp lg os cs:aa)(nx:Int):Bool:=cF (Dl sp lg os cs nx) os.length
section
variable {sp lg os cs : aa} {nx i k : Int}
theorem qe (i0:0<=i)(i1:i<os.length)(h:Dl sp lg os cs nx i=false):objOk sp lg os cs nx=false:=bW i0 i1 h
theorem Nw (h:upto (Dl sp lg os cs nx) i)(g:(os.length:Int)<=i):objOk sp lg os cs nx=true:=bN h g
theorem Si (h:0<i)(g:ag os i 1<=ag os (i-1) 1):Dl sp lg os cs nx i=false:=by unfold Dl;rw[decide_eq_true h,decide_eq_true g];rfl
theorem Sj (h:inR (ag os i 0) 1 (bR .sub .i64 nx 1)=false):Dl sp lg os cs nx i=false:=by unfold Dl;rw[h];simp
theorem Sk (h:inR (ag os i 3) 0 (cs.length-1:Int)=false):Dl sp lg os cs nx i=false:=by unfold Dl;rw[h];simp
theorem Sl (h:oiB (os.take i.toNat) (ag os i 0)=true):Dl sp lg os cs nx i=false:=by unfold Dl;rw[h];simp
theorem JU (h:okO sp lg (ag os i 1) (ag os i 2)=false):Dl sp lg os cs nx i=false:=by unfold Dl;rw[h];simp
theorem P9 (h1:i<=0\/ag os (i-1) 1<ag os i 1)(h2:inR (ag os i 0) 1 (bR .sub .i64 nx 1)=true)(h3:inR (ag os i 3) 0 (cs.length-1:Int)=true)(h4:oiB (os.take i.toNat) (ag os i 0)=false)(h5:okO sp lg (ag os i 1) (ag os i 2)=true):Dl sp lg os cs nx i=true:=by
 unfold Dl;rw[h2,h3,h4,h5];rcases h1 with h|h
 ·rw[decide_eq_false (p:=0<i) (by omega)];rfl
 ·rw[decide_eq_false (p:=ag os i 1<=ag os (i-1) 1) (by omega)];simp
theorem Sn {a s:Int}(h:dnO sp lg a≠0):okO sp lg a s=false:=by unfold okO;rw[decide_eq_false h];rfl
theorem Ze {a s:Int}(h1:dnK sp lg a≠1\/ag sp (dnI sp lg a) 1≠clsOf s)(h2:dnK sp lg a≠3\/ag lg (dnI sp lg a) 2≠s):okO sp lg a s=false:=by
 unfold okO;rcases h1 with h|h<;>rcases h2 with g|g<;>simp[h,g]
theorem Sv {a s:Int}(h0:dnO sp lg a=0)(h1:dnK sp lg a=1)(h2:ag sp (dnI sp lg a) 1=clsOf s):okO sp lg a s=true:=by unfold okO;rw[decide_eq_true h0,decide_eq_true h1,decide_eq_true h2];rfl
theorem Sw {a s:Int}(h0:dnO sp lg a=0)(h1:dnK sp lg a=3)(h2:ag lg (dnI sp lg a) 2=s):okO sp lg a s=true:=by unfold okO;rw[decide_eq_true h0,decide_eq_true h1,decide_eq_true h2];simp
theorem Vv (k0:0<=k)(k1:k<i)(i1:i<os.length)(h:ag os k 0=ag os i 0):oiB (os.take i.toNat) (ag os i 0)=true:=by
 unfold oiB oiI;rw[decide_eq_true_eq,C4];refine⟨k.toNat,by rw[acX];omega,?_⟩;unfold HW;rw[IS k0,yC (by omega)];exact Ay h
theorem Zd {x:Int}(h:upto (fun j=> !eqB (ag os j 0) x) k)(k1:i<=k)(i0:0<=i):oiB (os.take i.toNat) x=false:=by
 unfold oiB oiI;refine decide_eq_false (fun c=>?_);obtain⟨m,m1,m2⟩:=C4.1 c;rw[acX]at m1;have q:=h m (by omega) (by omega);unfold HW at m2;rw[yC (by omega)]at m2;simp only at q;rw[m2]at q;cases q
end
end Go.V
namespace Go.V
def WfI (es:aa):Prop:=∀ e∈es,∃ k b:Int,e=[.i k,.i b]
theorem wN {k b:Int}{es:aa}{n:Int}:fa ([.i k,.i b]::es) n=if k=n then some (0,.int .i64 b)else(fa es n).map fun p=>(p.1+1,p.2):=rfl
theorem qT {k b:Int}{es:aa}{n:Int}:jO ([.i k,.i b]::es) n=if k=n then b else jO es n:=by
 unfold jO;rw[wN];by_cases c:k=n
 ·rw[if_pos c,if_pos c]
 ·rw[if_neg c,if_neg c];cases fa es n with
  |none=>rfl
  |some p=>obtain⟨j,v⟩:=p;cases v<;>rfl
theorem Nr {k b x:Int}{es:aa}{n:Int}:o6 ([.i k,.i b]::es) n (.i x)=if k=n then[.i n,.i x]::es else[.i k,.i b]::o6 es n (.i x):=by
 unfold o6;rw[wN];by_cases c:k=n
 ·rw[if_pos c,if_pos c];rfl
 ·rw[if_neg c,if_neg c];cases fa es n with
  |none=>rfl
  |some p=>rfl
theorem Y5 {x n:Int}:∀ {es:aa},WfI es->WfI (o6 es n (.i x))/\∀ m,jO (o6 es n (.i x)) m=if m=n then x else jO es m
 | [],_=>by
   refine⟨fun e he=>?_,fun m=>?_⟩
   ·have:e=[.i n,.i x]:=by simpa[o6,fa]using he
    exact⟨n,x,this⟩
   ·show jO [[.i n,.i x]] m=_;rw[qT];by_cases c:m=n
    ·rw[if_pos c.symm,if_pos c]
    ·rw[if_neg (fun e=>c e.symm),if_neg c]
 | e::es,h=>by
   obtain⟨k,b,rfl⟩:=h e (by simp);have h':WfI es:=fun e he=>h e (by simp[he])
   obtain⟨a1,a2⟩:=Y5 (x:=x) (n:=n) h';rw[Nr];by_cases c:k=n
   ·rw[if_pos c];refine⟨fun e he=>?_,fun m=>?_⟩
    ·rcases acZ.1 he with rfl|he;exact⟨n,x,rfl⟩;exact h' e he
    ·rw[qT,qT];by_cases d:m=n
     ·rw[if_pos d.symm,if_pos d]
     ·rw[if_neg (fun e=>d e.symm),if_neg d,if_neg (fun e=>d (by rw[<-e,c]))]
   ·rw[if_neg c];refine⟨fun e he=>?_,fun m=>?_⟩
    ·rcases acZ.1 he with rfl|he;exact⟨k,b,rfl⟩;exact a1 e he
    ·rw[qT,qT,a2 m];by_cases d:k=m
     ·rw[if_pos d,if_pos d,if_neg (fun e=>c (d.trans e))]
     ·rw[if_neg d,if_neg d]
def huI (es:aa)(a:Int):aa:=o6 es a (.i (bR .add .i64 (jO es a) 1))
structure DJ (es:aa)(l:List Int):Prop where
 wf:WfI es
 c:∀ m,jO es m=(l.count m:Int)
theorem abh :DJ [] []:=⟨(fun e he=>by cases he),fun m=>rfl⟩
theorem I7 {es:aa}{l:List Int}{a:Int}(h:DJ es l)(hl:l.length<=1099511627776):DJ (huI es a) (l++[a]):=by
 have q:=Y5 (x:=bR .add .i64 (jO es a) 1) (n:=a) h.wf;refine⟨q.1,fun m=>?_⟩;show jO (o6 es a _) m=_;have b:l.count a<=l.length:=List.count_le_length;have e:=h.c a;rw[q.2 m,List.count_append,show bR .add .i64 (jO es a) 1=jO es a+1 from bE (by omega)];by_cases c:m=a
 ·subst c;rw[if_pos rfl,e];simp
 ·rw[if_neg c,h.c m];have:[a].count m=0:=agi.2 (by simpa using c);rw[this];rfl
def iq (l:aa)(f:Nat):Nat->List Int
 |0=>[]
 |n+1=>iq l f n++[ag l n f]
def Cw (ls:aa):Nat->List Int
 |0=>[]
 |n+1=>Cw ls n++iq (ap ls n 0) 0 (ap ls n 0).length
def uW (cs:aa):Nat->List Int
 |0=>[]
 |n+1=>uW cs n++Cw (ap cs n 0) (ap cs n 0).length
theorem de {l:aa}{f:Nat}:∀ n,(iq l f n).length=n
 |0=>rfl
 |n+1=>by rw[iq,AT,de n];rfl
theorem qR {l:aa}{f:Nat}{i:Int}(h:0<=i):iq l f (i+1).toNat=iq l f i.toNat++[ag l i f]:=by
 rw[show(i+1).toNat=i.toNat+1 from by omega,iq,IS h]
theorem LU {l:aa}{i:Int}(h:0<=i):Cw l (i+1).toNat=Cw l i.toNat++iq (ap l i 0) 0 (ap l i 0).length:=by
 rw[show(i+1).toNat=i.toNat+1 from by omega,Cw,IS h]
theorem LO {l:aa}{i:Int}(h:0<=i):uW l (i+1).toNat=uW l i.toNat++Cw (ap l i 0) (ap l i 0).length:=by
 rw[show(i+1).toNat=i.toNat+1 from by omega,uW,IS h]
theorem rA {l:aa}{f:Nat}{x:Int}:∀ {n},x∈iq l f n↔∃ k:Nat,k<n/\x=ag l k f
 |0=>⟨(fun h=>by cases h),fun⟨k,h,_⟩=>absurd h (ad8 _)⟩
 | n+1=>by
   rw[iq,If,rA,ado]
   constructor
   ·rintro(⟨k,h,e⟩|e);exact⟨k,by omega,e⟩;exact⟨n,by omega,e⟩
   ·rintro⟨k,h,e⟩;by_cases c:k=n
    ·subst c;exact .inr e
    ·exact .inl ⟨k,by omega,e⟩
theorem EV {ls:aa}{x:Int}:∀ {n},x∈Cw ls n↔∃ k:Nat,k<n/\x∈iq (ap ls k 0) 0 (ap ls k 0).length
 |0=>⟨(fun h=>by cases h),fun⟨k,h,_⟩=>absurd h (ad8 _)⟩
 | n+1=>by
   rw[Cw,If,EV]
   constructor
   ·rintro(⟨k,h,e⟩|e);exact⟨k,by omega,e⟩;exact⟨n,by omega,e⟩
   ·rintro⟨k,h,e⟩;by_cases c:k=n
    ·subst c;exact .inr e
    ·exact .inl ⟨k,by omega,e⟩
theorem EU {cs:aa}{x:Int}:∀ {n},x∈uW cs n↔∃ k:Nat,k<n/\x∈Cw (ap cs k 0) (ap cs k 0).length
 |0=>⟨(fun h=>by cases h),fun⟨k,h,_⟩=>absurd h (ad8 _)⟩
 | n+1=>by
   rw[uW,If,EU]
   constructor
   ·rintro(⟨k,h,e⟩|e);exact⟨k,by omega,e⟩;exact⟨n,by omega,e⟩
   ·rintro⟨k,h,e⟩;by_cases c:k=n
    ·subst c;exact .inr e
    ·exact .inl ⟨k,by omega,e⟩
theorem Ef {ls:aa}:∀ n,n<=ls.length->(Cw ls n).length<=bK (ls.take n)
 |0,_=>OF _
 | n+1,h=>by
   have q:=Ef n (by omega:n<=ls.length);have c:=AO (es:=ls) (n:=n) (j:=0) (by omega);unfold ak at c;rw[Cw,AT,de,pc (by omega)];omega
theorem nC {cs:aa}:∀ n,n<=cs.length->(uW cs n).length<=bK (cs.take n)
 |0,_=>OF _
 | n+1,h=>by
   have q:=nC n (by omega:n<=cs.length);have c:=AO (es:=cs) (n:=n) (j:=0) (by omega);have d:=Ef (ls:=ap cs n 0) (ap cs n 0).length (No _);rw[aea]at d;unfold ak at c;rw[uW,AT,pc (by omega)];omega
theorem Pn {cs:aa}{i k:Int}(i0:0<=i)(i1:i<cs.length)(k1:k<=(ap cs i 0).length):(uW cs i.toNat++Cw (ap cs i 0) k.toNat).length+bK ((ap cs i 0).drop k.toNat)<=bK cs:=by
 have q:=nC (cs:=cs) i.toNat (by omega);have c:=FX (es:=cs) (n:=i.toNat+1);have d:=pc (es:=cs) (n:=i.toNat) (by omega);have e:=AO (es:=cs) (n:=i.toNat) (j:=0) (by omega);rw[IS i0]at e;have f:=Ef (ls:=ap cs i 0) k.toNat (by omega);have g:bK (ap cs i 0)=bK ((ap cs i 0).take k.toNat)+bK ((ap cs i 0).drop k.toNat):=by rw[<-fI,adi]
 rw[AT];unfold ak at e;omega
theorem I3 {cs:aa}{i k j:Int}(i0:0<=i)(i1:i<cs.length)(k0:0<=k)(k1:k<(ap cs i 0).length)(j0:0<=j)(j1:j<=(ap (ap cs i 0) k 0).length):(uW cs i.toNat++Cw (ap cs i 0) k.toNat++iq (ap (ap cs i 0) k 0) 0 j.toNat).length<=bK cs:=by
 have q:=Pn i0 i1 (by omega:k<=(ap cs i 0).length);have e:=AO (es:=ap cs i 0) (n:=k.toNat) (j:=0) (by omega);rw[IS k0]at e;have d:cS ((ap cs i 0).getD k.toNat [])<=bK ((ap cs i 0).drop k.toNat):=by
  rw[aez (by omega)];rw[BY,IT (by omega)];simp[bK]
 rw[AT,de];unfold ak at e;omega
def hlB (sp lg:aa)(a k:Int):Bool:=decide (dnK sp lg a=1)&&(decide (dnO sp lg a=0)&&(decide (k<0)||decide (ag sp (dnI sp lg a) 1=k)))
def jA (sp lg l:aa)(k j:Int):Bool:=hlB sp lg (ag l j 0) k
def kA (sp lg ls:aa)(k:Int):Bool:=cF (jA sp lg (ap ls k 0) k) (ap ls k 0).length
def iA (sp lg cs:aa)(i:Int):Bool:=cF (kA sp lg (ap cs i 0)) (ap cs i 0).length
def qA (sp lg qs:aa)(i:Int):Bool:=hlB sp lg (ag qs i 0) (ag qs i 1)
def sA (qs:aa)(c i:Int):Bool:=decide (ag qs i 2<=c)
def J7 (sp lg qs:aa)(c i:Int):Bool:=qA sp lg qs i&&sA qs c i
def PL (os cs qs fl:aa):List Int:=uW cs cs.length++iq qs 0 qs.length++iq fl 0 fl.length++iq os 1 os.length
def Hi (os cs qs fl:aa):List Int:=iq os 1 os.length++uW cs cs.length++iq qs 0 qs.length++iq fl 0 fl.length
def Q5 (l:List Int)(lv:aa)(i:Int):Bool:=decide (l.count (ag lv i 0)=1)
def hoI (sp lg os cs b x qs:aa)(c:Int):Bool:=cF (iA sp lg cs) cs.length&&(cF (J7 sp lg qs c) qs.length&&(cF (jA sp lg (ifL b x) (-1)) (ifL b x).length&&cF (Q5 (PL os cs qs (ifL b x)) (laL sp lg)) (laL sp lg).length))
def hoS (sp lg os cs b x qs:aa):Bool:=cF (iA sp lg cs) cs.length&&(cF (qA sp lg qs) qs.length&&(cF (jA sp lg (ifL b x) (-1)) (ifL b x).length&&(decide ((Hi os cs qs (ifL b x)).Nodup)&&decide ((Hi os cs qs (ifL b x)).length=(laL sp lg).length))))
section
variable {sp lg os cs b x qs fl es : aa} {i k j c : Int}
theorem Yi (k0:0<=k)(k1:k<(ap cs i 0).length)(j0:0<=j)(j1:j<(ap (ap cs i 0) k 0).length)(h:hlB sp lg (ag (ap (ap cs i 0) k 0) j 0) k=false):iA sp lg cs i=false:=
 bW k0 k1 (bW (p:=jA sp lg (ap (ap cs i 0) k 0) k) j0 j1 h)
theorem Uz (i0:0<=i)(i1:i<cs.length)(h:iA sp lg cs i=false):hoI sp lg os cs b x qs c=false:=by unfold hoI;rw[bW i0 i1 h];rfl
theorem My (i0:0<=i)(i1:i<qs.length)(h:J7 sp lg qs c i=false):hoI sp lg os cs b x qs c=false:=by unfold hoI;rw[bW i0 i1 h];simp
theorem UA (i0:0<=i)(i1:i<(ifL b x).length)(h:hlB sp lg (ag (ifL b x) i 0) (-1)=false):hoI sp lg os cs b x qs c=false:=by unfold hoI;rw[bW (p:=jA sp lg (ifL b x) (-1)) i0 i1 h];simp
theorem UB (i0:0<=i)(i1:i<(laL sp lg).length)(h:Q5 (PL os cs qs (ifL b x)) (laL sp lg) i=false):hoI sp lg os cs b x qs c=false:=by unfold hoI;rw[bW i0 i1 h];simp
theorem UC (i0:0<=i)(i1:i<cs.length)(h:iA sp lg cs i=false):hoS sp lg os cs b x qs=false:=by unfold hoS;rw[bW i0 i1 h];rfl
theorem UD (i0:0<=i)(i1:i<qs.length)(h:qA sp lg qs i=false):hoS sp lg os cs b x qs=false:=by unfold hoS;rw[bW i0 i1 h];simp
theorem UE (i0:0<=i)(i1:i<(ifL b x).length)(h:hlB sp lg (ag (ifL b x) i 0) (-1)=false):hoS sp lg os cs b x qs=false:=by unfold hoS;rw[bW (p:=jA sp lg (ifL b x) (-1)) i0 i1 h];simp
theorem ZK (h:hlB sp lg (ag qs i 0) (ag qs i 1)=false):J7 sp lg qs c i=false:=by unfold J7 qA;rw[h];rfl
theorem ZL (h:c<ag qs i 2):J7 sp lg qs c i=false:=by unfold J7 sA;rw[decide_eq_false (by omega),adN]
theorem acn (h:hlB sp lg (ag qs i 0) (ag qs i 1)=true)(g:ag qs i 2<=c):J7 sp lg qs c i=true:=by unfold J7 qA sA;rw[h,decide_eq_true g];rfl
structure Wi (sp lg cs:aa)(i:Int)(es:aa):Prop where
 ok:upto (iA sp lg cs) i
 c:DJ es (uW cs i.toNat)
structure Wk (sp lg cs:aa)(i k:Int)(es:aa):Prop where
 ok:upto (iA sp lg cs) i
 ok2:upto (kA sp lg (ap cs i 0)) k
 c:DJ es (uW cs i.toNat++Cw (ap cs i 0) k.toNat)
structure Wj (sp lg cs:aa)(i k j:Int)(es:aa):Prop where
 ok:upto (iA sp lg cs) i
 ok2:upto (kA sp lg (ap cs i 0)) k
 ok3:upto (jA sp lg (ap (ap cs i 0) k 0) k) j
 c:DJ es (uW cs i.toNat++Cw (ap cs i 0) k.toNat++iq (ap (ap cs i 0) k 0) 0 j.toNat)
structure Wl (sp lg cs qs:aa)(t j:Int)(es:aa):Prop where
 ok:cF (iA sp lg cs) cs.length=true
 ok2:upto (J7 sp lg qs t) j
 c:DJ es (uW cs cs.length++iq qs 0 j.toNat)
structure Wh (sp lg cs qs fl:aa)(t j:Int)(es:aa):Prop where
 ok:cF (iA sp lg cs) cs.length=true
 ok2:cF (J7 sp lg qs t) qs.length=true
 ok3:upto (jA sp lg fl (-1)) j
 c:DJ es (uW cs cs.length++iq qs 0 qs.length++iq fl 0 j.toNat)
structure Ts (sp lg os cs qs fl:aa)(t j:Int)(es:aa):Prop where
 ok:cF (iA sp lg cs) cs.length=true
 ok2:cF (J7 sp lg qs t) qs.length=true
 ok3:cF (jA sp lg fl (-1)) fl.length=true
 c:DJ es (uW cs cs.length++iq qs 0 qs.length++iq fl 0 fl.length++iq os 1 j.toNat)
theorem abC :Wi sp lg cs 0 []:=⟨bM,abh⟩
theorem abE (h:Wi sp lg cs i es):Wk sp lg cs i 0 es:=⟨h.ok,bM,by simpa[Cw]using h.c⟩
theorem abD (h:Wk sp lg cs i k es):Wj sp lg cs i k 0 es:=⟨h.ok,h.ok2,bM,by simpa[iq]using h.c⟩
theorem XQ (h:Wj sp lg cs i k j es)(i0:0<=i)(i1:i<cs.length)(k0:0<=k)(k1:k<(ap cs i 0).length)(j0:0<=j)(j1:j<(ap (ap cs i 0) k 0).length)(hc:ak cs<=1073741824)(hh:hlB sp lg (ag (ap (ap cs i 0) k 0) j 0) k=true):
 Wj sp lg cs i k (j+1) (huI es (ag (ap (ap cs i 0) k 0) j 0)):=by
 have l:=I3 (cs:=cs) i0 i1 k0 k1 j0 (by omega);unfold ak at hc;exact⟨h.ok,h.ok2,bj h.ok3 hh,by rw[qR j0, <-IN];exact I7 h.c (by omega)⟩
theorem XR (h:Wj sp lg cs i k j es)(k0:0<=k)(j1:j<=((ap (ap cs i 0) k 0).length:Int))(j2:((ap (ap cs i 0) k 0).length:Int)<=j):Wk sp lg cs i (k+1) es:=by
 refine⟨h.ok,bj h.ok2 (bN h.ok3 j2),?_⟩;have c:=h.c;rw[show j.toNat=(ap (ap cs i 0) k 0).length from by omega,IN, <-LU k0]at c;exact c
theorem XP (h:Wk sp lg cs i k es)(i0:0<=i)(k1:k<=((ap cs i 0).length:Int))(k2:((ap cs i 0).length:Int)<=k):Wi sp lg cs (i+1) es:=by
 refine⟨bj h.ok (bN h.ok2 k2),?_⟩;have c:=h.c;rw[show k.toNat=(ap cs i 0).length from by omega, <-LO i0]at c;exact c
theorem abL (h:Wi sp lg cs i es)(i1:i<=cs.length)(i2:(cs.length:Int)<=i):Wl sp lg cs qs c 0 es:=
 ⟨bN h.ok i2,bM,by have c:=h.c;rw[show i.toNat=cs.length from by omega]at c;simpa[iq]using c⟩
theorem Yb (h:Wl sp lg cs qs c j es)(j0:0<=j)(j1:j<qs.length)(hc:ak cs<=1073741824)(hq:qs.length<=1073741824)(hh:J7 sp lg qs c j=true):Wl sp lg cs qs c (j+1) (huI es (ag qs j 0)):=by
 have l:=nC (cs:=cs) cs.length (No _);rw[aea]at l;unfold ak at hc;refine⟨h.ok,bj h.ok2 hh,?_⟩;rw[qR j0, <-IN];refine I7 h.c ?_;rw[AT,de];omega
theorem abB (h:Wl sp lg cs qs c i es)(i1:i<=qs.length)(i2:(qs.length:Int)<=i):Wh sp lg cs qs fl c 0 es:=
 ⟨h.ok,bN h.ok2 i2,bM,by have c:=h.c;rw[show i.toNat=qs.length from by omega]at c;simpa[iq]using c⟩
theorem XO (h:Wh sp lg cs qs fl c j es)(j0:0<=j)(j1:j<fl.length)(hc:ak cs<=1073741824)(hq:qs.length<=1073741824)(hf:fl.length<=30)(hh:hlB sp lg (ag fl j 0) (-1)=true):Wh sp lg cs qs fl c (j+1) (huI es (ag fl j 0)):=by
 have l:=nC (cs:=cs) cs.length (No _);rw[aea]at l;unfold ak at hc;refine⟨h.ok,h.ok2,bj h.ok3 hh,?_⟩;rw[qR j0, <-IN];refine I7 h.c ?_;rw[AT,AT,de,de];omega
theorem abH (h:Wh sp lg cs qs fl c i es)(i1:i<=fl.length)(i2:(fl.length:Int)<=i):Ts sp lg os cs qs fl c 0 es:=
 ⟨h.ok,h.ok2,bN h.ok3 i2,by have c:=h.c;rw[show i.toNat=fl.length from by omega]at c;simpa[iq]using c⟩
theorem XU (h:Ts sp lg os cs qs fl c j es)(j0:0<=j)(j1:j<os.length)(hc:ak cs<=1073741824)(hq:qs.length<=1073741824)(ho:os.length<=1073741824)(hf:fl.length<=30):Ts sp lg os cs qs fl c (j+1) (huI es (ag os j 1)):=by
 have l:=nC (cs:=cs) cs.length (No _);rw[aea]at l;unfold ak at hc;refine⟨h.ok,h.ok2,h.ok3,?_⟩;rw[qR j0, <-IN];refine I7 h.c ?_;rw[AT,AT,AT,de,de,de];omega
structure QQ (sp lg os cs qs fl:aa)(t i:Int)(es:aa):Prop where
 p:Ts sp lg os cs qs fl t os.length es
 ok:upto (Q5 (PL os cs qs fl) (laL sp lg)) i
theorem abF (h:Ts sp lg os cs qs fl c i es)(i1:i<=os.length)(i2:(os.length:Int)<=i):QQ sp lg os cs qs fl c 0 es:=⟨by rw[show(os.length:Int)=i from by omega];exact h,bM⟩
theorem XS (h:QQ sp lg os cs qs fl c i es)(m:Int):jO es m=((PL os cs qs fl).count m:Int):=by
 have q:=h.p.c.c m;rw[ac4]at q;exact q
theorem XT (h:QQ sp lg os cs qs fl c i es)(e:jO es (ag (laL sp lg) i 0)=1):QQ sp lg os cs qs fl c (i+1) es:=
 ⟨h.p,bj h.ok (by unfold Q5;rw[XS h]at e;exact decide_eq_true (by omega))⟩
theorem abG (h:QQ sp lg os cs qs (ifL b x) c i es)(i0:0<=i)(i1:i<(laL sp lg).length)(e:jO es (ag (laL sp lg) i 0)≠1):hoI sp lg os cs b x qs c=false:=
 UB i0 i1 (by unfold Q5;rw[XS h]at e;exact decide_eq_false (by omega))
theorem Uy (h:QQ sp lg os cs qs (ifL b x) c i es)(i2:((laL sp lg).length:Int)<=i):hoI sp lg os cs b x qs c=true:=by
 unfold hoI;rw[h.p.ok,h.p.ok2,h.p.ok3,bN h.ok i2];rfl
end
end Go.V
namespace Go.V
structure TJ (os:aa)(i:Int)(o:aa):Prop where
 e:o=jc (iq os 1 i.toNat)
structure Wr (sp lg os cs:aa)(i:Int)(o:aa):Prop where
 ok:upto (iA sp lg cs) i
 e:o=jc (iq os 1 os.length++uW cs i.toNat)
structure Ws (sp lg os cs:aa)(i k:Int)(o:aa):Prop where
 ok:upto (iA sp lg cs) i
 ok2:upto (kA sp lg (ap cs i 0)) k
 e:o=jc (iq os 1 os.length++(uW cs i.toNat++Cw (ap cs i 0) k.toNat))
structure TK (sp lg os cs:aa)(i k j:Int)(o:aa):Prop where
 ok:upto (iA sp lg cs) i
 ok2:upto (kA sp lg (ap cs i 0)) k
 ok3:upto (jA sp lg (ap (ap cs i 0) k 0) k) j
 e:o=jc (iq os 1 os.length++(uW cs i.toNat++Cw (ap cs i 0) k.toNat++iq (ap (ap cs i 0) k 0) 0 j.toNat))
structure TL (sp lg os cs qs:aa)(j:Int)(o:aa):Prop where
 ok:cF (iA sp lg cs) cs.length=true
 ok2:upto (qA sp lg qs) j
 e:o=jc (iq os 1 os.length++uW cs cs.length++iq qs 0 j.toNat)
structure TM (sp lg os cs qs fl:aa)(j:Int)(o:aa):Prop where
 ok:cF (iA sp lg cs) cs.length=true
 ok2:cF (qA sp lg qs) qs.length=true
 ok3:upto (jA sp lg fl (-1)) j
 e:o=jc (iq os 1 os.length++uW cs cs.length++iq qs 0 qs.length++iq fl 0 j.toNat)
structure O1 (sp lg os cs qs fl:aa)(j:Int)(o:aa):Prop where
 ok:cF (iA sp lg cs) cs.length=true
 ok2:cF (qA sp lg qs) qs.length=true
 ok3:cF (jA sp lg fl (-1)) fl.length=true
 e:o=jc (Hi os cs qs fl)
 nd:((Hi os cs qs fl).take j.toNat).Nodup
section
variable {sp lg os cs b x qs fl o : aa} {i k j : Int}
theorem acs :TJ os 0 []:=⟨rfl⟩
theorem acu (h:TJ os i o):o.length=i.toNat:=by rw[h.e,cg,de]
theorem Z0 (h:TJ os i o)(i0:0<=i):TJ os (i+1) (o++[[.i (ag os i 1)]]):=⟨by rw[qR i0,ig, <-h.e];rfl⟩
theorem acv (h:TJ os i o)(i1:i<=os.length)(i2:(os.length:Int)<=i):Wr sp lg os cs 0 o:=⟨bM,by rw[h.e,show i.toNat=os.length from by omega];simp[uW]⟩
theorem acw (h:Wr sp lg os cs i o):Ws sp lg os cs i 0 o:=⟨h.ok,bM,by rw[h.e];simp[Cw]⟩
theorem acx (h:Ws sp lg os cs i k o):TK sp lg os cs i k 0 o:=⟨h.ok,h.ok2,bM,by rw[h.e];simp[iq]⟩
theorem acy (h:TK sp lg os cs i k j o)(i0:0<=i)(i1:i<cs.length)(k0:0<=k)(k1:k<(ap cs i 0).length)(j0:0<=j)(j1:j<=(ap (ap cs i 0) k 0).length)(hc:ak cs<=1073741824)(ho:os.length<=1073741824):o.length<=2147483648:=by
 have l:=I3 (cs:=cs) i0 i1 k0 k1 j0 j1;unfold ak at hc;rw[h.e,cg,AT,de];omega
theorem Z3 (h:TK sp lg os cs i k j o)(j0:0<=j)(hh:hlB sp lg (ag (ap (ap cs i 0) k 0) j 0) k=true):TK sp lg os cs i k (j+1) (o++[[.i (ag (ap (ap cs i 0) k 0) j 0)]]):=
 ⟨h.ok,h.ok2,bj h.ok3 hh,by rw[qR j0, <-IN (uW cs i.toNat++Cw (ap cs i 0) k.toNat), <-IN (iq os 1 os.length),ig, <-h.e];rfl⟩
theorem Z2 (h:TK sp lg os cs i k j o)(k0:0<=k)(j1:j<=((ap (ap cs i 0) k 0).length:Int))(j2:((ap (ap cs i 0) k 0).length:Int)<=j):Ws sp lg os cs i (k+1) o:=by
 refine⟨h.ok,bj h.ok2 (bN h.ok3 j2),?_⟩;rw[h.e,show j.toNat=(ap (ap cs i 0) k 0).length from by omega,IN (uW cs i.toNat), <-LU k0]
theorem Z1 (h:Ws sp lg os cs i k o)(i0:0<=i)(k1:k<=((ap cs i 0).length:Int))(k2:((ap cs i 0).length:Int)<=k):Wr sp lg os cs (i+1) o:=by
 refine⟨bj h.ok (bN h.ok2 k2),?_⟩;rw[h.e,show k.toNat=(ap cs i 0).length from by omega, <-LO i0]
theorem acz (h:Wr sp lg os cs i o)(i1:i<=cs.length)(i2:(cs.length:Int)<=i):TL sp lg os cs qs 0 o:=⟨bN h.ok i2,bM,by rw[h.e,show i.toNat=cs.length from by omega];simp[iq]⟩
theorem acA (h:TL sp lg os cs qs j o)(j1:j<=qs.length)(hc:ak cs<=1073741824)(ho:os.length<=1073741824)(hq:qs.length<=1073741824):o.length<=4294967296:=by
 have l:=nC (cs:=cs) cs.length (No _);rw[aea]at l;unfold ak at hc;rw[h.e,cg,AT,AT,de,de];omega
theorem Z4 (h:TL sp lg os cs qs j o)(j0:0<=j)(hh:hlB sp lg (ag qs j 0) (ag qs j 1)=true):TL sp lg os cs qs (j+1) (o++[[.i (ag qs j 0)]]):=
 ⟨h.ok,bj h.ok2 hh,by rw[qR j0, <-IN,ig, <-h.e];rfl⟩
theorem acB (h:TL sp lg os cs qs i o)(i1:i<=qs.length)(i2:(qs.length:Int)<=i):TM sp lg os cs qs fl 0 o:=⟨h.ok,bN h.ok2 i2,bM,by rw[h.e,show i.toNat=qs.length from by omega];simp[iq]⟩
theorem acC (h:TM sp lg os cs qs fl j o)(j1:j<=fl.length)(hc:ak cs<=1073741824)(ho:os.length<=1073741824)(hq:qs.length<=1073741824)(hf:fl.length<=30):o.length<=4294967400:=by
 have l:=nC (cs:=cs) cs.length (No _);rw[aea]at l;unfold ak at hc;rw[h.e,cg,AT,AT,AT,de,de,de];omega
theorem Z5 (h:TM sp lg os cs qs fl j o)(j0:0<=j)(hh:hlB sp lg (ag fl j 0) (-1)=true):TM sp lg os cs qs fl (j+1) (o++[[.i (ag fl j 0)]]):=
 ⟨h.ok,h.ok2,bj h.ok3 hh,by rw[qR j0, <-IN,ig, <-h.e];rfl⟩
theorem acD (h:TM sp lg os cs qs fl i o)(i1:i<=fl.length)(i2:(fl.length:Int)<=i):O1 sp lg os cs qs fl 0 o:=
 ⟨h.ok,h.ok2,bN h.ok3 i2,by rw[h.e,show i.toNat=fl.length from by omega];rfl,adz⟩
theorem Z6 (h:O1 sp lg os cs qs fl j o)(hc:ak cs<=1073741824)(ho:os.length<=1073741824)(hq:qs.length<=1073741824)(hf:fl.length<=30):o.length<=4294967400:=by
 have l:=nC (cs:=cs) cs.length (No _);rw[aea]at l;unfold ak at hc;rw[h.e,cg];unfold Hi;rw[AT,AT,AT,de,de,de];omega
theorem GK {l:List Int}{n:Nat}:(jc l).take n=jc (l.take n):=by unfold jc;rw[List.map_take]
theorem E6 {l:List Int}{i:Int}(h0:0<=i)(h:i<(jc l).length):∃ x,l[i.toNat]?=some x/\ag (jc l) i 0=x:=by
 rw[cg]at h;have q:=v6 (l:=l) (k:=i.toNat) (by omega);rw[IS h0]at q;exact⟨_,IT (by omega),q⟩
theorem Z8 (h:O1 sp lg os cs qs fl j o)(j0:0<=j)(j1:j<o.length)(hh:hasB (o.take j.toNat) (ag o j 0)=false):O1 sp lg os cs qs fl (j+1) o:=by
 refine⟨h.ok,h.ok2,h.ok3,h.e,?_⟩;have e:=h.e;rw[e]at j1 hh;obtain⟨v,q1,q2⟩:=E6 j0 j1;rw[GK,q2]at hh;have nm:=yD hh;rw[show(j+1).toNat=j.toNat+1 from by omega,List.take_succ,q1];exact nF h.nd nm
theorem acE (h:O1 sp lg os cs qs (ifL b x) j o)(j0:0<=j)(j1:j<o.length)(hh:hasB (o.take j.toNat) (ag o j 0)=true):hoS sp lg os cs b x qs=false:=by
 have e:=h.e;rw[e]at j1 hh;obtain⟨v,q1,q2⟩:=E6 j0 j1;rw[GK,q2,ry]at hh;have:¬ (Hi os cs qs (ifL b x)).Nodup:=fun nd=>by
  have lt:j.toNat<(Hi os cs qs (ifL b x)).length:=by rw[cg]at j1;omega
  have sp:=adi j.toNat (Hi os cs qs (ifL b x));rw[aez lt]at sp;have gv:(Hi os cs qs (ifL b x))[j.toNat]=v:=by rw[IT lt]at q1;exact ad4 q1
  rw[gv]at sp;exact dup sp.symm hh nd
 unfold hoS;rw[decide_eq_false this];simp
theorem VT (h:O1 sp lg os cs qs (ifL b x) j o)(j2:(o.length:Int)<=j):decide ((o.length:Int)=(laL sp lg).length)=hoS sp lg os cs b x qs:=by
 have e:=h.e;have nd:=h.nd;have l:(Hi os cs qs (ifL b x)).length=o.length:=by rw[e,cg]
 rw[adD (by omega)]at nd;unfold hoS;rw[h.ok,h.ok2,h.ok3,decide_eq_true nd,l];simp only[aeA];exact gY (by rw[decide_eq_true_eq,decide_eq_true_eq];omega)
def Wv (l:List Int):Prop:=∀ v∈l,-9223372036854775808<=v/\v<=9223372036854775807
theorem EB {l m:List Int}(h:Wv l)(g:Wv m):Wv (l++m):=fun v hv=>by
 rcases If.1 hv with q|q;exact h v q;exact g v q
theorem ED {fs:List Ty}{l:aa}{f:Nat}(h:Rw fs l)(hf:fs[f]?=some tI):Wv (iq l f l.length):=fun v hv=>by
 obtain⟨n,n1,rfl⟩:=rA.1 hv;exact AL h hf (by omega)
theorem UW {ls:aa}(h:Rw [.sl [tI]] ls):Wv (Cw ls ls.length):=fun v hv=>by
 obtain⟨n,n1,q⟩:=EV.1 hv;exact ED (fs:=[tI]) (Rw.sub (fs:=[.sl [tI]]) h (by omega) rfl) rfl v q
theorem UV {cs:aa}(h:Rw [.sl [.sl [tI]]] cs):Wv (uW cs cs.length):=fun v hv=>by
 obtain⟨n,n1,q⟩:=EU.1 hv;exact UW (Rw.sub (fs:=[.sl [.sl [tI]]]) h (by omega) rfl) v q
theorem Z7 (N:OZ sp lg os cs b x qs)(h:O1 sp lg os cs qs (ifL b x) j o)(n:Nat):Rw [tI] (o.take n):=by
 have l:=Z6 h N.cl N.ol N.ql EA;refine Rw.take ?_ n;rw[h.e]at l ⊢;rw[cg]at l;refine v7 ?_ (by omega);unfold Hi;exact EB (EB (EB (ED N.ow rfl) (UV N.cw)) (ED N.qw rfl)) (ED (ML N.m) rfl)
theorem Mw {a k:Int}(hl:layOk sp lg=true)(h:hlB sp lg a k=true):yl sp lg a=true:=by
 unfold hlB at h;simp only[AI,decide_eq_true_eq]at h;exact(JJ hl).2 ⟨h.2.1,.inl h.1⟩
theorem Zf {a s:Int}(hl:layOk sp lg=true)(h:okO sp lg a s=true):yl sp lg a=true:=by
 unfold okO at h;simp only[AI,adJ,decide_eq_true_eq]at h;exact(JJ hl).2 ⟨h.1,h.2.elim (fun q=>.inl q.1) (fun q=>.inr q.1)⟩
def Ve (sp lg:aa):List Int:=Sc sp lg 512
theorem YC (hl:layOk sp lg=true):laL sp lg=jc (Ve sp lg):=by unfold laL Ve;rw[if_pos hl,AY]
theorem P2 (hl:layOk sp lg=true){a:Int}:a∈Ve sp lg↔yl sp lg a=true:=by
 unfold Ve;rw[uw]
 constructor;exact fun h=>h.2.2
 ·intro h;have F:=Vf hl;have v:=Se F hl h;have r:a∈UK sp lg:=JO.2 v;refine⟨?_,?_,h⟩
  ·rcases v with⟨i,k,i1,k1,_,e⟩|⟨j,j1,e⟩
   ·have ae:=qq (s:=(k:Int)) (F.s i i1) (by omega) (by omega);have t:=nh (F.s i i1);omega
   ·have t:=oz (F.l j j1);omega
  ·rcases v with⟨i,k,i1,k1,_,e⟩|⟨j,j1,e⟩
   ·have ae:=qq (s:=(k:Int)) (F.s i i1) (by omega) (by omega);have t:=nh (F.s i i1);omega
   ·have t:=oz (F.l j j1);have b:=na t.1;omega
theorem Vr :(Ve sp lg).Nodup:=(Il 512).imp (fun h=>by omega)
theorem JZ :(PL os cs qs fl).Perm (Hi os cs qs fl):=by
 unfold PL Hi;have q:=List.perm_append_comm (l₁:=uW cs cs.length++iq qs 0 qs.length++iq fl 0 fl.length) (l₂:=iq os 1 os.length);refine q.trans ?_;rw[IN,IN,IN]
theorem Nv {l m:List Int}(hm:m.Nodup)(hs:∀ v∈l,v∈m):(∀ v∈m,l.count v=1)↔l.Nodup/\l.length=m.length:=by
 constructor
 ·intro h;have nd:l.Nodup:=af1.2 (fun v=>by
   by_cases c:v∈l
   ·rw[h v (hs v c)];exact No _
   ·rw[agi.2 c];omega)
  refine⟨nd,?_⟩;have p:l.Perm m:=by
   rw[List.perm_ext_iff_of_nodup nd hm];intro v;refine⟨hs v,fun hv=>?_⟩;have:=h v hv;exact agj.1 (by omega)
  exact p.length_eq
 ·rintro⟨nd,len⟩ v hv;have hv':v∈l:=by
   by_cases c:v∈l;exact c
   ·exfalso;have q:=afh (l₁:=v::l) (l₂:=m) (List.nodup_cons.2 ⟨c,nd⟩) (fun y hy=>by
     rcases acZ.1 hy with rfl|hy;exact hv
     ·exact hs y hy)
    rw[ac7]at q;omega
  have p1:=af1.1 nd v;have p2:=agj.2 hv';omega
theorem gS {p:Int->Bool}{n:Nat}(h:cF p n=true):∀ k:Nat,k<n->p k=true:=fun k hk=>cJ.1 h k (by omega) (by omega)
theorem Qg {c:Int}:cF (J7 sp lg qs c) qs.length=(cF (qA sp lg qs) qs.length&&cF (sA qs c) qs.length):=by
 refine gY ?_;rw[AI,cJ,cJ,cJ];unfold upto J7
 constructor
 ·intro h;refine⟨fun j h0 h1=>?_,fun j h0 h1=>?_⟩
  ·have:=h j h0 h1;rw[AI]at this;exact this.1
  ·have:=h j h0 h1;rw[AI]at this;exact this.2
 ·rintro⟨h,g⟩ j h0 h1;rw[h j h0 h1,g j h0 h1];rfl
theorem Jp {nx c:Int}(hl:layOk sp lg=true)(ho:objOk sp lg os cs nx=true):hoI sp lg os cs b x qs c=(hoS sp lg os cs b x qs&&cF (sA qs c) qs.length):=by
 unfold hoI hoS;rw[Qg];by_cases h1:cF (iA sp lg cs) cs.length=true
 case neg=>rw[aer]at h1;rw[h1];rfl
 by_cases h2:cF (qA sp lg qs) qs.length=true
 case neg=>rw[aer]at h2;rw[h2];simp
 by_cases h3:cF (jA sp lg (ifL b x) (-1)) (ifL b x).length=true
 case neg=>rw[aer]at h3;rw[h3];simp
 have sub:∀ v∈PL os cs qs (ifL b x),v∈Ve sp lg:=by
  intro v hv;rw[P2 hl];unfold PL at hv;rw[If,If,If]at hv;rcases hv with((hv|hv)|hv)|hv
  ·obtain⟨i,i1,hv⟩:=EU.1 hv;obtain⟨k,k1,hv⟩:=EV.1 hv;obtain⟨j,j1,rfl⟩:=rA.1 hv;have q1:=gS h1 i i1;have q2:=gS q1 k k1;have q3:=gS q2 j j1;exact Mw hl q3
  ·obtain⟨j,j1,rfl⟩:=rA.1 hv;exact Mw hl (gS h2 j j1)
  ·obtain⟨j,j1,rfl⟩:=rA.1 hv;exact Mw hl (gS h3 j j1)
  ·obtain⟨j,j1,rfl⟩:=rA.1 hv;have q:=gS ho j j1;unfold Dl at q;simp only[AI]at q;exact Zf hl q.2.2.2.2
 have key:=Nv Vr sub;have e1:cF (Q5 (PL os cs qs (ifL b x)) (laL sp lg)) (laL sp lg).length=(decide (Hi os cs qs (ifL b x)).Nodup&&decide ((Hi os cs qs (ifL b x)).length=(laL sp lg).length)):=by
  refine gY ?_;rw[AI,decide_eq_true_eq,decide_eq_true_eq, <-JZ.nodup_iff, <-JZ.length_eq,YC hl,cg, <-key]
  constructor
  ·intro h v hv;obtain⟨n,n1,rfl⟩:=afa.1 hv;have q:=gS h n n1;unfold Q5 at q;rw[v6 n1,decide_eq_true_eq]at q;exact q
  ·intro h;rw[cJ];intro j h0 h1;have n1:j.toNat<(Ve sp lg).length:=by omega
   have q:=v6 n1;rw[IS h0]at q;unfold Q5;rw[q,decide_eq_true_eq];exact h _ (agx n1)
 rw[h1,h2,h3,e1];simp only[aeA];exact Bool.and_comm _ _
end
end Go.V
namespace Go.V
theorem Jz {n:Int}:∀ {es:aa},Wt es->∀ m,m∈pu (o6 es n (.v (.bool true)))↔m∈pu es\/m=n
 | [],_,m=>by
   show m∈pu [[.i n,.v (.bool true)]]↔_;simp[pu,kOf]
 | e::es,h,m=>by
   obtain⟨k,b,rfl⟩:=h e (by simp);have h':Wt es:=fun e he=>h e (by simp[he])
   have ih:=Jz (n:=n) h' m;rw[JP];by_cases c:k=n
   ·rw[if_pos c];subst c;show m∈k::pu es↔m∈k::pu es\/m=k;simp only[acZ]
    constructor;exact fun h=>.inl h
    ·rintro(h|h);exact h;exact .inl h
   ·rw[if_neg c];show m∈k::pu (o6 es n (.v (.bool true)))↔m∈k::pu es\/m=n;simp only[acZ,ih,or_assoc]
structure yS (es:aa)(l:List Int):Prop where
 s:rX es l
 k:∀ m,m∈pu es↔m∈l
theorem Zh :yS [] []:=⟨Iu,fun m=>Iff.rfl⟩
theorem NA {es:aa}{l:List Int}{n:Int}(h:yS es l):yS (o6 es n (.v (.bool true))) (l++[n]):=
 ⟨yM h.s,fun m=>by rw[Jz h.s.wf,h.k,If,ado]⟩
def yL (sp:aa)(i:Int):Bool:= !(decide (0<i)&&decide (ag sp i 0<=ag sp (i-1) 0))
def Un (es:aa)(p:Int):Bool:=decide ((fpg es p).length=1)
def EL (es lg:aa)(i:Int):Bool:=yL lg i&&cF (fun k=>Un es (ag lg i 0+k)) (ag lg i 1).toNat
def ownB (sp lg:aa)(p:Int):Bool:=decide (p∈Bd sp lg)
def mapB (es:aa)(p:Int):Bool:=decide (peM es p≠0)
def CW (es fr sp lg:aa)(p:Int):Bool:=(mapB es p==ownB sp lg p)&& !(rhB fr p==ownB sp lg p)
def Nu (es sp lg:aa):Bool:=decide (∀ p∈Bd sp lg,p<es.length)
def A8 (sp:aa)(i j:Int):Bool:=mshB (ag sp i 0) (ag sp i 1) (ag sp i 2) (ag sp j 0) (ag sp j 1) (ag sp j 2)
def Lc (es sp:aa)(i j:Int):Bool:= !decide (peF es (ag sp i 0)=peF es (ag sp j 0))||A8 sp i j
def OO (es sp:aa)(i:Int):Bool:=cF (Lc es sp i) i.toNat
def M9 (es sp:aa)(i k:Int):Bool:=decide (spI sp (ag (fpg es (ag sp i 0)) k 0)=i)||(decide (0<=spI sp (ag (fpg es (ag sp i 0)) k 0))&&A8 sp i (spI sp (ag (fpg es (ag sp i 0)) k 0)))
def msA (es sp:aa)(i:Int):Bool:=cF (M9 es sp i) (fpg es (ag sp i 0)).length
def pgI (es fr sp lg:aa):Bool:=cF (yL sp) sp.length&&(cF (EL es lg) lg.length&&(cF (CW es fr sp lg) es.length&&(Nu es sp lg&&cF (OO es sp) sp.length)))
def pgS (es fr sp lg:aa):Bool:=cF (yL sp) sp.length&&(cF (EL es lg) lg.length&&(Nu es sp lg&&cF (CW es fr sp lg) es.length))
def smS (es sp:aa):Bool:=cF (msA es sp) sp.length
section
variable {es fr sp lg m : aa} {i j k p : Int} {vs : List Int}
theorem Kj (h:0<i)(g:ag sp i 0<=ag sp (i-1) 0):yL sp i=false:=by unfold yL;rw[decide_eq_true h,decide_eq_true g];rfl
theorem Kk (h:i<=0):yL sp i=true:=by unfold yL;rw[decide_eq_false (by omega)];rfl
theorem Kl (h:ag sp (i-1) 0<ag sp i 0):yL sp i=true:=by unfold yL;rw[decide_eq_false (p:=ag sp i 0<=_) (by omega)];simp
theorem Zo (i0:0<=i)(i1:i<sp.length)(h:yL sp i=false):pgI es fr sp lg=false:=by unfold pgI;rw[bW i0 i1 h];rfl
theorem SD (i0:0<=i)(i1:i<lg.length)(h:EL es lg i=false):pgI es fr sp lg=false:=by unfold pgI;rw[bW i0 i1 h];simp
theorem SE (i0:0<=i)(i1:i<es.length)(h:CW es fr sp lg i=false):pgI es fr sp lg=false:=by unfold pgI;rw[bW i0 i1 h];simp
theorem Zp (h:Nu es sp lg=false):pgI es fr sp lg=false:=by unfold pgI;rw[h];simp
theorem Zq (i0:0<=i)(i1:i<sp.length)(h:OO es sp i=false):pgI es fr sp lg=false:=by unfold pgI;rw[bW i0 i1 h];simp
theorem ab5 {a b c d:Int}(h1:upto (yL sp) a)(g1:(sp.length:Int)<=a)(h2:upto (EL es lg) b)(g2:(lg.length:Int)<=b)(h3:upto (CW es fr sp lg) c)(g3:(es.length:Int)<=c)(h4:Nu es sp lg=true)(h5:upto (OO es sp) d)(g5:(sp.length:Int)<=d):pgI es fr sp lg=true:=by
 unfold pgI;rw[bN h1 g1,bN h2 g2,bN h3 g3,h4,bN h5 g5];rfl
theorem Zw (i0:0<=i)(i1:i<sp.length)(h:yL sp i=false):pgS es fr sp lg=false:=by unfold pgS;rw[bW i0 i1 h];rfl
theorem SF (i0:0<=i)(i1:i<lg.length)(h:EL es lg i=false):pgS es fr sp lg=false:=by unfold pgS;rw[bW i0 i1 h];simp
theorem SG (i0:0<=i)(i1:i<es.length)(h:CW es fr sp lg i=false):pgS es fr sp lg=false:=by unfold pgS;rw[bW i0 i1 h];simp
theorem Zx (h:Nu es sp lg=false):pgS es fr sp lg=false:=by unfold pgS;rw[h];simp
theorem ab7 {a b c:Int}(h1:upto (yL sp) a)(g1:(sp.length:Int)<=a)(h2:upto (EL es lg) b)(g2:(lg.length:Int)<=b)(h3:upto (CW es fr sp lg) c)(g3:(es.length:Int)<=c)(h4:Nu es sp lg=true):pgS es fr sp lg=true:=by
 unfold pgS;rw[bN h1 g1,bN h2 g2,bN h3 g3,h4];rfl
theorem R7 (h:yL lg i=false):EL es lg i=false:=by unfold EL;rw[h];rfl
theorem R8 (k0:0<=k)(k1:k<ag lg i 1)(h:(fpg es (ag lg i 0+k)).length≠1):EL es lg i=false:=by
 unfold EL;rw[bW (i:=k) (n:=(ag lg i 1).toNat) k0 (by omega) (show Un es (ag lg i 0+k)=false from decide_eq_false h),adN]
theorem YE (h:yL lg i=true)(g:upto (fun k=>Un es (ag lg i 0+k)) k)(k1:ag lg i 1<=k)(n0:0<=ag lg i 1):EL es lg i=true:=by
 unfold EL;rw[h,bN g (by omega)];rfl
theorem Rz (g:upto (fun k=>Un es (ag lg i 0+k)) k)(h:(fpg es (ag lg i 0+k)).length=1):upto (fun k=>Un es (ag lg i 0+k)) (k+1):=bj g (decide_eq_true h)
structure Wq (es sp lg:aa)(j:Int)(m:aa):Prop where
 ok:upto (EL es lg) j
 o:yS m (oJ sp sp.length++oI lg j.toNat)
structure Wp (es sp lg:aa)(j k:Int)(m:aa):Prop where
 ok:upto (EL es lg) j
 h:yL lg j=true
 g:upto (fun k=>Un es (ag lg j 0+k)) k
 o:yS m (oJ sp sp.length++oI lg j.toNat++rE (ag lg j 0) k.toNat)
theorem ab6 (h:yS m (oJ sp i.toNat))(i1:i<=sp.length)(i2:(sp.length:Int)<=i):Wq es sp lg 0 m:=⟨bM,by rw[show i.toNat=sp.length from by omega]at h;simpa[oI]using h⟩
theorem Zr (h:Wq es sp lg j m)(g:yL lg j=true):Wp es sp lg j (ag lg j 0-ag lg j 0) m:=by
 rw[Int.sub_self];exact⟨h.ok,g,bM,by simpa[rE]using h.o⟩
theorem Zt (h:Wp es sp lg j (p-ag lg j 0) m)(p0:ag lg j 0<=p)(g:(fpg es p).length=1):Wp es sp lg j (p+1-ag lg j 0) (o6 m p (.v (.bool true))):=by
 have e:ag lg j 0+(p-ag lg j 0)=p:=by omega
 rw[show p+1-ag lg j 0=(p-ag lg j 0)+1 from by omega];refine⟨h.ok,h.h,Rz h.g (by rw[e];exact g),?_⟩;rw[Be (by omega),e, <-IN];exact NA h.o
theorem Zs (p0:ag lg j 0<=p)(p1:p<ag lg j 0+ag lg j 1)(h:(fpg es p).length≠1):EL es lg j=false:=
 R8 (k:=p-ag lg j 0) (by omega) (by omega) (by rw[show ag lg j 0+(p-ag lg j 0)=p from by omega];exact h)
theorem Zu (h:Wp es sp lg j (p-ag lg j 0) m)(j0:0<=j)(n0:0<=ag lg j 1)(p1:p<=ag lg j 0+ag lg j 1)(p2:ag lg j 0+ag lg j 1<=p):Wq es sp lg (j+1) m:=by
 refine⟨bj h.ok (YE h.h h.g (by omega) n0),?_⟩;have o:=h.o;rw[show(p-ag lg j 0).toNat=(ag lg j 1).toNat from by omega,IN, <-sO j0]at o;exact o
theorem VA (h:Wq es sp lg j m)(j1:j<=lg.length)(j2:(lg.length:Int)<=j):yS m (Bd sp lg):=by
 have o:=h.o;rw[show j.toNat=lg.length from by omega]at o;exact o
theorem Zi (h:yS m (Bd sp lg))(p:Int):mgbI m p=ownB sp lg p:=by
 refine gY ?_;unfold ownB;rw[h.s.at_,decide_eq_true_eq]
theorem Rr (h:mapB es p≠ownB sp lg p):CW es fr sp lg p=false:=by unfold CW;rw[beq_eq_false_iff_ne.2 h];rfl
theorem Rs (h:rhB fr p=ownB sp lg p):CW es fr sp lg p=false:=by unfold CW;rw[h];simp
theorem Xy (h:mapB es p=ownB sp lg p)(g:rhB fr p≠ownB sp lg p):CW es fr sp lg p=true:=by unfold CW;rw[h,beq_eq_false_iff_ne.2 g];simp
theorem Uj (h:mapB es p=rhB fr p)(g:mapB es p=ownB sp lg p):CW es fr sp lg p=false:=Rs (by rw[<-h,g])
theorem Xz (h:mapB es p≠rhB fr p)(g:mapB es p=ownB sp lg p):CW es fr sp lg p=true:=Xy g (fun e=>h (by rw[g,e]))
theorem YW (p0:0<=p)(p1:p<es.length):dx .neq (ag es p 0) 0=mapB es p:=by rw[Eg];unfold mapB peM;rw[if_pos (by omega)]
theorem Zc (h:p∈Bd sp lg)(g:(es.length:Int)<=p):Nu es sp lg=false:=decide_eq_false (fun c=>by have:=c p h;omega)
theorem ab3 (o:yS m (Bd sp lg))(h:∀ k∈vs,k<es.length)(g:∀ k∈pu m,k∈vs):Nu es sp lg=true:=decide_eq_true (fun p hp=>h p (g p ((o.k p).2 hp)))
theorem aau {q:Int}(h:∀ k∈vs,k<(es.length:Int))(g:q<es.length):∀ k∈q::vs,k<(es.length:Int):=fun k hk=>by
 rcases acZ.1 hk with rfl|hk;exact g;exact h k hk
theorem abZ (j0:0<=j)(j1:j<i)(h:peF es (ag sp i 0)=peF es (ag sp j 0))(g:A8 sp i j=false):OO es sp i=false:=by
 unfold OO;exact bW j0 (by omega) (by unfold Lc;rw[g,decide_eq_true h];rfl)
theorem YS (h:peF es (ag sp i 0)≠peF es (ag sp j 0)):Lc es sp i j=true:=by unfold Lc;rw[decide_eq_false h];rfl
theorem YT (h:A8 sp i j=true):Lc es sp i j=true:=by unfold Lc;rw[h,agX]
theorem ab0 (h:upto (Lc es sp i) j)(g:i<=j)(i0:0<=i):OO es sp i=true:=by unfold OO;exact bN h (by omega)
structure OI (es sp lg:aa)(j:Int)(o:aa):Prop where
 ok:upto (EL es lg) j
 e:o=jc (oJ sp sp.length++oI lg j.toNat)
 l:(oI lg j.toNat).length<=64*j.toNat
structure TG (es sp lg:aa)(j k:Int)(o:aa):Prop where
 ok:upto (EL es lg) j
 h:yL lg j=true
 g:upto (fun k=>Un es (ag lg j 0+k)) k
 e:o=jc (oJ sp sp.length++oI lg j.toNat++rE (ag lg j 0) k.toNat)
 l:(oI lg j.toNat).length<=64*j.toNat
structure TH (sp:aa)(i:Int)(o:aa):Prop where
 ok:upto (yL sp) i
 e:o=jc (oJ sp i.toNat)
variable {o : aa}
theorem acl :TH sp 0 []:=⟨bM,rfl⟩
theorem acm (h:TH sp i o):o.length=i.toNat:=by rw[h.e,cg,rK]
theorem SL (h:TH sp i o)(i0:0<=i)(g:yL sp i=true):TH sp (i+1) (o++[[.i (ag sp i 0)]]):=⟨bj h.ok g,by rw[rh i0,ig, <-h.e];rfl⟩
theorem ach (h:TH sp i o)(i1:i<=sp.length)(i2:(sp.length:Int)<=i):OI es sp lg 0 o:=⟨bM,by rw[h.e,show i.toNat=sp.length from by omega];simp[oI],OF _⟩
theorem ZF (h:OI es sp lg j o)(g:yL lg j=true):TG es sp lg j 0 o:=⟨h.ok,g,bM,by rw[h.e];simp[rE],h.l⟩
theorem ZG (h:TG es sp lg j k o)(k0:0<=k)(g:(fpg es (ag lg j 0+k)).length=1):TG es sp lg j (k+1) (o++[[.i (ag lg j 0+k)]]):=
 ⟨h.ok,h.h,Rz h.g g,by rw[Be k0, <-IN,ig, <-h.e];rfl,h.l⟩
theorem ZI (h:TG es sp lg j k o)(j0:0<=j)(n0:0<=ag lg j 1)(n1:ag lg j 1<=64)(k1:k<=ag lg j 1)(k2:ag lg j 1<=k):OI es sp lg (j+1) o:=by
 have l:=h.l;refine⟨bj h.ok (YE h.h h.g k2 n0),?_,?_⟩
 ·rw[h.e,show k.toNat=(ag lg j 1).toNat from by omega,IN, <-sO j0]
 ·rw[sO j0,AT,uD];omega
theorem acg (h:TG es sp lg j k o)(k1:k<=64):o.length<=sp.length+64*j.toNat+64:=by
 have l:=h.l;rw[h.e,cg,AT,AT,rK,uD];omega
theorem Qf (h:OI es sp lg j o)(j1:j<=lg.length)(j2:(lg.length:Int)<=j):o=jc (Bd sp lg):=by
 have e:=h.e;rw[show j.toNat=lg.length from by omega]at e;exact e
theorem SB (hl:layOk sp lg=true){x:Int}(h:x∈Bd sp lg):0<=x/\x<=31:=by
 have F:=Vf hl;unfold Bd at h;rw[If,rB,uv]at h;rcases h with⟨i,i1,e⟩|⟨j,j1,e1,e2⟩
 ·have t:=nh (F.s i i1);omega
 ·have t:=oz (F.l j j1);have b:=na t.1;omega
theorem ZH (hl:layOk sp lg=true)(h:OI es sp lg j o)(j1:j<=lg.length)(j2:(lg.length:Int)<=j)(hs:sp.length<=1073741824)(hg:lg.length<=1073741824):Rw [tI] o:=by
 have l:=h.l;rw[Qf h j1 j2];refine v7 (fun x hx=>by have:=SB hl hx;omega) ?_;unfold Bd;rw[AT,rK];rw[show j.toNat=lg.length from by omega]at l;omega
theorem aci (h:OI es sp lg j o)(j1:j<=lg.length)(j2:(lg.length:Int)<=j)(i0:0<=i)(i1:i<o.length)(g:(es.length:Int)<=ag o i 0):Nu es sp lg=false:=by
 have e:=Qf h j1 j2;rw[e]at i1 g;obtain⟨v,q1,q2⟩:=E6 i0 i1;rw[q2]at g;exact Zc (acY q1) g
theorem ack (h:OI es sp lg j o)(j1:j<=lg.length)(j2:(lg.length:Int)<=j)(g:upto (fun t=>decide (ag o t 0<es.length)) i)(i2:(o.length:Int)<=i):Nu es sp lg=true:=by
 have e:=Qf h j1 j2;refine decide_eq_true (fun p hp=>?_);obtain⟨n,n1,rfl⟩:=afa.1 hp;have n2:n<o.length:=by rw[e,cg];exact n1
 have q:=g n (by omega) (by omega);rw[decide_eq_true_eq,e,v6 n1]at q;exact q
theorem acj (h:OI es sp lg j o)(j1:j<=lg.length)(j2:(lg.length:Int)<=j)(p:Int):hasB o p=ownB sp lg p:=by
 refine gY ?_;rw[Qf h j1 j2,ry];unfold ownB;rw[decide_eq_true_eq]
theorem Y3 (k0:0<=k)(k1:k<(fpg es (ag sp i 0)).length)(h:spI sp (ag (fpg es (ag sp i 0)) k 0)≠i)(g:spI sp (ag (fpg es (ag sp i 0)) k 0)<0):msA es sp i=false:=by
 unfold msA;exact bW k0 k1 (by unfold M9;rw[decide_eq_false h,decide_eq_false (by omega)];rfl)
theorem Y4 (k0:0<=k)(k1:k<(fpg es (ag sp i 0)).length)(h:spI sp (ag (fpg es (ag sp i 0)) k 0)≠i)(g:A8 sp i (spI sp (ag (fpg es (ag sp i 0)) k 0))=false):msA es sp i=false:=by
 unfold msA;exact bW k0 k1 (by unfold M9;rw[decide_eq_false h,g];simp)
theorem YU (h:spI sp (ag (fpg es (ag sp i 0)) k 0)=i):M9 es sp i k=true:=by unfold M9;rw[decide_eq_true h];rfl
theorem YV (h:0<=spI sp (ag (fpg es (ag sp i 0)) k 0))(g:A8 sp i (spI sp (ag (fpg es (ag sp i 0)) k 0))=true):M9 es sp i k=true:=by unfold M9;rw[decide_eq_true h,g];simp
theorem aah {p:Int}(h:0<=spI sp p):spI sp p<sp.length:=by
 obtain⟨b,_⟩:=nD h;exact b
theorem HB {a b:Int}:bR .and .i64 a b=bR .and .i64 b a:=by
 show aeE .i64 ((adG _ a&&&adG _ b).toNat)=aeE .i64 ((adG _ b&&&adG _ a).toNat);rw[BitVec.and_comm]
theorem Np :A8 sp i j=A8 sp j i:=by
 refine gY ?_;unfold A8 mshB;simp only[AI,decide_eq_true_eq];rw[HB (a:=ag sp i 2)]
 constructor
 ·rintro⟨a,b,c,d,e⟩;exact⟨b,a,c.symm,fun h=>d h.symm,e⟩
 ·rintro⟨a,b,c,d,e⟩;exact⟨b,a,c.symm,fun h=>d h.symm,e⟩
theorem E1 {es:aa}{f:Int}:∀ {n:Nat} {x:Int},hasB (ym es f n) x=true↔∃ k:Nat,k<n/\x=k/\ag es k 0≠0/\ag es k 1=f
 |0,x=>⟨fun h=>absurd (Da.1 h) (aed),fun⟨k,h,_⟩=>absurd h (ad8 _)⟩
 | n+1,x=>by
   by_cases c:ag es n 0≠0/\ag es n 1=f
   ·rw[J0 c.1 c.2,PG,adJ,E1,PH]
    constructor
    ·rintro(⟨k,h,e⟩|e);exact⟨k,by omega,e⟩;exact⟨n,by omega,e.symm,c⟩
    ·rintro⟨k,h,e,q⟩;by_cases d:k=n
     ·subst d;exact .inr e.symm
     ·exact .inl ⟨k,by omega,e,q⟩
   ·have c':ag es n 0=0\/ag es n 1≠f:=by
     by_cases z:ag es n 0=0;exact .inl z;exact .inr (fun e=>c ⟨z,e⟩)
    rw[NI c',E1]
    constructor
    ·rintro⟨k,h,e⟩;exact⟨k,by omega,e⟩
    ·rintro⟨k,h,e,q⟩;by_cases d:k=n
     ·subst d;exact absurd q c
     ·exact⟨k,by omega,e,q⟩
theorem yz {p x:Int}:hasB (fpg es p) x=true↔peM es p≠0/\0<=x/\x<es.length/\peM es x≠0/\peF es x=peF es p:=by
 by_cases c:peM es p=0
 ·rw[Me c];exact⟨fun h=>absurd (Da.1 h) (aed),fun h=>absurd c h.1⟩
 ·rw[Ji c];unfold pagesOn;rw[E1]
  constructor
  ·rintro⟨k,h,rfl,q1,q2⟩;refine⟨c,by omega,by omega,?_,?_⟩
   ·unfold peM;rw[if_pos (by omega)];exact q1
   ·rw[show peF es k=ag es k 1 from by unfold peF;rw[if_pos (by omega)]];exact q2
  ·rintro⟨_,h0,h1,q1,q2⟩;refine⟨x.toNat,by omega,by omega,?_,?_⟩
   ·rw[IS h0];unfold peM at q1;rw[if_pos (by omega)]at q1;exact q1
   ·rw[IS h0];unfold peF at q2;rw[if_pos (c:=0<=x/\x<_) (by omega)]at q2;rw[q2];rfl
theorem Ew {l:aa}{x:Int}:hasB l x=true↔∃ k:Nat,k<l.length/\ag l k 0=x:=Jn
theorem NJ (hl:layOk sp lg=true):pgI es fr sp lg=(pgS es fr sp lg&&smS es sp):=by
 have F:=Vf hl;unfold pgI pgS;by_cases h1:cF (yL sp) sp.length=true
 case neg=>rw[aer]at h1;rw[h1];rfl
 by_cases h2:cF (EL es lg) lg.length=true
 case neg=>rw[aer]at h2;rw[h2];simp
 by_cases h3:cF (CW es fr sp lg) es.length=true
 case neg=>rw[aer]at h3;rw[h3];simp
 by_cases h4:Nu es sp lg=true
 case neg=>rw[aer]at h4;rw[h4];simp
 rw[h1,h2,h3,h4];simp only[aeA];have h4':=of_decide_eq_true h4;have mp:∀ q:Int,0<=q->q<es.length->(peM es q≠0↔q∈Bd sp lg):=by
  intro q q0 q1;have e:=cJ.1 h3 q q0 q1;unfold CW at e;simp only[AI,beq_iff_eq]at e;have e:=e.1;unfold mapB ownB at e
  constructor
  ·intro h;rw[decide_eq_true h]at e;exact of_decide_eq_true e.symm
  ·intro h;rw[decide_eq_true h]at e;exact of_decide_eq_true e
 have spg:∀ n:Nat,n<sp.length->ag sp n 0∈Bd sp lg:=fun n hn=>If.2 (.inl (rB.2 ⟨n,hn,rfl⟩))
 have spm:∀ n:Nat,n<sp.length->0<=ag sp n 0/\ag sp n 0<es.length/\peM es (ag sp n 0)≠0:=by
  intro n hn;have b:=SB hl (spg n hn);have c:=h4' _ (spg n hn);exact⟨b.1,c,(mp _ b.1 c).2 (spg n hn)⟩
 have sat:∀ n:Nat,n<sp.length->spI sp (ag sp n 0)=n:=by
  intro n hn;have q:=uc (p:=isSp sp (ag sp n 0)) hn (Ay rfl);obtain⟨q1,q2⟩:=nD q;obtain⟨m,e⟩:=adf q;have e':spI sp (ag sp n 0)=m:=e;rw[e]at q1 q2;have:=F.ss m n (by omega) hn (of_decide_eq_true q2);rw[e',this]
 refine gY ?_;unfold smS;rw[cJ,cJ]
 constructor
 ·intro h i i0 i1;unfold msA;rw[cJ];intro k k0 k1;obtain⟨ii,rfl⟩:=adf i0;obtain⟨kk,rfl⟩:=adf k0;have hx:hasB (fpg es (ag sp ii 0)) (ag (fpg es (ag sp ii 0)) kk 0)=true:=Ew.2 ⟨kk,by omega,rfl⟩;generalize hX:ag (fpg es (ag sp ii 0)) kk 0=x at hx;obtain⟨c1,c2,c3,c4,c5⟩:=yz.1 hx;have hp:=(mp x c2 c3).1 c4;unfold Bd at hp;rw[If,rB,uv]at hp;unfold M9;rw[hX];rcases hp with⟨n,n1,rfl⟩|⟨j,j1,e1,e2⟩
  ·rw[sat n n1];rcases afw n ii with c|c|c
   ·have q:=cJ.1 (h ii (by omega) i1) n (by omega) (by omega);unfold Lc at q;rw[c5,decide_eq_true rfl]at q;rw[show A8 sp ii n=true from by simpa using q,decide_eq_true (p:=(0:Int)<=n) (by omega)];simp
   ·rw[c,decide_eq_true rfl];rfl
   ·have q:=cJ.1 (h n (by omega) (by omega)) ii (by omega) (by omega);unfold Lc at q;rw[c5,decide_eq_true rfl]at q;have q':A8 sp n ii=true:=by simpa using q
    rw[Np,q',decide_eq_true (p:=(0:Int)<=n) (by omega)];simp
  ·exfalso;have t:=oz (F.l j j1);have b:=na t.1;have q:=gS h2 j j1;unfold EL at q;simp only[AI]at q;have q2:=cJ.1 q.2 (x-ag lg j 0) (by omega) (by omega);rw[show ag lg j 0+(x-ag lg j 0)=x from by omega]at q2;have q3:=of_decide_eq_true q2;have s1:=spm ii (by omega);have a1:hasB (fpg es x) x=true:=yz.2 ⟨c4,c2,c3,c4,rfl⟩;have a2:hasB (fpg es x) (ag sp ii 0)=true:=yz.2 ⟨c4,s1.1,s1.2.1,s1.2.2,c5.symm⟩;obtain⟨u,u1,u2⟩:=Ew.1 a1;obtain⟨v,v1,v2⟩:=Ew.1 a2;have:u=v:=by omega
   subst this;rw[u2]at v2;exact F.sl ii j (by omega) j1 (by omega) (by omega)
 ·intro h i i0 i1;unfold OO;rw[cJ];intro j j0 j1;obtain⟨ii,rfl⟩:=adf i0;obtain⟨jj,rfl⟩:=adf j0;unfold Lc;by_cases c:peF es (ag sp ii 0)=peF es (ag sp jj 0)
  case neg=>rw[decide_eq_false c];rfl
  have s1:=spm ii (by omega);have s2:=spm jj (by omega);have a:hasB (fpg es (ag sp ii 0)) (ag sp jj 0)=true:=yz.2 ⟨s1.2.2,s2.1,s2.2.1,s2.2.2,c.symm⟩;obtain⟨k,k1,k2⟩:=Ew.1 a;have q:=h ii (by omega) i1;unfold msA at q;have q:=gS q k k1;unfold M9 at q;rw[k2,sat jj (by omega),decide_eq_false (p:=(jj:Int)=ii) (by omega)]at q;simp only[Bool.false_or,AI]at q;rw[q.2,agX]
end
end Go.V
namespace Go.V
def jobZ (k m:Int)(cs:aa)(ph nx:Int):Bool:=decide (ph=0)&&(decide (nx=0)&&(decide (k=0)&&(decide (m=0)&&decide (cs.length=0))))
def AX (sp:aa)(me:Bool)(k m:Int)(cs:aa)(ph nx:Int):Bool:=
 bif me then(jbOk k m cs ph nx&&(decide (0<=spI sp k)&&decide (0<=spI sp m)))else jobZ k m cs ph nx
def Rb (cs:aa)(i:Int):Bool:=caOk (ap cs i 0)
def hpI (a0 a1 a2:aa)(a3:Int)(a4 a5 a6 a7 a8 a9 aA aB:aa)(aC:Int)(aD:aa)(aE aF aG aH:Int)(aI:Bool)(aJ aK:Int)(aL:aa)(aM aN:Int):Bool:=
 kerOk a0 a1 a2 a3 a4&&(rgOk a2.length a5&&(layOk a6 a7&&(pgI a2 a5 a6 a7&&(mailOk aA aB&&(decide (a9.length=aA.length)&&(quarOk aC aD&&(cF (Rb a9) a9.length&&
  (objOk a6 a7 a8 a9 aH&&(hoI a6 a7 a8 a9 aA aB aD aF&&(inR aE 0 1073741823&&(inR aF 0 1000000&&(inR aG 0 1000&&(inR aH 1 1000000&&AX a6 aI aJ aK aL aM aN)))))))))))))
structure HpN (a0 a1 a2 a4 a5 a6 a7 a8 a9 aA aB aD aL:aa):Prop where
 n:OZ a6 a7 a8 a9 aA aB aD
 c:Rw [.sl [tI]] a0
 u:Rw [tB] a1
 e:Rw [tI,tI] a2
 el:a2.length<=1073741824
 r:Rw [tI] a4
 f:Rw [tI,tI] a5
 fl:a5.length<=1073741824
 j:Rw [tI] aL
 jl:aL.length<=1073741824
section
variable {a0 a1 a2 : aa} {a3 : Int} {a4 a5 a6 a7 a8 a9 aA aB : aa} {aC : Int} {aD : aa} {aE aF aG aH : Int} {aI : Bool} {aJ aK : Int} {aL : aa} {aM aN : Int} {i : Int}
theorem XZ (h:kerOk a0 a1 a2 a3 a4=false):hpI a0 a1 a2 a3 a4 a5 a6 a7 a8 a9 aA aB aC aD aE aF aG aH aI aJ aK aL aM aN=false:=by unfold hpI;rw[h];simp
theorem X5 (h:rgOk a2.length a5=false):hpI a0 a1 a2 a3 a4 a5 a6 a7 a8 a9 aA aB aC aD aE aF aG aH aI aJ aK aL aM aN=false:=by unfold hpI;rw[h];simp
theorem X0 (h:layOk a6 a7=false):hpI a0 a1 a2 a3 a4 a5 a6 a7 a8 a9 aA aB aC aD aE aF aG aH aI aJ aK aL aM aN=false:=by unfold hpI;rw[h];simp
theorem UI (h:pgI a2 a5 a6 a7=false):hpI a0 a1 a2 a3 a4 a5 a6 a7 a8 a9 aA aB aC aD aE aF aG aH aI aJ aK aL aM aN=false:=by unfold hpI;rw[h];simp
theorem X1 (h:mailOk aA aB=false):hpI a0 a1 a2 a3 a4 a5 a6 a7 a8 a9 aA aB aC aD aE aF aG aH aI aJ aK aL aM aN=false:=by unfold hpI;rw[h];simp
theorem abK (h:decide (a9.length=aA.length)=false):hpI a0 a1 a2 a3 a4 a5 a6 a7 a8 a9 aA aB aC aD aE aF aG aH aI aJ aK aL aM aN=false:=by unfold hpI;rw[h];simp
theorem X4 (h:quarOk aC aD=false):hpI a0 a1 a2 a3 a4 a5 a6 a7 a8 a9 aA aB aC aD aE aF aG aH aI aJ aK aL aM aN=false:=by unfold hpI;rw[h];simp
theorem abJ (h:cF (Rb a9) a9.length=false):hpI a0 a1 a2 a3 a4 a5 a6 a7 a8 a9 aA aB aC aD aE aF aG aH aI aJ aK aL aM aN=false:=by unfold hpI;rw[h];simp
theorem UH (h:objOk a6 a7 a8 a9 aH=false):hpI a0 a1 a2 a3 a4 a5 a6 a7 a8 a9 aA aB aC aD aE aF aG aH aI aJ aK aL aM aN=false:=by unfold hpI;rw[h];simp
theorem UG (h:hoI a6 a7 a8 a9 aA aB aD aF=false):hpI a0 a1 a2 a3 a4 a5 a6 a7 a8 a9 aA aB aC aD aE aF aG aH aI aJ aK aL aM aN=false:=by unfold hpI;rw[h];simp
theorem X6 (h:inR aE 0 1073741823=false):hpI a0 a1 a2 a3 a4 a5 a6 a7 a8 a9 aA aB aC aD aE aF aG aH aI aJ aK aL aM aN=false:=by unfold hpI;rw[h];simp
theorem X8 (h:inR aF 0 1000000=false):hpI a0 a1 a2 a3 a4 a5 a6 a7 a8 a9 aA aB aC aD aE aF aG aH aI aJ aK aL aM aN=false:=by unfold hpI;rw[h];simp
theorem X9 (h:inR aG 0 1000=false):hpI a0 a1 a2 a3 a4 a5 a6 a7 a8 a9 aA aB aC aD aE aF aG aH aI aJ aK aL aM aN=false:=by unfold hpI;rw[h];simp
theorem Ya (h:inR aH 1 1000000=false):hpI a0 a1 a2 a3 a4 a5 a6 a7 a8 a9 aA aB aC aD aE aF aG aH aI aJ aK aL aM aN=false:=by unfold hpI;rw[h];simp
theorem RZ (h:(a9.length:Int)≠aA.length):hpI a0 a1 a2 a3 a4 a5 a6 a7 a8 a9 aA aB aC aD aE aF aG aH aI aJ aK aL aM aN=false:=abK (decide_eq_false (by omega))
theorem RV (i0:0<=i)(i1:i<a9.length)(h:caOk (ap a9 i 0)=false):hpI a0 a1 a2 a3 a4 a5 a6 a7 a8 a9 aA aB aC aD aE aF aG aH aI aJ aK aL aM aN=false:=abJ (bW i0 i1 h)
theorem MA (hk:kerOk a0 a1 a2 a3 a4=true)(hr:rgOk a2.length a5=true)(hl:layOk a6 a7=true)(hp:pgI a2 a5 a6 a7=true)(hm:mailOk aA aB=true)(hn:decide (a9.length=aA.length)=true)(hq:quarOk aC aD=true)(hc:cF (Rb a9) a9.length=true)(ho:objOk a6 a7 a8 a9 aH=true)(hh:hoI a6 a7 a8 a9 aA aB aD aF=true)(hs:inR aE 0 1073741823=true)(ht:inR aF 0 1000000=true)(hw:inR aG 0 1000=true)(hx:inR aH 1 1000000=true):hpI a0 a1 a2 a3 a4 a5 a6 a7 a8 a9 aA aB aC aD aE aF aG aH aI aJ aK aL aM aN=AX a6 aI aJ aK aL aM aN:=by unfold hpI;rw[hk,hr,hl,hp,hm,hn,hq,hc,ho,hh,hs,ht,hw,hx];rfl
structure HpT (a0 a1 a2:aa)(a3:Int)(a4 a5 a6 a7 a8 a9 aA aB:aa)(aC:Int)(aD:aa)(aE aF aG aH:Int)(aI:Bool)(aJ aK:Int)(aL:aa)(aM aN:Int):Prop where
 k:kerOk a0 a1 a2 a3 a4=true
 r:rgOk a2.length a5=true
 l:layOk a6 a7=true
 p:pgI a2 a5 a6 a7=true
 m:mailOk aA aB=true
 n:decide (a9.length=aA.length)=true
 q:quarOk aC aD=true
 c:cF (Rb a9) a9.length=true
 o:objOk a6 a7 a8 a9 aH=true
 h:hoI a6 a7 a8 a9 aA aB aD aF=true
 s:inR aE 0 1073741823=true
 t:inR aF 0 1000000=true
 w:inR aG 0 1000=true
 x:inR aH 1 1000000=true
 j:AX a6 aI aJ aK aL aM aN=true
theorem uj (h:hpI a0 a1 a2 a3 a4 a5 a6 a7 a8 a9 aA aB aC aD aE aF aG aH aI aJ aK aL aM aN=true):HpT a0 a1 a2 a3 a4 a5 a6 a7 a8 a9 aA aB aC aD aE aF aG aH aI aJ aK aL aM aN:=by
 unfold hpI at h;simp only[AI]at h;obtain⟨hk,hr,hl,hp,hm,hn,hq,hc,ho,hh,hs,ht,hw,hx,hj⟩:=h;exact⟨hk,hr,hl,hp,hm,hn,hq,hc,ho,hh,hs,ht,hw,hx,hj⟩
theorem R2 (h:jbOk aJ aK aL aM aN=false):false=AX a6 true aJ aK aL aM aN:=by unfold AX;rw[h];rfl
theorem R3 (h:spI a6 aJ<0):false=AX a6 true aJ aK aL aM aN:=by unfold AX;rw[decide_eq_false (p:=0<=spI a6 aJ) (by omega)];simp
theorem R4 (h:jbOk aJ aK aL aM aN=true)(g:0<=spI a6 aJ):dx .geq (spI a6 aK) 0=AX a6 true aJ aK aL aM aN:=by unfold AX;rw[h,decide_eq_true g];rfl
theorem aaj (h:cF (sA aD aF) aD.length=false)(hl:layOk a6 a7=true)(ho:objOk a6 a7 a8 a9 aH=true):hoI a6 a7 a8 a9 aA aB aD aF=false:=by rw[Jp hl ho,h,adN]
theorem X7 (i0:0<=i)(i1:i<aD.length)(h:aF<ag aD i 2)(hl:layOk a6 a7=true):hpI a0 a1 a2 a3 a4 a5 a6 a7 a8 a9 aA aB aC aD aE aF aG aH aI aJ aK aL aM aN=false:=by
 by_cases ho:objOk a6 a7 a8 a9 aH=true;exact UG (aaj (bW i0 i1 (by unfold sA;exact decide_eq_false (by omega))) hl ho);exact UH (by simpa using ho)
theorem X3 (hl:layOk a6 a7=true)(h:pgS a2 a5 a6 a7=false):hpI a0 a1 a2 a3 a4 a5 a6 a7 a8 a9 aA aB aC aD aE aF aG aH aI aJ aK aL aM aN=false:=UI (by rw[NJ hl,h];rfl)
theorem X2 (hl:layOk a6 a7=true)(h:smS a2 a6=false):hpI a0 a1 a2 a3 a4 a5 a6 a7 a8 a9 aA aB aC aD aE aF aG aH aI aJ aK aL aM aN=false:=UI (by rw[NJ hl,h,adN])
theorem XW (hl:layOk a6 a7=true)(ho:objOk a6 a7 a8 a9 aH=true)(h:hoS a6 a7 a8 a9 aA aB aD=false):hpI a0 a1 a2 a3 a4 a5 a6 a7 a8 a9 aA aB aC aD aE aF aG aH aI aJ aK aL aM aN=false:=UG (by rw[Jp hl ho,h];rfl)
theorem ab4 (hl:layOk a6 a7=true)(h:pgS a2 a5 a6 a7=true)(g:smS a2 a6=true):pgI a2 a5 a6 a7=true:=by rw[NJ hl,h,g];rfl
theorem abI (hl:layOk a6 a7=true)(ho:objOk a6 a7 a8 a9 aH=true)(h:hoS a6 a7 a8 a9 aA aB aD=true)(i2:(aD.length:Int)<=i)(g:upto (sA aD aF) i):hoI a6 a7 a8 a9 aA aB aD aF=true:=by rw[Jp hl ho,h,bN g i2];rfl
theorem acF (h:ag aD i 2<=aF):sA aD aF i=true:=decide_eq_true h
end
end Go.V
namespace Go.V
structure ObB (os:aa):Prop where
 w:Rw [tI,tI,tI,tI] os
 l:os.length<=1099511627776
 b:∀ i:Int,0<=i->i<os.length->0<=ag os i 1/\ag os i 1<=2000/\1<=ag os i 2/\ag os i 2<=1000
end Go.V
namespace Go.V
end Go.V
namespace Go.V
end Go.V
namespace Go.V
theorem Xu {sp lg:aa}{a:Int}(h:dnK sp lg a=1):dnI sp lg a=jk sp a/\0<=jk sp a/\jk sp a<sp.length/\FE (ag sp (jk sp a) 0) (ag sp (jk sp a) 1) (ag sp (jk sp a) 2) a=true:=by
 have q:0<=jk sp a:=by
  unfold dnK at h;by_cases w:0<=jk sp a;exact w
  ·rw[if_neg w]at h;split at h<;>omega
 have t:=nD q;change jk sp a<sp.length/\CE sp a (jk sp a)=true at t;exact⟨by unfold dnI;rw[if_pos q],q,t.1,Dt.1 t.2⟩
end Go.V
namespace Go.V
theorem O4 {a b:Int}:bR .and .i64 a b=(y7 a&&&y7 b).toInt:=Kt _
theorem WU {m:Nat}(h:m<65536):bR .and .i64 (m:Int) 1=((m%2:Nat):Int):=by
 rw[O4];have e:y7 (m:Int)&&&y7 1=BitVec.ofNat 64 (m%2):=by
  apply BitVec.eq_of_toNat_eq;unfold y7;rw[agk,aeN,aeB,aeB];show(m%18446744073709551616)&&&1=_;rw[Nat.and_one_is_mod];omega
 rw[e,afC (by rw[aeB];omega),aeB];omega
theorem aaf {n t:Nat}(ht:t<=15):Qs .shr .i64 (n:Int) (t:Int)=((n/2^t:Nat):Int):=by
 show Int.fdiv (n:Int) (2^(min (t:Int).toNat 64))=_;rw[show min (t:Int).toNat 64=t by omega,Int.fdiv_eq_ediv_of_nonneg _ (Int.le_of_lt (Int.pow_pos (by omega)))];rw[Int.natCast_ediv,Int.natCast_pow];rfl
theorem HQ {b:Int}{t:Nat}(hb:0<=b)(hb2:b<65536)(ht:t<=15):hsB b t=(y7 b).getLsbD t:=by
 obtain⟨n,rfl⟩:=adf hb;have hs:slB (n:Int) (t:Int)=true:=KY.2 ⟨by omega,by omega,by omega⟩;have hd:n/2^t<65536:=Nat.lt_of_le_of_lt (Nat.div_le_self _ _) (by omega);unfold hsB;rw[hs,aaf ht,WU hd];unfold y7;rw[aeN,afV,Nat.testBit_eq_decide_div_mod_eq];rw[decide_eq_true (show t<64 by omega)];simp only[aeA];by_cases c:n/2^t%2=1
 ·rw[decide_eq_true c,decide_eq_true (by omega)]
 ·rw[decide_eq_false c,decide_eq_false (by omega)]
theorem Fa {p k b:Int}(h:spOk p k b=true):0<=b/\b<65536:=by
 have t:=(nh h).2.2.2;unfold bmOk at t;simp only[AI,bP]at t;obtain⟨⟨n0,n1⟩,b0,b1⟩:=t;have q:(2:Int)^(slN k).toNat<=2^16:=by
  have:=Nat.pow_le_pow_right (n:=2) (by omega) (show(slN k).toNat<=16 by omega)
  exact_mod_cast this
 have:(2:Int)^16=65536:=rfl;omega
end Go.V
namespace Go.V
structure PgT (es fr sp lg:aa):Prop where
 l:∀ j:Nat,j<lg.length->∀ q:Int,ag lg j 0<=q->q<ag lg j 0+ag lg j 1->(fpg es q).length=1
 m:∀ q:Int,0<=q->q<es.length->(peM es q≠0↔q∈Bd sp lg)
 o:∀ q∈Bd sp lg,q<es.length
 c:∀ i j:Nat,i<sp.length->j<sp.length->peF es (ag sp i 0)=peF es (ag sp j 0)->ag sp i 1=ag sp j 1
end Go.V
namespace Go.V
def poN (sp lg fl:aa):Nat->Int
 |0=>0
 |n+1=>poN sp lg fl n+clsSz (ag sp (dnI sp lg (ag fl n 0)) 1)
def ocF (s:Int):Int:=if 0<=clsOf s then clsSz (clsOf s)else s
def ocN (os:aa):Nat->Int
 |0=>0
 |n+1=>ocN os n+ocF (ag os n 2)
end Go.V
namespace Go.V
end Go.V
namespace Go.V
def ceI (cs es:aa)(a:Int):Int:=ag (ap cs (peF es (a/16)) 0) (a%16) 0
def clN (cs es:aa)(a:Int):Nat->aa
 |0=>[]
 |n+1=>clN cs es a n++[[.i (ceI cs es (a+n))]]
structure ClP (cs es:aa)(a i:Int)(o:aa):Prop where
 e:o=clN cs es a i.toNat
structure ObC (cs es os:aa):Prop where
 b:ObB os
 f:∀ j:Int,0<=j->j<os.length->∀ i:Int,0<=i->i<ag os j 2->0<=peF es ((ag os j 1+i)/16)/\peF es ((ag os j 1+i)/16)<cs.length/\(ap cs (peF es ((ag os j 1+i)/16)) 0).length=16
end Go.V
namespace Go.V
end Go.V
namespace Go.V
def Qr (k b:Int):Nat->aa
 |0=>[]
 |n+1=>if hsB b ((n:Int)/clsSz k)=true then Qr k b n++[[.i n]]else Qr k b n
def VU (p k b:Int):aa:=if spOk p k b=true then Qr k b 16 else[]
structure acU (k b i:Int)(o:aa):Prop where
 e:o=Qr k b i.toNat
def scS (sp:aa):Nat->Int
 |0=>0
 |n+1=>scS sp n+(VU (ag sp n 0) (ag sp n 1) (ag sp n 2)).length
def lgS (lg:aa):Nat->Int
 |0=>0
 |n+1=>lgS lg n+ag lg n 2
def T4 (ls:aa):Nat->Int
 |0=>0
 |n+1=>T4 ls n+(ap ls n 0).length*clsSz n
end Go.V
namespace Go.V
structure MkP (f:Int->Bool)(o:aa):Prop where
 w:Rw [tB] o
 l:o.length=16
 v:∀ c:Int,0<=c->c<16->uX o c 0=f c
end Go.V
namespace Go.V
theorem Cv {ls:aa}(h:caOk ls=true):ls.length=4/\∀ n:Nat,n<4->(ap ls n 0).length<=8:=by
 unfold caOk at h;simp only[AI,decide_eq_true_eq]at h;refine⟨h.1,fun n hn=>?_⟩;have t:=cJ.1 h.2.1 n (by omega) (by omega);unfold OL at t;simp only[AI,decide_eq_true_eq]at t;exact t.1
def ceC (ls:aa):Int:=if caOk ls=true then T4 ls ls.length else 0
structure acR (ls:aa)(i t:Int):Prop where
 e:t=T4 ls i.toNat
def acN (cs:aa):Nat->Int
 |0=>0
 |n+1=>acN cs n+ceC (ap cs n 0)
structure AcP (cs:aa)(i t:Int):Prop where
 e:t=acN cs i.toNat
structure OcP (os:aa)(i t:Int):Prop where
 e:t=ocN os i.toNat
structure PoP (sp lg fl:aa)(i t:Int):Prop where
 e:t=poN sp lg fl i.toNat
structure acV (sp:aa)(i t:Int):Prop where
 e:t=scS sp i.toNat
structure acT (sp lg:aa)(i t:Int):Prop where
 e:t=scS sp sp.length+lgS lg i.toNat
def zlI (es:aa):Int:=es.length
end Go.V
namespace Go.V
section
variable {r0 r1 r2 r3 r4 r5 r6 r7 r8 r9 r10 r11 r12 : aa}
theorem Aq {n:Nat}(h:aQ [r0,r1,r2,r3,r4,r5,r6,r7,r8,r9,r10,r11,r12]<=n):ak r0<=n/\ak r1<=n/\ak r2<=n/\ak r3<=n/\ak r4<=n/\ak r5<=n/\ak r6<=n/\ak r7<=n/\ak r8<=n/\ak r9<=n/\ak r10<=n/\ak r11<=n/\ak r12<=n:=⟨gj h (by simp),gj h (by simp),gj h (by simp),gj h (by simp),gj h (by simp),gj h (by simp),gj h (by simp),gj h (by simp),gj h (by simp),gj h (by simp),gj h (by simp),gj h (by simp),gj h (by simp)⟩
theorem Ni (h0:Rw [.sl [tI]] r0)(h1:Rw [tB] r1)(h2:Rw [tI,tI] r2)(h3:Rw [tI] r3)(h4:Rw [tI,tI] r4)(h5:Rw [tI,tI,tI] r5)(h6:Rw [tI,tI,tI] r6)(h7:Rw [tI,tI,tI,tI] r7)(h8:Rw [.sl [.sl [tI]]] r8)(h9:Rw [.sl [tI,tI]] r9)(h10:Rw [.sl [tI]] r10)(h11:Rw [tI,tI,tI] r11)(h12:Rw [tI] r12)(hc:aQ [r0,r1,r2,r3,r4,r5,r6,r7,r8,r9,r10,r11,r12]<=1099511627776):aw [r0,r1,r2,r3,r4,r5,r6,r7,r8,r9,r10,r11,r12] 1<=1152921504606846976:=Na (by intro r hr;simp only[acZ,aed,or_false]at hr;rcases hr with rfl|rfl|rfl|rfl|rfl|rfl|rfl|rfl|rfl|rfl|rfl|rfl|rfl;exact h0.marks (by decide);exact h1.marks (by decide);exact h2.marks (by decide);exact h3.marks (by decide);exact h4.marks (by decide);exact h5.marks (by decide);exact h6.marks (by decide);exact h7.marks (by decide);exact h8.marks (by decide);exact h9.marks (by decide);exact h10.marks (by decide);exact h11.marks (by decide);exact h12.marks (by decide)) hc
theorem YY (h0:Rw [.sl [tI]] r0)(h1:Rw [tB] r1)(h2:Rw [tI,tI] r2)(h3:Rw [tI] r3)(h4:Rw [tI,tI] r4)(h5:Rw [tI,tI,tI] r5)(h6:Rw [tI,tI,tI] r6)(h7:Rw [tI,tI,tI,tI] r7)(h8:Rw [.sl [.sl [tI]]] r8)(h9:Rw [.sl [tI,tI]] r9)(h10:Rw [.sl [tI]] r10)(h11:Rw [tI,tI,tI] r11)(h12:Rw [tI] r12)(hc:aQ [r0,r1,r2,r3,r4,r5,r6,r7,r8,r9,r10,r11,r12]<=1099511627776):aw [r0,r1,r2,r3,r4,r5,r6,r7,r8,r9,r10,r11,r12] 1<=1152921504606846976/\(aT r1 (aw [r0] 1)=aT r1 (aw [aT r0 1] 1)/\aT r2 (aw [r0,r1] 1)=aT r2 (aw [aT r0 1,aT r1 (aw [r0] 1)] 1)/\aT r3 (aw [r0,r1,r2] 1)=aT r3 (aw [aT r0 1,aT r1 (aw [r0] 1),aT r2 (aw [r0,r1] 1)] 1)/\aT r4 (aw [r0,r1,r2,r3] 1)=aT r4 (aw [aT r0 1,aT r1 (aw [r0] 1),aT r2 (aw [r0,r1] 1),aT r3 (aw [r0,r1,r2] 1)] 1)/\aT r5 (aw [r0,r1,r2,r3,r4] 1)=aT r5 (aw [aT r0 1,aT r1 (aw [r0] 1),aT r2 (aw [r0,r1] 1),aT r3 (aw [r0,r1,r2] 1),aT r4 (aw [r0,r1,r2,r3] 1)] 1)/\aT r6 (aw [r0,r1,r2,r3,r4,r5] 1)=aT r6 (aw [aT r0 1,aT r1 (aw [r0] 1),aT r2 (aw [r0,r1] 1),aT r3 (aw [r0,r1,r2] 1),aT r4 (aw [r0,r1,r2,r3] 1),aT r5 (aw [r0,r1,r2,r3,r4] 1)] 1)/\aT r7 (aw [r0,r1,r2,r3,r4,r5,r6] 1)=aT r7 (aw [aT r0 1,aT r1 (aw [r0] 1),aT r2 (aw [r0,r1] 1),aT r3 (aw [r0,r1,r2] 1),aT r4 (aw [r0,r1,r2,r3] 1),aT r5 (aw [r0,r1,r2,r3,r4] 1),aT r6 (aw [r0,r1,r2,r3,r4,r5] 1)] 1)/\aT r8 (aw [r0,r1,r2,r3,r4,r5,r6,r7] 1)=aT r8 (aw [aT r0 1,aT r1 (aw [r0] 1),aT r2 (aw [r0,r1] 1),aT r3 (aw [r0,r1,r2] 1),aT r4 (aw [r0,r1,r2,r3] 1),aT r5 (aw [r0,r1,r2,r3,r4] 1),aT r6 (aw [r0,r1,r2,r3,r4,r5] 1),aT r7 (aw [r0,r1,r2,r3,r4,r5,r6] 1)] 1)/\aT r9 (aw [r0,r1,r2,r3,r4,r5,r6,r7,r8] 1)=aT r9 (aw [aT r0 1,aT r1 (aw [r0] 1),aT r2 (aw [r0,r1] 1),aT r3 (aw [r0,r1,r2] 1),aT r4 (aw [r0,r1,r2,r3] 1),aT r5 (aw [r0,r1,r2,r3,r4] 1),aT r6 (aw [r0,r1,r2,r3,r4,r5] 1),aT r7 (aw [r0,r1,r2,r3,r4,r5,r6] 1),aT r8 (aw [r0,r1,r2,r3,r4,r5,r6,r7] 1)] 1)/\aT r10 (aw [r0,r1,r2,r3,r4,r5,r6,r7,r8,r9] 1)=aT r10 (aw [aT r0 1,aT r1 (aw [r0] 1),aT r2 (aw [r0,r1] 1),aT r3 (aw [r0,r1,r2] 1),aT r4 (aw [r0,r1,r2,r3] 1),aT r5 (aw [r0,r1,r2,r3,r4] 1),aT r6 (aw [r0,r1,r2,r3,r4,r5] 1),aT r7 (aw [r0,r1,r2,r3,r4,r5,r6] 1),aT r8 (aw [r0,r1,r2,r3,r4,r5,r6,r7] 1),aT r9 (aw [r0,r1,r2,r3,r4,r5,r6,r7,r8] 1)] 1)/\aT r11 (aw [r0,r1,r2,r3,r4,r5,r6,r7,r8,r9,r10] 1)=aT r11 (aw [aT r0 1,aT r1 (aw [r0] 1),aT r2 (aw [r0,r1] 1),aT r3 (aw [r0,r1,r2] 1),aT r4 (aw [r0,r1,r2,r3] 1),aT r5 (aw [r0,r1,r2,r3,r4] 1),aT r6 (aw [r0,r1,r2,r3,r4,r5] 1),aT r7 (aw [r0,r1,r2,r3,r4,r5,r6] 1),aT r8 (aw [r0,r1,r2,r3,r4,r5,r6,r7] 1),aT r9 (aw [r0,r1,r2,r3,r4,r5,r6,r7,r8] 1),aT r10 (aw [r0,r1,r2,r3,r4,r5,r6,r7,r8,r9] 1)] 1)/\aT r12 (aw [r0,r1,r2,r3,r4,r5,r6,r7,r8,r9,r10,r11] 1)=aT r12 (aw [aT r0 1,aT r1 (aw [r0] 1),aT r2 (aw [r0,r1] 1),aT r3 (aw [r0,r1,r2] 1),aT r4 (aw [r0,r1,r2,r3] 1),aT r5 (aw [r0,r1,r2,r3,r4] 1),aT r6 (aw [r0,r1,r2,r3,r4,r5] 1),aT r7 (aw [r0,r1,r2,r3,r4,r5,r6] 1),aT r8 (aw [r0,r1,r2,r3,r4,r5,r6,r7] 1),aT r9 (aw [r0,r1,r2,r3,r4,r5,r6,r7,r8] 1),aT r10 (aw [r0,r1,r2,r3,r4,r5,r6,r7,r8,r9] 1),aT r11 (aw [r0,r1,r2,r3,r4,r5,r6,r7,r8,r9,r10] 1)] 1))/\aw [aT r0 1,aT r1 (aw [r0] 1),aT r2 (aw [r0,r1] 1),aT r3 (aw [r0,r1,r2] 1),aT r4 (aw [r0,r1,r2,r3] 1),aT r5 (aw [r0,r1,r2,r3,r4] 1),aT r6 (aw [r0,r1,r2,r3,r4,r5] 1),aT r7 (aw [r0,r1,r2,r3,r4,r5,r6] 1),aT r8 (aw [r0,r1,r2,r3,r4,r5,r6,r7] 1),aT r9 (aw [r0,r1,r2,r3,r4,r5,r6,r7,r8] 1),aT r10 (aw [r0,r1,r2,r3,r4,r5,r6,r7,r8,r9] 1),aT r11 (aw [r0,r1,r2,r3,r4,r5,r6,r7,r8,r9,r10] 1),aT r12 (aw [r0,r1,r2,r3,r4,r5,r6,r7,r8,r9,r10,r11] 1)] 1=aw [r0,r1,r2,r3,r4,r5,r6,r7,r8,r9,r10,r11,r12] 1/\(ak r0<=1099511627776/\ak r1<=1099511627776/\ak r2<=1099511627776/\ak r3<=1099511627776/\ak r4<=1099511627776/\ak r5<=1099511627776/\ak r6<=1099511627776/\ak r7<=1099511627776/\ak r8<=1099511627776/\ak r9<=1099511627776/\ak r10<=1099511627776/\ak r11<=1099511627776/\ak r12<=1099511627776):=
 ⟨Ni h0 h1 h2 h3 h4 h5 h6 h7 h8 h9 h10 h11 h12 hc,⟨congrArg _ (eZ (rs:=[r0]) (k:=1) (k':=1)).symm,congrArg _ (eZ (rs:=[r0,r1]) (k:=1) (k':=1)).symm,congrArg _ (eZ (rs:=[r0,r1,r2]) (k:=1) (k':=1)).symm,congrArg _ (eZ (rs:=[r0,r1,r2,r3]) (k:=1) (k':=1)).symm,congrArg _ (eZ (rs:=[r0,r1,r2,r3,r4]) (k:=1) (k':=1)).symm,congrArg _ (eZ (rs:=[r0,r1,r2,r3,r4,r5]) (k:=1) (k':=1)).symm,congrArg _ (eZ (rs:=[r0,r1,r2,r3,r4,r5,r6]) (k:=1) (k':=1)).symm,congrArg _ (eZ (rs:=[r0,r1,r2,r3,r4,r5,r6,r7]) (k:=1) (k':=1)).symm,congrArg _ (eZ (rs:=[r0,r1,r2,r3,r4,r5,r6,r7,r8]) (k:=1) (k':=1)).symm,congrArg _ (eZ (rs:=[r0,r1,r2,r3,r4,r5,r6,r7,r8,r9]) (k:=1) (k':=1)).symm,congrArg _ (eZ (rs:=[r0,r1,r2,r3,r4,r5,r6,r7,r8,r9,r10]) (k:=1) (k':=1)).symm,congrArg _ (eZ (rs:=[r0,r1,r2,r3,r4,r5,r6,r7,r8,r9,r10,r11]) (k:=1) (k':=1)).symm⟩,eZ (rs:=[r0,r1,r2,r3,r4,r5,r6,r7,r8,r9,r10,r11,r12]) (k:=1) (k':=1),Aq hc⟩
end
end Go.V
namespace Go.V
def L1 (b x:aa)(f:Int):Bool:=mailOk b x&&(inR f 0 (b.length-1)&&decide (0<(ap b f 0).length))
def dlT (b:aa)(f:Int):Int:=ag (ap b f 0) 0 0
def dlB (b x:aa)(f:Int):aa:=if L1 b x f=true then b.set f.toNat [.s 2 ((ap b f 0).drop 1)]else b
def dlI (b x:aa)(f:Int):aa:=if L1 b x f=true then x.set (dlT b f).toNat [.s 1 (ap x (dlT b f) 0++[[.i (ag (ap b f 0) 0 1)]])]else x
structure DlT (b x:aa)(f:Int):Prop where
 m:mailOk b x=true
 f0:0<=f
 f1:f<b.length
 n:0<(ap b f 0).length
 t0:0<=dlT b f
 t1:dlT b f<b.length
 l:x.length=b.length
theorem LX {l:aa}{n:Nat}:ak (l.drop n)<=ak l:=by
 have h:=FW (a:=l.take n) (b:=l.drop n);rw[adi]at h;omega
def dvB (k:Bool)(b x:aa)(f:Int):aa:=if k=true then dlB b x f else b
def dvI (k:Bool)(b x:aa)(f:Int):aa:=if k=true then dlI b x f else x
def dvK (k:Bool)(b x:aa)(f:Int):Bool:=k&&L1 b x f
end Go.V
namespace Go.V
structure HsT (cs us es:aa)(a:Int):Prop where
 a0:0<=a
 m:WB cs us es a=peM es (a/16)
 f:smF cs us es a=peF es (a/16)
 n:WB cs us es a≠0
section
variable {a0 a1 a2 : aa} {a3 : Int} {a4 a5 a6 a7 a8 a9 aA aB : aa} {aC : Int} {aD : aa} {aE aF aG aH : Int} {aI : Bool} {aJ aK : Int} {aL : aa} {aM aN : Int}
end
end Go.V
namespace Go.V
abbrev Pr :=Int×Int
def Dd (o:List Pr)(x:Pr):List Pr:=match o.getLast? with
 |some y=>if y.1+y.2=x.1 then o.dropLast++[(y.1,y.2+x.2)]else o++[x]
 |none=>o++[x]
def jnL (l:List Pr):List Pr:=l.foldl Dd []
structure Ip where
 o:List Pr
 r:Pr
 d:Bool
def Dc (s:Ip)(x:Pr):Ip:=
 if x.1+x.2=s.r.1 then⟨s.o,(x.1,x.2+s.r.2),s.d⟩
 else if s.r.1+s.r.2=x.1 then⟨s.o,(s.r.1,s.r.2+x.2),s.d⟩
 else if s.r.1<x.1/\s.d=false then⟨s.o++[s.r,x],s.r,true⟩
 else⟨s.o++[x],s.r,s.d⟩
def Ww (s:Ip):List Pr:=if s.d then s.o else s.o++[s.r]
def ipL (l:List Pr)(r:Pr):List Pr:=Ww (l.foldl Dc ⟨[],r,false⟩)
structure Sp where
 o:List Pr
 d:Bool
def uG (r:Pr)(s:Sp)(x:Pr):Sp:=if s.d=false/\r.1<x.1 then⟨s.o++[r]++[x],true⟩else⟨s.o++[x],s.d⟩
def Qn (r:Pr)(s:Sp):List Pr:=if s.d then s.o else s.o++[r]
def rsL (l:List Pr)(r:Pr):List Pr:=jnL (Qn r (l.foldl (uG r) ⟨[],false⟩))
def Ee :List Pr->Prop
 |[]=>True
 |[x]=>0<x.2
 |x::y::l=>0<x.2/\x.1+x.2<y.1/\Ee (y::l)
theorem Al {x:Pr}{l:List Pr}(h:Ee (x::l)):Ee l:=by
 cases l with
 |nil=>trivial
 |cons y l=>exact h.2.2
theorem Aj {x:Pr}{l:List Pr}(h:Ee (x::l)):0<x.2:=by
 cases l with
 |nil=>exact h
 |cons y l=>exact h.1
theorem Ak {x:Pr}:∀ {l:List Pr},Ee (x::l)->∀ y∈l,x.1+x.2<y.1
 |[],_,y,hy=>by cases hy
 | z::l,h,y,hy=>by
   rcases acZ.1 hy with rfl|hy;exact h.2.1
   ·have:=Ak h.2.2 y hy;have:=Aj h.2.2;have:=h.2.1;omega
theorem AV {o:List Pr}{x:Pr}(h:∀ y,o.getLast?=some y->y.1+y.2≠x.1):Dd o x=o++[x]:=by
 unfold Dd;split
 ·rename_i y e;rw[if_neg (h y e)]
 ·rfl
theorem EH {o:List Pr}{y x:Pr}(h:y.1+y.2=x.1):Dd (o++[y]) x=o++[(y.1,y.2+x.2)]:=by
 unfold Dd;rw[afb,ae4];simp only[Option.some_or,if_pos h,List.dropLast_concat]
theorem U0 {o:List Pr}{y x:Pr}(h:y.1+y.2≠x.1):Dd (o++[y]) x=o++[y]++[x]:=AV (by
 intro z hz;rw[afb,ae4]at hz;simp at hz;subst hz;exact h)
theorem AW :∀ {l o:List Pr} {y:Pr},Ee (y::l)->l.foldl Dd (o++[y])=o++[y]++l
 |[],o,y,_=>by simp
 | x::l,o,y,h=>by
   have e:y.1+y.2<x.1:=h.2.1;rw[adk,U0 (by omega),AW (Al h)];simp
theorem Js :∀ {l:List Pr} {o:List Pr} {r:Pr},(∀ y∈l,r.1+r.2<y.1/\r.1<y.1+y.2)->l.foldl Dc ⟨o,r,true⟩=⟨o++l,r,true⟩
 |[],o,r,_=>by simp
 | x::l,o,r,h=>by
   have e:=h x (by simp);rw[adk];have s:Dc ⟨o,r,true⟩ x=⟨o++[x],r,true⟩:=by
    unfold Dc;rw[if_neg (by show¬ x.1+x.2=r.1;omega),if_neg (by show¬ r.1+r.2=x.1;omega),if_neg (by simp)]
   rw[s,Js (fun y hy=>h y (by simp[hy]))];simp
theorem yx :∀ {l:List Pr},Ee l->∀ y∈l,0<y.2
 |[],_,y,hy=>by cases hy
 | x::l,h,y,hy=>by
   rcases acZ.1 hy with rfl|hy;exact Aj h;exact yx (Al h) y hy
theorem MO {l o:List Pr}{r x:Pr}(h:Ee (x::l))(e:r.1+r.2<x.1)(p:0<r.2):Ww ((x::l).foldl Dc ⟨o,r,false⟩)=o++[r]++(x::l):=by
 have q:=Aj h;have s:Dc ⟨o,r,false⟩ x=⟨o++[r,x],r,true⟩:=by
  unfold Dc;rw[if_neg (by show¬ x.1+x.2=r.1;omega),if_neg (by show¬ r.1+r.2=x.1;omega),if_pos (by exact⟨by show r.1<x.1;omega,rfl⟩)]
 rw[adk,s,Js (fun y hy=>by have:=Ak h y hy;have:=yx h y (by simp[hy]);constructor<;>omega)];simp[Ww]
theorem T5 {x y:Pr}{l:List Pr}(h:Ee (x::l))(p:0<y.2)(e:y.1+y.2=x.1+x.2):Ee (y::l):=by
 cases l with
 |nil=>exact p
 |cons z l=>exact⟨p,by have:=h.2.1;omega,h.2.2⟩
theorem Pj {y x:Pr}{l:List Pr}(h:Ee (x::l))(p:0<y.2)(e:y.1+y.2<x.1):Ee (y::x::l):=⟨p,e,h⟩
theorem Gn {l o:List Pr}{r:Pr}(h:Ee l)(p:0<r.2)(a:∀ y∈l,r.1+r.2<=y.1):Ww (l.foldl Dc ⟨o,r,false⟩)=l.foldl Dd (o++[r]):=by
 cases l with
 |nil=>rfl
 | cons x l=>
   have ax:=a x (by simp);by_cases e:r.1+r.2=x.1
   ·have q:=Aj h;have s:Dc ⟨o,r,false⟩ x=⟨o,(r.1,r.2+x.2),false⟩:=by
     unfold Dc;rw[if_neg (by show¬ x.1+x.2=r.1;omega),if_pos (by exact e)]
    rw[adk,adk,s,EH e];cases l with
    |nil=>rfl
    | cons y l=>
      have d:=h.2.1;rw[MO h.2.2 (by show r.1+(r.2+x.2)<y.1;omega) (by show 0<r.2+x.2;omega),AW (T5 h (by show 0<r.2+x.2;omega) (by show r.1+(r.2+x.2)=x.1+x.2;omega))]
   ·rw[MO h (by omega) p,AW (Pj h p (by omega))]
theorem Is {r:Pr}:∀ {l a:List Pr},Qn r (l.foldl (uG r) ⟨a,false⟩)=a++Qn r (l.foldl (uG r) ⟨[],false⟩)
 |[],a=>by simp[Qn]
 | x::l,a=>by
   have put:∀ (m b:List Pr),m.foldl (uG r) ⟨b,true⟩=⟨b++m,true⟩:=by
    intro m
    induction m with
    |nil=>intro b;simp
    | cons y m ih=>
      intro b;rw[adk,show uG r ⟨b,true⟩ y=⟨b++[y],true⟩from by unfold uG;rw[if_neg (by simp)],ih];simp
   rw[adk,adk];by_cases c:r.1<x.1
   ·rw[show uG r ⟨a,false⟩ x=⟨a++[r]++[x],true⟩from by unfold uG;rw[if_pos ⟨rfl,c⟩],show uG r ⟨[],false⟩ x=⟨[]++[r]++[x],true⟩from by unfold uG;rw[if_pos ⟨rfl,c⟩],put,put];simp[Qn]
   ·rw[show uG r ⟨a,false⟩ x=⟨a++[x],false⟩from by unfold uG;rw[if_neg (fun q=>c q.2)],show uG r ⟨[],false⟩ x=⟨[]++[x],false⟩from by unfold uG;rw[if_neg (fun q=>c q.2)],Is (a:=a++[x]),Is (a:=[]++[x])];simp
theorem GJ {r:Pr}{l:List Pr}(a:∀ y∈l,r.1<y.1):Qn r (l.foldl (uG r) ⟨[],false⟩)=r::l:=by
 cases l with
 |nil=>rfl
 | cons x l=>
   have put:∀ (m b:List Pr),m.foldl (uG r) ⟨b,true⟩=⟨b++m,true⟩:=by
    intro m
    induction m with
    |nil=>intro b;simp
    | cons y m ih=>
      intro b;rw[adk,show uG r ⟨b,true⟩ y=⟨b++[y],true⟩from by unfold uG;rw[if_neg (by simp)],ih];simp
   rw[adk,show uG r ⟨[],false⟩ x=⟨[]++[r]++[x],true⟩from by unfold uG;rw[if_pos ⟨rfl,a x (by simp)⟩],put];simp[Qn]
theorem N5 {r:Pr}(p:0<r.2):∀ {l o:List Pr},Ee l->(∀ x∈l,¬ (x.1<r.1+r.2/\r.1<x.1+x.2))->(∀ y,o.getLast?=some y->y.1+y.2<r.1/\∀ x∈l,y.1+y.2<x.1)->
 Ww (l.foldl Dc ⟨o,r,false⟩)=(Qn r (l.foldl (uG r) ⟨[],false⟩)).foldl Dd o
 | [],o,_,_,ho=>by
   show o++[r]=Dd o r;rw[AV (fun y hy=>by have:=(ho y hy).1;omega)]
 | x::l,o,h,no,ho=>by
   have nx:=no x (by simp);have px:=Aj h;by_cases c:r.1<x.1
   ·have af:∀ y∈x::l,r.1+r.2<=y.1:=fun y hy=>by
     have:=no y hy;have:=yx h y hy;rcases acZ.1 hy with rfl|q;omega
     ·have:=Ak h y q;omega
    rw[Gn h p af,GJ (fun y hy=>by have:=af y hy;omega),adk (a:=r),AV (x:=r) (fun y hy=>by have:=(ho y hy).1;omega)]
   ·have e:x.1+x.2<=r.1:=by omega
    have jx:Dd o x=o++[x]:=AV (fun y hy=>by have:=(ho y hy).2 x (by simp);omega);have af:∀ y∈l,x.1+x.2<y.1:=Ak h;rw[adk,adk (f:=uG r),show uG r ⟨[],false⟩ x=⟨[x],false⟩from by unfold uG;rw[if_neg (fun q=>c q.2)];rfl,Is (a:=[x]),ad6,adk,aew,jx];by_cases t:x.1+x.2=r.1
    ·rw[show Dc ⟨o,r,false⟩ x=⟨o,(x.1,x.2+r.2),false⟩from by unfold Dc;rw[if_pos (by exact t)]];have af2:∀ y∈l,r.1+r.2<=y.1:=fun y hy=>by
      have:=no y (by simp[hy]);have:=yx h y (by simp[hy]);have:=af y hy;omega
     rw[Gn (Al h) (by show 0<x.2+r.2;omega) (fun y hy=>by have:=af2 y hy;show x.1+(x.2+r.2)<=y.1;omega),GJ (fun y hy=>by have:=af y hy;omega),adk,EH t]
    ·rw[show Dc ⟨o,r,false⟩ x=⟨o++[x],r,false⟩from by unfold Dc;rw[if_neg (by exact t),if_neg (by show¬ r.1+r.2=x.1;omega),if_neg (fun q=>c q.1)]];exact N5 p (Al h) (fun y hy=>no y (by simp[hy])) (fun y hy=>by
      rw[afb,ae4]at hy;simp at hy;subst hy;exact⟨by omega,af⟩)
theorem ZU {r:Pr}{l:List Pr}(h:Ee l)(p:0<r.2)(no:∀ x∈l,¬ (x.1<r.1+r.2/\r.1<x.1+x.2)):ipL l r=rsL l r:=N5 p h no (fun y hy=>by cases hy)
end Go.V
namespace Go.V
structure BX (cs us es:aa):Prop where
 n0:1<=cs.length
 n1:cs.length<=32
 u:us.length=cs.length
 l:∀ i:Int,0<=i->i<cs.length->(ap cs i 0).length=16
 c:∀ i k:Int,0<=i->i<cs.length->0<=k->k<16->0<=ag (ap cs i 0) k 0/\ag (ap cs i 0) k 0<=999/\(uX us i 0=false->ag (ap cs i 0) k 0=0)
 e0:1<=es.length
 e1:es.length<=32
 e:∀ i:Int,0<=i->i<es.length->0<=ag es i 0/\ag es i 0<=2/\(ag es i 0=0->ag es i 1=0)/\(0<ag es i 0->0<=ag es i 1/\ag es i 1<cs.length)
 m:∀ i:Int,0<=i->i<cs.length->uX us i 0=gW es i
theorem Vj {cs us es:aa}(h:machOk cs us es=true):BX cs us es:=by
 obtain⟨h1,h2,h3⟩:=YX h;have a:=AD h1;have b:=BC h2;refine⟨a.2.1,a.2.2,a.1,fun i i0 i1=>XG h1 i0 i1,fun i k i0 i1 k0 k1=>?_,b.1,b.2,fun i i0 i1=>aan h2 i0 i1,h3⟩;have q:=h1;unfold framesOk at q;simp only[AI,decide_eq_true_eq]at q;have r:=cJ.1 q.2 i i0 i1;unfold ie at r;simp only[AI,decide_eq_true_eq]at r;have s:=cJ.1 r.2 k k0 (by omega);unfold nP at s;simp only[AI,adJ,decide_eq_true_eq]at s;have t:=bP.1 s.1;refine⟨t.1,t.2,fun f=>?_⟩;rcases s.2 with w|w
 ·rw[f]at w;cases w
 ·exact w
theorem Vk {cs us es:aa}(h:BX cs us es):machOk cs us es=true:=by
 have f:framesOk cs us=true:=Mg (i:=cs.length) (bP.2 ⟨by have:=h.n0;omega,by have:=h.n1;omega⟩) h.u (fun i i0 i1=>RB (k:=16) (h.l i i0 i1) (fun k k0 k1=>by
  have c:=h.c i k i0 i1 k0 k1;refine Re (bP.2 ⟨c.1,c.2.1⟩) ?_;cases q:uX us i 0 with
  |true=>exact .inl rfl
  |false=>exact .inr (c.2.2 q)) (aev _)) (aev _)
 have t:tableOk es us.length=true:=by
  rw[Oq (i:=es.length) (fun i i0 i1=>Tf (by have:=h.e i i0 i1;rw[h.u];exact this)) (aev _)];exact bP.2 ⟨by have:=h.e0;omega,by have:=h.e1;omega⟩
 exact H5 (i:=us.length) f t (fun i i0 i1=>Nc (h.m i i0 (by rw[h.u]at i1;exact i1))) (aev _)
theorem Ng {es:aa}{f:Int}:∀ {n:Nat},0<(ym es f n).length↔∃ i:Nat,i<n/\ag es i 0≠0/\ag es i 1=f
 |0=>⟨fun h=>absurd h (Nat.lt_irrefl _),fun⟨i,h,_⟩=>absurd h (by omega)⟩
 | n+1=>by
   by_cases c:ag es n 0≠0/\ag es n 1=f
   ·rw[ym,if_pos c,AT];exact⟨fun _=>⟨n,by omega,c⟩,fun _=>by simp only[ac7,ade];omega⟩
   ·rw[ym,if_neg c,Ng (n:=n)]
    constructor
    ·rintro⟨i,h,q⟩;exact⟨i,by omega,q⟩
    ·rintro⟨i,h,q⟩;by_cases z:i=n
     ·subst z;exact absurd q c
     ·exact⟨i,by omega,q⟩
theorem A1 {es:aa}{f:Int}:gW es f=true↔∃ i:Nat,i<es.length/\ag es i 0≠0/\ag es i 1=f:=ES.trans Ng
theorem AG {es:aa}{n i:Nat}{r:ay}(h:n<es.length):(es.set n r).getD i []=if i=n then r else es.getD i []:=by
 simp only[BY,List.getElem?_set];by_cases c:n=i
 ·subst c;rw[if_pos rfl,if_pos h,if_pos rfl];rfl
 ·rw[if_neg c,if_neg (Ne.symm c)]
theorem Uw {es:aa}{n i:Int}{r:ay}{j:Nat}(n0:0<=n)(n1:n<es.length)(i0:0<=i):ag (es.set n.toNat r) i j=if i=n then PY (r.getD j .g)else ag es i j:=by
 unfold ag;rw[AG (by omega)];by_cases c:i=n
 ·rw[if_pos (by omega),if_pos c]
 ·rw[if_neg (by omega),if_neg c]
theorem gbS {es:aa}{n i:Int}{r:ay}{j:Nat}(n0:0<=n)(n1:n<es.length)(i0:0<=i):uX (es.set n.toNat r) i j=if i=n then lfB (r.getD j .g)else uX es i j:=by
 unfold uX;rw[AG (by omega)];by_cases c:i=n
 ·rw[if_pos (by omega),if_pos c]
 ·rw[if_neg (by omega),if_neg c]
theorem gsS {es:aa}{n i:Int}{r:ay}{j:Nat}(n0:0<=n)(n1:n<es.length)(i0:0<=i):ap (es.set n.toNat r) i j=if i=n then Lb (r.getD j .g)else ap es i j:=by
 unfold ap;rw[AG (by omega)];by_cases c:i=n
 ·rw[if_pos (by omega),if_pos c]
 ·rw[if_neg (by omega),if_neg c]
def DC (es:aa)(p:Int):aa:=es.set p.toNat [.i 0,.i 0]
def dfU (us es:aa)(f:Int):aa:=if gW es f=true then us else us.set f.toNat [.v (.bool false)]
def dfC (cs es:aa)(f:Int):aa:=if gW es f=true then cs else cs.set f.toNat [.s 1 (pE 16 [.i 0])]
theorem PF {k:Int}(k0:0<=k)(k1:k<16):ag (pE 16 [.i 0]) k 0=0:=by
 show ag (adC 16 [L.i 0]) k 0=0;unfold ag;rw[BY (l:=adC _ _),List.getElem?_replicate,if_pos (by omega)];rfl
theorem Xq {cs us es es':aa}{f:Int}(h:BX cs us es)(f0:0<=f)(f1:f<cs.length)(l:es'.length=es.length) 
 (e:∀ i:Int,0<=i->i<es.length->0<=ag es' i 0/\ag es' i 0<=2/\(ag es' i 0=0->ag es' i 1=0)/\(0<ag es' i 0->0<=ag es' i 1/\ag es' i 1<cs.length))
 (m:∀ i:Int,0<=i->i<cs.length->i≠f->gW es' i=gW es i) (g:gW es' f=true->gW es f=true):BX (dfC cs es' f) (dfU us es' f) es':=by
 unfold dfC dfU;by_cases q:gW es' f=true
 ·rw[if_pos q,if_pos q];refine⟨h.n0,h.n1,h.u,h.l,h.c,by rw[l];exact h.e0,by rw[l];exact h.e1,fun i i0 i1=>e i i0 (by omega),fun i i0 i1=>?_⟩;by_cases c:i=f
  ·rw[c,q,h.m f f0 f1,g q]
  ·rw[m i i0 i1 c];exact h.m i i0 i1
 ·have hu:=h.u;rw[if_neg q,if_neg q];refine⟨by rw[adr];exact h.n0,by rw[adr];exact h.n1,by rw[adr,adr];exact h.u,fun i i0 i1=>?_,fun i k i0 i1 k0 k1=>?_,by rw[l];exact h.e0,by rw[l];exact h.e1,fun i i0 i1=>by rw[adr];exact e i i0 (by omega),fun i i0 i1=>?_⟩
  ·rw[adr]at i1;rw[gsS f0 f1 i0];split;rfl;exact h.l i i0 i1
  ·rw[adr]at i1;rw[gsS f0 f1 i0,gbS f0 (by omega) i0];split
   ·show 0<=ag (pE 16 [.i 0]) k 0/\ag (pE 16 [.i 0]) k 0<=999/\(_->ag (pE 16 [.i 0]) k 0=0);rw[PF k0 k1];exact⟨by omega,by omega,fun _=>rfl⟩
   ·exact h.c i k i0 i1 k0 k1
  ·rw[adr]at i1;rw[gbS f0 (by omega) i0];split
   ·rename_i c;subst c;show false=_;cases z:gW es' i with
    |false=>rfl
    |true=>exact absurd z q
   ·rename_i c;rw[m i i0 i1 c];exact h.m i i0 i1
theorem aar {cs us es:aa}{p:Int}(h:BX cs us es)(hp:peM es p≠0):BX (dfC cs (DC es p) (peF es p)) (dfU us (DC es p) (peF es p)) (DC es p):=by
 have pr:0<=p/\p<es.length:=by
  by_cases c:0<=p/\p<es.length;exact c;exact absurd (JY c).1 hp
 have em:peM es p=ag es p 0:=by unfold peM;rw[if_pos pr]
 have ef:peF es p=ag es p 1:=by unfold peF;rw[if_pos pr]
 rw[em]at hp;have ep:=h.e p pr.1 pr.2;have fr:=ep.2.2.2 (by omega);rw[ef];have z:∀ i:Int,0<=i->ag (DC es p) i 0=(if i=p then 0 else ag es i 0)/\ag (DC es p) i 1=if i=p then 0 else ag es i 1:=fun i i0=>⟨Uw pr.1 pr.2 i0,Uw pr.1 pr.2 i0⟩
 have lu:(DC es p).length=es.length:=adr;have mp:∀ f:Int,gW (DC es p) f=true↔∃ i:Nat,i<es.length/\(i:Int)≠p/\ag es i 0≠0/\ag es i 1=f:=fun f=>by
  rw[A1,lu]
  constructor
  ·rintro⟨i,i1,a,b⟩;rw[(z i (by omega)).1]at a;rw[(z i (by omega)).2]at b;by_cases c:(i:Int)=p
   ·rw[if_pos c]at a;exact absurd rfl a
   ·rw[if_neg c]at a b;exact⟨i,i1,c,a,b⟩
  ·rintro⟨i,i1,c,a,b⟩;exact⟨i,i1,by rw[(z i (by omega)).1,if_neg c];exact a,by rw[(z i (by omega)).2,if_neg c];exact b⟩
 refine Xq h fr.1 fr.2 lu (fun i i0 i1=>?_) (fun i i0 i1 ne=>?_) (fun q=>?_)
 ·rw[(z i i0).1,(z i i0).2];split;exact⟨by omega,by omega,fun _=>rfl,fun q=>by omega⟩;exact h.e i i0 i1
 ·rw[afJ,mp,A1]
  constructor
  ·rintro⟨i,i1,_,a,b⟩;exact⟨i,i1,a,b⟩
  ·rintro⟨k,k1,a,b⟩;refine⟨k,k1,fun c=>?_,a,b⟩;rw[c]at b;exact ne b.symm
 ·obtain⟨i,i1,_,a,b⟩:=(mp _).1 q;exact A1.2 ⟨i,i1,a,b⟩
end Go.V
namespace Go.V
theorem Zm {es:aa}{p:Int}(h:peM es p≠0):(0<=p/\p<es.length)/\peM es p=ag es p 0/\peF es p=ag es p 1:=by
 have pr:0<=p/\p<es.length:=by
  by_cases c:0<=p/\p<es.length;exact c;exact absurd (JY c).1 h
 exact⟨pr,by unfold peM;rw[if_pos pr],by unfold peF;rw[if_pos pr]⟩
def seE (es:aa)(p m f:Int):aa:=es.set p.toNat [.i m,.i f]
end Go.V
namespace Go.V
def acQ (e:ay):Pr:=(PY (e.getD 0 .g),PY (e.getD 1 .g))
def ni (es:aa):List Pr:=es.map acQ
def frP (p:Pr):ay:=[.i p.1,.i p.2]
def rowP (l:List Pr):aa:=l.map frP
theorem rM {es:aa}:(ni es).length=es.length:=aeG _
theorem uF {l:List Pr}:(rowP l).length=l.length:=aeG _
theorem fM {es:aa}{i:Int}(i0:0<=i)(i1:i<es.length):(ni es)[i.toNat]?=some (ag es i 0,ag es i 1):=by
 unfold ni ag;rw[List.getElem?_map,BY (l:=es),IT (by omega)];rfl
theorem QE {es:aa}{x:Pr}(h:x∈ni es):∃ i:Nat,i<es.length/\x=(ag es i 0,ag es i 1):=by
 obtain⟨i,hi,e⟩:=afi h;rw[rM]at hi;refine⟨i,hi,?_⟩;have q:=fM (es:=es) (i:=(i:Int)) (by omega) (by omega);rw[ac4,IT (by rw[rM];exact hi)]at q;rw[<-e];exact ad4 q
theorem yJ {l:List Pr}(h:∀ x∈l,(-9223372036854775808<=x.1/\x.1<=9223372036854775807)/\(-9223372036854775808<=x.2/\x.2<=9223372036854775807))(n:l.length<=maxLen):Rw [tI,tI] (rowP l):=⟨by rw[uF];exact n,fun e he=>by
 obtain⟨x,hx,rfl⟩:=adK.1 he;exact⟨⟨rfl,(h x hx).1⟩,⟨rfl,(h x hx).2⟩,trivial⟩⟩
theorem fH {a b:List Pr}:rowP (a++b)=rowP a++rowP b:=aeR
theorem LP :∀ {l:List Pr},(∀ x∈l,0<x.2)->(∀ i:Nat,i+1<l.length->∀ x y,l[i]?=some x->l[i+1]?=some y->x.1+x.2<y.1)->Ee l
 |[],_,_=>trivial
 |[x],h,_=>h x (by simp)
 |x::y::l,h,g=>⟨h x (by simp),g 0 (by simp) x y rfl rfl,LP (fun z hz=>h z (by simp[hz])) (fun i hi a b ha hb=>g (i+1) (by simp at hi ⊢;omega) a b (by simpa using ha) (by simpa using hb))⟩
structure OK (n:Int)(rs:aa):Prop where
 n0:1<=n
 n1:n<=32
 c:Ee (ni rs)
 b:∀ x∈ni rs,0<=x.1/\1<=x.2/\x.1+x.2<=n
theorem Bm {n:Int}{rs:aa}(h:rgOk n rs=true):OK n rs:=by
 unfold rgOk at h;rw[AI]at h;obtain⟨h1,h2⟩:=h;have r:=bP.1 h2;have at':∀ i:Int,0<=i->i<rs.length->(0<=ag rs i 0/\1<=ag rs i 1/\ag rs i 0+ag rs i 1<=n)/\(0<i->¬ ag rs i 0<=bR .add .i64 (ag rs (i-1) 0) (ag rs (i-1) 1)):=fun i i0 i1=>by
  have a:=cJ.1 h1 i i0 i1;unfold vX at a;simp only[AI,Bool.not_eq_true',Bool.and_eq_false_iff,decide_eq_false_iff_not]at a;have b:=a.1;unfold rngIn at b;simp only[AI]at b;have b1:=bP.1 b.1;have b2:=bP.1 b.2;refine⟨by omega,fun p=>?_⟩;rcases a.2 with q|q;exact absurd p q;exact q
 have bd:∀ x∈ni rs,0<=x.1/\1<=x.2/\x.1+x.2<=n:=fun x hx=>by
  obtain⟨i,hi,rfl⟩:=QE hx;exact(at' i (by omega) (by omega)).1
 refine⟨r.1,r.2,LP (fun x hx=>by have:=(bd x hx).2.1;omega) (fun i hi x y hx hy=>?_),bd⟩;rw[rM]at hi;have qx:=fM (es:=rs) (i:=(i:Int)) (by omega) (by omega);have qy:=fM (es:=rs) (i:=((i+1:Nat):Int)) (by omega) (by omega);rw[ac4]at qx qy;rw[hx]at qx;rw[hy]at qy;cases qx;cases qy;have a:=(at' ((i+1:Nat):Int) (by omega) (by omega)).2 (by omega);have b:=(at' (i:Int) (by omega) (by omega)).1;rw[show((i+1:Nat):Int)-1=(i:Int)by omega,bE (by omega)]at a;show ag rs i 0+ag rs i 1<_;omega
def FC (x r:Pr):Bool:=decide (x.1<r.1+r.2)&&decide (r.1<x.1+x.2)
def rpB (n:Int)(rs:aa)(a l:Int):Bool:=rgOk n rs&&(rngIn n a l&&(ni rs).all fun x=> !FC x (a,l))
def rpL (n:Int)(rs:aa)(a l:Int):aa:=if rpB n rs a l=true then rowP (ipL (ni rs) (a,l))else rs
structure HA (rs:aa)(a0 l0 i:Int)(o:aa)(a l:Int)(d:Bool):Prop where
 s:∃ o',o=rowP o'/\((ni rs).take i.toNat).foldl Dc ⟨[],(a0,l0),false⟩=⟨o',(a,l),d⟩
 n:∀ x∈(ni rs).take i.toNat,FC x (a0,l0)=false
 v:∀ x∈(ni rs).drop i.toNat,FC x (a,l)=FC x (a0,l0)
 b:0<=a/\1<=l/\a+l<=32
end Go.V
namespace Go.V
theorem FR :∀ {l:List Pr} {i:Nat} {y:Pr},Ee l->l[i]?=some y->∀ x∈l.drop (i+1),y.1+y.2<x.1
 |[],i,y,_,h=>by simp at h
 | z::l,0,y,c,h=>by
   simp at h;subst h;intro x hx;exact Ak c x (by simpa using hx)
 | z::l,i+1,y,c,h=>by
   intro x hx;exact FR (Al c) (by simpa using h) x (by simpa using hx)
theorem take_at {l:List Pr}{i:Int}{y:Pr}(i0:0<=i)(h:l[i.toNat]?=some y):l.take (i+1).toNat=l.take i.toNat++[y]:=by
 rw[show(i+1).toNat=i.toNat+1 by omega,List.take_add_one,h];rfl
theorem drop_at {l:List Pr}{i:Int}{y:Pr}(i0:0<=i)(h:l[i.toNat]?=some y):l.drop i.toNat=y::l.drop (i+1).toNat:=by
 rw[show(i+1).toNat=i.toNat+1 by omega];obtain⟨h1,h2⟩:=List.getElem?_eq_some_iff.1 h;rw[aez h1,h2]
theorem CB {x r:Pr}:FC x r=true↔x.1<r.1+r.2/\r.1<x.1+x.2:=by unfold FC;rw[AI,decide_eq_true_eq,decide_eq_true_eq]
section
variable {n : Int} {rs : aa} {a0 l0 i : Int} {o : aa} {a l : Int} {d : Bool}
theorem SQ (b:0<=a0/\1<=l0/\a0+l0<=32):HA rs a0 l0 0 [] a0 l0 false:=⟨⟨[],rfl,rfl⟩,fun x hx=>by simp at hx,fun _ _=>rfl,b⟩
theorem VN (T:OK n rs)(h:HA rs a0 l0 i o a l d)(i0:0<=i)(i1:i<rs.length)(x1:ag rs i 0<a+l)(x2:a<ag rs i 0+ag rs i 1):rpB n rs a0 l0=false:=by
 have e:=fM (es:=rs) i0 i1;have m:(ag rs i 0,ag rs i 1)∈(ni rs).drop i.toNat:=by rw[drop_at i0 e];simp
 have v:=h.v _ m;rw[CB.2 ⟨x1,x2⟩]at v;unfold rpB;have:((ni rs).all fun x=> !FC x (a0,l0))=false:=by
  rw[agp];exact⟨_,ad5 m,by rw[<-v];simp⟩
 rw[this];simp
theorem Kf (T:OK n rs)(h:HA rs a0 l0 i o a l d)(i0:0<=i)(i1:i<rs.length)(nov:¬ (ag rs i 0<a+l/\a<ag rs i 0+ag rs i 1)):
 (∀ x∈(ni rs).take (i+1).toNat,FC x (a0,l0)=false)/\(∀ x∈(ni rs).drop (i+1).toNat,ag rs i 0+ag rs i 1<x.1/\1<=x.2/\FC x (a,l)=FC x (a0,l0))/\(0<=ag rs i 0/\1<=ag rs i 1/\ag rs i 0+ag rs i 1<=32):=by
 have e:=fM (es:=rs) i0 i1;have m:(ag rs i 0,ag rs i 1)∈(ni rs).drop i.toNat:=by rw[drop_at i0 e];simp
 have v:=h.v _ m;have b:=T.b _ (ad5 m);have:=T.n1;refine⟨fun x hx=>?_,fun x hx=>?_,⟨b.1,b.2.1,by have:=b.2.2;omega⟩⟩
 ·rw[take_at i0 e]at hx;rcases If.1 hx with q|q;exact h.n x q
  ·rw[ado]at q;rw[q, <-v];cases z:FC (ag rs i 0,ag rs i 1) (a,l)with
   |false=>rfl
   |true=>exact absurd (CB.1 z) nov
 ·have c:=FR T.c e x (by rw[show(i+1).toNat=i.toNat+1 by omega]at hx;exact hx);have p:=T.b x (ad5 hx);exact⟨c,p.2.1,h.v x (by rw[drop_at i0 e];exact afj _ hx)⟩
theorem SR (T:OK n rs)(h:HA rs a0 l0 i o a l d)(i0:0<=i)(i1:i<rs.length)(nov:¬ (ag rs i 0<a+l/\a<ag rs i 0+ag rs i 1))(q:ag rs i 0+ag rs i 1=a):HA rs a0 l0 (i+1) o (ag rs i 0) (ag rs i 1+l) d:=by
 have e:=fM (es:=rs) i0 i1;obtain⟨h1,h2,h3⟩:=Kf T h i0 i1 nov;obtain⟨o',eo,es⟩:=h.s;have hb:=h.b;refine⟨⟨o',eo,?_⟩,h1,fun x hx=>?_,by omega⟩
 ·rw[take_at i0 e,ad6,es,adk,aew];unfold Dc;rw[if_pos (by exact q)]
 ·obtain⟨c1,c2,c3⟩:=h2 x hx;rw[<-c3,afJ,CB,CB]
  constructor<;>rintro⟨u,w⟩<;>constructor<;>(simp only at*;omega)
theorem SU (T:OK n rs)(h:HA rs a0 l0 i o a l d)(i0:0<=i)(i1:i<rs.length)(nov:¬ (ag rs i 0<a+l/\a<ag rs i 0+ag rs i 1))(p:ag rs i 0+ag rs i 1≠a)(q:a+l=ag rs i 0):HA rs a0 l0 (i+1) o a (l+ag rs i 1) d:=by
 have e:=fM (es:=rs) i0 i1;obtain⟨h1,h2,h3⟩:=Kf T h i0 i1 nov;obtain⟨o',eo,es⟩:=h.s;have hb:=h.b;refine⟨⟨o',eo,?_⟩,h1,fun x hx=>?_,by omega⟩
 ·rw[take_at i0 e,ad6,es,adk,aew];unfold Dc;rw[if_neg (by exact p),if_pos (by exact q)]
 ·obtain⟨c1,c2,c3⟩:=h2 x hx;rw[<-c3,afJ,CB,CB]
  constructor<;>rintro⟨u,w⟩<;>constructor<;>(simp only at*;omega)
theorem SV (T:OK n rs)(h:HA rs a0 l0 i o a l d)(i0:0<=i)(i1:i<rs.length)(nov:¬ (ag rs i 0<a+l/\a<ag rs i 0+ag rs i 1))(p:ag rs i 0+ag rs i 1≠a)(q:a+l≠ag rs i 0)(c:a<ag rs i 0)(hd:d=false):
 HA rs a0 l0 (i+1) (o++[[.i a,.i l],[.i (ag rs i 0),.i (ag rs i 1)]]) a l true:=by
 have e:=fM (es:=rs) i0 i1;obtain⟨h1,h2,h3⟩:=Kf T h i0 i1 nov;obtain⟨o',eo,es⟩:=h.s;refine⟨⟨o'++[(a,l),(ag rs i 0,ag rs i 1)],by rw[fH,eo];rfl,?_⟩,h1,fun x hx=>(h2 x hx).2.2,h.b⟩;rw[take_at i0 e,ad6,es,adk,aew];unfold Dc;rw[if_neg (by exact p),if_neg (by exact q),if_pos (by exact⟨c,hd⟩)]
theorem N6 (T:OK n rs)(h:HA rs a0 l0 i o a l d)(i0:0<=i)(i1:i<rs.length)(nov:¬ (ag rs i 0<a+l/\a<ag rs i 0+ag rs i 1))(p:ag rs i 0+ag rs i 1≠a)(q:a+l≠ag rs i 0)(c:¬ (a<ag rs i 0/\d=false)):
 HA rs a0 l0 (i+1) (o++[[.i (ag rs i 0),.i (ag rs i 1)]]) a l d:=by
 have e:=fM (es:=rs) i0 i1;obtain⟨h1,h2,h3⟩:=Kf T h i0 i1 nov;obtain⟨o',eo,es⟩:=h.s;refine⟨⟨o'++[(ag rs i 0,ag rs i 1)],by rw[fH,eo];rfl,?_⟩,h1,fun x hx=>(h2 x hx).2.2,h.b⟩;rw[take_at i0 e,ad6,es,adk,aew];unfold Dc;rw[if_neg (by exact p),if_neg (by exact q),if_neg (by exact c)]
theorem ZV (h:rgOk n rs=true)(g:rngIn n a0 l0=true)(nov:∀ x∈ni rs,FC x (a0,l0)=false):rpB n rs a0 l0=true/\rpL n rs a0 l0=rowP (ipL (ni rs) (a0,l0)):=by
 have e:rpB n rs a0 l0=true:=by
  unfold rpB;rw[h,g];simp only[aeA,aei];intro x hx;rw[nov x hx];rfl
 exact⟨e,by unfold rpL;rw[if_pos e]⟩
theorem GI (h:rpB n rs a0 l0=false):rpL n rs a0 l0=rs:=by unfold rpL;rw[h];rfl
theorem yK (hr:rgOk n rs=true)(g:rngIn n a0 l0=true)(h:HA rs a0 l0 i o a l d)(i1:(rs.length:Int)<=i):rpB n rs a0 l0=true/\rpL n rs a0 l0=if d=true then o else o++[[.i a,.i l]]:=by
 have tk:(ni rs).take i.toNat=ni rs:=adD (by rw[rM];omega);have hn:=h.n;obtain⟨o',eo,es⟩:=h.s;rw[tk]at hn es;obtain⟨e1,e2⟩:=ZV hr g hn;refine⟨e1,?_⟩;rw[e2];unfold ipL;rw[es,eo];unfold Ww;cases d with
 |true=>rfl
 |false=>rw[if_neg (by simp),if_neg (by simp),fH];rfl
structure BZ (rs:aa)(a0 l0 i:Int)(o:aa)(d:Bool):Prop where
 s:∃ o',o=rowP o'/\((ni rs).take i.toNat).foldl (uG (a0,l0)) ⟨[],false⟩=⟨o',d⟩
 n:∀ x∈(ni rs).take i.toNat,FC x (a0,l0)=false
 m:o.length<=2*i.toNat
theorem ZX :BZ rs a0 l0 0 [] false:=⟨⟨[],rfl,rfl⟩,fun x hx=>by simp at hx,No _⟩
theorem SX (h:BZ rs a0 l0 i o d)(i0:0<=i)(i1:i<rs.length)(nov:¬ (ag rs i 0<a0+l0/\a0<ag rs i 0+ag rs i 1)):∀ x∈(ni rs).take (i+1).toNat,FC x (a0,l0)=false:=fun x hx=>by
 have e:=fM (es:=rs) i0 i1;rw[take_at i0 e]at hx;rcases If.1 hx with q|q;exact h.n x q
 ·rw[ado]at q;rw[q];cases z:FC (ag rs i 0,ag rs i 1) (a0,l0)with
  |false=>rfl
  |true=>exact absurd (CB.1 z) nov
theorem VP (i0:0<=i)(i1:i<rs.length)(x1:ag rs i 0<a0+l0)(x2:a0<ag rs i 0+ag rs i 1):rpB n rs a0 l0=false:=by
 have e:=fM (es:=rs) i0 i1;unfold rpB;have:((ni rs).all fun x=> !FC x (a0,l0))=false:=by
  rw[agp];exact⟨_,acY e,by rw[CB.2 ⟨x1,x2⟩];simp⟩
 rw[this];simp
theorem ZY (h:BZ rs a0 l0 i o d)(i0:0<=i)(i1:i<rs.length)(nov:¬ (ag rs i 0<a0+l0/\a0<ag rs i 0+ag rs i 1))(hd:d=false)(c:a0<ag rs i 0):
 BZ rs a0 l0 (i+1) (o++[[.i a0,.i l0]]++[[.i (ag rs i 0),.i (ag rs i 1)]]) true:=by
 have e:=fM (es:=rs) i0 i1;obtain⟨o',eo,es⟩:=h.s;have m:=h.m;refine⟨⟨o'++[(a0,l0)]++[(ag rs i 0,ag rs i 1)],by rw[fH,fH,eo];rfl,?_⟩,SX h i0 i1 nov,by simp only[AT,ac7,ade];omega⟩;rw[take_at i0 e,ad6,es,adk,aew];unfold uG;rw[if_pos ⟨hd,c⟩]
theorem N8 (h:BZ rs a0 l0 i o d)(i0:0<=i)(i1:i<rs.length)(nov:¬ (ag rs i 0<a0+l0/\a0<ag rs i 0+ag rs i 1))(c:¬ (d=false/\a0<ag rs i 0)):
 BZ rs a0 l0 (i+1) (o++[[.i (ag rs i 0),.i (ag rs i 1)]]) d:=by
 have e:=fM (es:=rs) i0 i1;obtain⟨o',eo,es⟩:=h.s;have m:=h.m;refine⟨⟨o'++[(ag rs i 0,ag rs i 1)],by rw[fH,eo];rfl,?_⟩,SX h i0 i1 nov,by simp only[AT,ac7,ade];omega⟩;rw[take_at i0 e,ad6,es,adk,aew];unfold uG;rw[if_neg c]
theorem yO {l:List Pr}:ni (rowP l)=l:=by
 unfold ni rowP;rw[List.map_map];exact(List.map_congr_left fun x _=>rfl).trans (List.map_id l)
def jnR (rs:aa):aa:=rowP (jnL (ni rs))
theorem Kg (hr:rgOk n rs=true)(g:rngIn n a0 l0=true)(h:BZ rs a0 l0 i o d)(i1:(rs.length:Int)<=i):rpB n rs a0 l0=true/\rpL n rs a0 l0=jnR (if d=true then o else o++[[.i a0,.i l0]]):=by
 have tk:(ni rs).take i.toNat=ni rs:=adD (by rw[rM];omega);have hn:=h.n;obtain⟨o',eo,es⟩:=h.s;rw[tk]at hn es;obtain⟨e1,e2⟩:=ZV hr g hn;have T:=Bm hr;unfold rngIn at g;rw[AI]at g;have gl:=bP.1 g.1;refine⟨e1,?_⟩;rw[e2,ZU T.c (by show 0<l0;omega) (fun x hx q=>by have:=hn x hx;rw[CB.2 q]at this;cases this)];unfold jnR rsL;rw[es,eo];unfold Qn;cases d with
 |true=>rw[if_pos rfl,if_pos rfl,yO]
 |false=>rw[if_neg (by simp),if_neg (by simp),show rowP o'++[[.i a0,.i l0]]=rowP (o'++[(a0,l0)])from by rw[fH];rfl,yO]
end
end Go.V
namespace Go.V
theorem aat {o:aa}{n:Int}{x:Value}(h:Rw [tI,tI] o)(n0:0<=n)(n1:n<o.length):sW (.s 2 o) [(n.toNat,1)] [.v x]=o.set n.toNat [.i (ag o n 0),.v x]:=by
 show o.set n.toNat ((o.getD n.toNat []).take 1++[.v x]++(o.getD n.toNat []).drop (1+1))=_;rw[h.eta n0 n1];rfl
theorem aai {o:aa}{n:Int}{j:Nat}(h:Rw [tI,tI] o)(n0:0<=n)(n1:n<o.length)(hj:j<2):∃ rec o',bX (.s 2 o) [(n.toNat,j)]=some (rec,o')/\o'+1<=rec.length:=iu (by omega) (by
 rw[h.eta n0 n1];show j+1<=2;omega)
theorem U4 {o:aa}{n:Int}{j:Nat}(h:Rw [tI,tI] o)(n0:0<=n)(n1:n<o.length)(hj:j<2):∃ rec o',bX (L.s 2 o) [(n.toNat,j)]=some (rec,o')/\o'+[L.v (adg adl 0)].length<=rec.length/\aeT [L.v (adg adl 0)].length (aeU o' rec)=ou ah (L.s 2 o) [(n.toNat,j)] 0 [L.v (adg adl 0)]:=by
 rcases(show j=0\/j=1 by omega)with rfl|rfl
 ·exact kg (z0:=[.i 0,.i 0]) (z:=[.i 0]) h.wf (by omega) rfl (by decide)
 ·exact kg (z0:=[.i 0,.i 0]) (z:=[.i 0]) h.wf (by omega) rfl (by decide)
theorem ng {l:aa}{sz j:Nat}{i:Int}(h0:0<=i):SC (.s sz l) [(i.toNat,j)]=ag l i j:=by
 rw[Ii];unfold ag;rw[ac4]
theorem KV {f:List Pr}{y:Pr}(h:f.getLast?=some y):f=f.dropLast++[y]:=by
 cases f with
 |nil=>cases h
 | cons a f=>
   rw[List.getLast?_eq_some_getLast (by simp)]at h;cases h;exact(List.dropLast_concat_getLast (by simp)).symm
structure OU (rs:aa)(i:Int)(o:aa):Prop where
 s:o=rowP (((ni rs).take i.toNat).foldl Dd [])
 l:o.length<=i.toNat
section
variable {rs o : aa} {i : Int}
theorem Yq :OU rs 0 []:=⟨rfl,No _⟩
theorem MR (h:OU rs i o)(i0:0<=i)(i1:i<rs.length):(((ni rs).take (i+1).toNat).foldl Dd [])=Dd (((ni rs).take i.toNat).foldl Dd []) (ag rs i 0,ag rs i 1):=by
 rw[take_at i0 (fM i0 i1),ad6];rfl
theorem MQ (h:OU rs i o)(n:0<o.length):(((ni rs).take i.toNat).foldl Dd []).getLast?=some (ag o (o.length-1) 0,ag o (o.length-1) 1):=by
 have e:=h.s;have hl:o.length=(((ni rs).take i.toNat).foldl Dd []).length:=by rw[e,uF]
 have t:=fM (es:=o) (i:=o.length-1) (by omega) (by omega);have q:ni o=((ni rs).take i.toNat).foldl Dd []:=by rw[e,yO]
 rw[q]at t;rw[List.getLast?_eq_getElem?, <-hl, <-t]
 congr 1;omega
theorem Yr (h:OU rs i o)(i0:0<=i)(i1:i<rs.length)(n:0<o.length)(q:ag o (o.length-1) 0+ag o (o.length-1) 1=ag rs i 0):
 OU rs (i+1) (o.set (o.length-1:Int).toNat [.i (ag o (o.length-1) 0),.i (ag o (o.length-1) 1+ag rs i 1)]):=by
 have la:=MQ h n;have hl:=h.l;refine⟨?_,by rw[adr];omega⟩;rw[MR h i0 i1];have e:=h.s;generalize((ni rs).take i.toNat).foldl Dd []=f at la e;have fe:=KV la;generalize f.dropLast=g at fe;subst fe;rw[EH (by exact q),e,fH];have lg:((rowP g++rowP [(ag o (o.length-1) 0,ag o (o.length-1) 1)]).length-1:Int).toNat=(rowP g).length:=by
  rw[AT];show(((rowP g).length+1:Nat)-1:Int).toNat=_;omega
 have eo:o=rowP g++rowP [(ag o (o.length-1) 0,ag o (o.length-1) 1)]:=by rw[<-fH];exact e
 rw[<-fH, <-e,show(o.length-1:Int).toNat=(rowP g).length from by rw[show(o.length:Int)=((rowP g++rowP [(ag o (o.length-1) 0,ag o (o.length-1) 1)]).length:Int)from by rw[<-eo]];exact lg];rw[fH]
 conv=>lhs;arg 1;rw[eo]
 rw[List.set_append_right (h:=No _),afc];rfl
theorem Ys (h:OU rs i o)(i0:0<=i)(i1:i<rs.length)(q:(o.length:Int)<=0\/ag o (o.length-1) 0+ag o (o.length-1) 1≠ag rs i 0):
 OU rs (i+1) (o++[[.i (ag rs i 0),.i (ag rs i 1)]]):=by
 have hl:=h.l;refine⟨?_,by rw[AT];show _+1<=_;omega⟩;rw[MR h i0 i1,AV,fH, <-h.s];rfl;intro y hy;by_cases n:0<o.length
 ·rw[MQ h n]at hy;cases hy;rcases q with q|q;omega;exact q
 ·have:o=[]:=adM (by omega);have e:=h.s;rw[this]at e;have z:((ni rs).take i.toNat).foldl Dd []=[]:=by
   have:=congrArg List.length e;rw[uF]at this;exact adM (by simpa using this.symm)
  rw[z]at hy;cases hy
theorem Jx (h:OU rs i o)(i1:(rs.length:Int)<=i):o=jnR rs:=by
 rw[h.s,adD (by rw[rM];omega)];rfl
end
end Go.V
namespace Go.V
def WV (rs:aa)(n:Int):Nat->Int
 |0=> -1
 |k+1=>if n<=ag rs k 1/\(WV rs n k<0\/ag rs k 1<ag rs (WV rs n k) 1)then k else WV rs n k
def WC (rs:aa)(n:Int):Int:=WV rs n rs.length
structure BsP (rs:aa)(n i b:Int):Prop where
 e:b=WV rs n i.toNat
section
variable {rs : aa} {n i b : Int}
end
structure TkT (p:Int)(rs:aa)(n:Int):Prop where
 i0:0<=WC rs n
 i1:WC rs n<rs.length
 n0:1<=n
 a0:0<=ag rs (WC rs n) 0
 l0:n<=ag rs (WC rs n) 1
 e:ag rs (WC rs n) 0+ag rs (WC rs n) 1<=p
 p0:p<=32
end Go.V
namespace Go.V
def frN (b:Int):Nat->aa
 |0=>[]
 |k+1=>if hsB b k=true then frN b k else frN b k++[[.i k]]
structure FrP (b i:Int)(o:aa):Prop where
 e:o=frN b i.toNat
end Go.V
namespace Go.V
def clB (ls:aa)(k:Int):Bool:=inR k 0 3&&caOk ls
def CV (ls:aa)(k a:Int):aa:=ls.set k.toNat [.s 1 (ap ls k 0++[[.i a]])]
def rV (ls:aa)(k a:Int):Bool:=clB ls k&&caOk (CV ls k a)
def KC (ls:aa)(k a:Int):aa:=if rV ls k a=true then CV ls k a else ls
def Av (ls:aa)(k n:Int):Nat:=min n.toNat (ap ls k 0).length
def I4 (ls:aa)(k n:Int):Bool:=clB ls k&&decide (1<=n)
def clK (ls:aa)(k n:Int):aa:=if I4 ls k n=true then ls.set k.toNat [.s 1 ((ap ls k 0).drop (Av ls k n))]else ls
def clT (ls:aa)(k n:Int):aa:=if I4 ls k n=true then(ap ls k 0).take (Av ls k n)else[]
theorem Ap {ls:aa}{k:Int}(h:clB ls k=true):0<=k/\k<4/\ls.length=4/\(ap ls k 0).length<=8:=by
 unfold clB at h;rw[AI]at h;have r:=bP.1 h.1;have c:=Cv h.2;have d:=c.2 k.toNat (by omega);rw[IS r.1]at d;exact⟨r.1,by omega,c.1,d⟩
theorem Iw {ls r:aa}{k:Nat}(h:Rw [.sl [tI]] ls)(g:Rw [tI] r):Rw [.sl [tI]] (ls.set k [.s 1 r]):=Rw.set h (show cG [.sl [tI]] [.s 1 r]from⟨⟨rfl,g⟩,trivial⟩) _
theorem Km {ls r:aa}{k:Nat}:ak (ls.set k [.s 1 r])<=ak ls+ak r:=by
 have s:=tY (es:=ls) (n:=k) (e:=[.s 1 r]);have e:cS [.s 1 r]=ak r:=by simp only[cS,fQ,ak];omega
 omega
theorem LV {ls:aa}{k:Int}(h:Rw [.sl [tI]] ls)(g:clB ls k=true):Rw [tI] (ap ls k 0):=by
 have c:=Ap g;exact Rw.sub (fs:=[.sl [tI]]) (j:=0) (i:=k) h (by omega) rfl
theorem Xl {ls:aa}{k a:Int}(h:rV ls k a=false):KC ls k a=ls:=by unfold KC;rw[h];rfl
theorem Xm {ls:aa}{k a:Int}(h:rV ls k a=true):KC ls k a=CV ls k a:=by unfold KC;rw[if_pos h]
theorem Rk {ls:aa}{k a:Int}(h:Rw [.sl [tI]] ls)(g:clB ls k=true)(ha: -9223372036854775808<=a/\a<=9223372036854775807):Rw [.sl [tI]] (CV ls k a)/\ak (CV ls k a)<=2*ak ls+4:=by
 have c:=Ap g;have q:=LV h g;have s:=Km (ls:=ls) (k:=k.toNat) (r:=ap ls k 0++[[.i a]]);have e:=FW (a:=ap ls k 0) (b:=[[.i a]]);have o:ak [[L.i a]]<=4:=by simp[ak,bK,cS,fQ]
 have d:=jK (es:=ls) (i:=k) (j:=0);exact⟨Iw h (Rw.append q (ZZ ha) (by unfold maxLen;simp only[ac7,ade];omega)),by unfold CV;omega⟩
theorem I5 {ls:aa}{k n:Int}(h:I4 ls k n=false):clK ls k n=ls/\clT ls k n=[]:=by unfold clK clT;rw[h];exact⟨rfl,rfl⟩
theorem FU {ls:aa}{k n:Int}(h:I4 ls k n=true):clK ls k n=ls.set k.toNat [.s 1 ((ap ls k 0).drop (Av ls k n))]/\clT ls k n=(ap ls k 0).take (Av ls k n):=by unfold clK clT;rw[if_pos h,if_pos h];exact⟨rfl,rfl⟩
theorem T8 {ls:aa}{k n:Int}(h:Rw [.sl [tI]] ls):Rw [.sl [tI]] (clK ls k n)/\ak (clK ls k n)<=2*ak ls/\Rw [tI] (clT ls k n)/\(clT ls k n).length<=8:=by
 cases c:I4 ls k n with
 |false=>rw[(I5 c).1,(I5 c).2];exact⟨h,by omega,Rw.nil,OF _⟩
 | true=>
   have g:clB ls k=true:=by unfold I4 at c;rw[AI]at c;exact c.1
   rw[(FU c).1,(FU c).2];have q:=LV h g;have l:=Ap g;have a:=Km (ls:=ls) (k:=k.toNat) (r:=(ap ls k 0).drop (Av ls k n));have b:=LX (l:=ap ls k 0) (n:=Av ls k n);have d:=jK (es:=ls) (i:=k) (j:=0);exact⟨Iw h (Rw.drop q _),by omega,Rw.take q _,by rw[acX];omega⟩
end Go.V
namespace Go.V
def qdN :aa->Int->Nat
 |[],_=>0
 |e::l,r=>if qcI (e::l)<=r then 0 else qdN l r+1
structure QdP (l:aa)(r i:Int):Prop where
 e:i.toNat<=qdN l r
section
variable {l : aa} {r i : Int}
end
def Im :aa->Int->Nat
 |[],_=>0
 |e::l,t=>if PY (e.getD 2 .g)<t then Im l t+1 else 0
theorem NP :∀ {l:aa} {t:Int},Im l t<=l.length
 |[],t=>No _
 | e::l,t=>by
   have:=NP (l:=l) (t:=t);unfold Im;split
   ·rw[ac7];omega
   ·exact OF _
theorem SK :∀ {l:aa} {t:Int} {n:Nat},n<Im l t->ag l n 2<t
 |[],t,n,h=>absurd h (by show¬ n<0;omega)
 | e::l,t,n,h=>by
   unfold Im at h;split at h
   ·rename_i c;cases n with
    |zero=>exact c
    |succ n=>exact SK (l:=l) (t:=t) (n:=n) (by omega)
   ·omega
theorem SJ :∀ {l:aa} {t:Int},Im l t<l.length->t<=ag l (Im l t) 2
 |[],t,h=>absurd h (ad8 _)
 | e::l,t,h=>by
   unfold Im at h ⊢;split
   ·rename_i c;rw[if_pos c]at h;exact SJ (l:=l) (t:=t) (by simpa using h)
   ·rename_i c;show t<=PY (e.getD 2 .g);omega
structure QY (l:aa)(t i:Int):Prop where
 e:i.toNat<=Im l t
section
variable {l : aa} {t i : Int}
theorem ZE :QY l t 0:=⟨OF _⟩
theorem VG (h:QY l t i)(i0:0<=i)(i1:i<l.length)(g:ag l i 2<t):QY l t (i+1):=by
 have e:=h.e;have ne:i.toNat≠Im l t:=fun q=>by
  have:=SJ (l:=l) (t:=t) (by omega);rw[<-q,IS i0]at this;omega
 exact⟨by omega⟩
theorem Qe (h:QY l t i)(i0:0<=i)(g:(l.length:Int)<=i\/t<=ag l i 2):i.toNat=Im l t:=by
 have e:=h.e;have:=NP (l:=l) (t:=t);rcases Nat.lt_or_eq_of_le e with q|q
 ·rcases g with g|g;omega
  ·have:=SK q;rw[IS i0]at this;omega
 ·exact q
end
def KT (rm:Int)(qs:aa)(now age:Int):Bool:=quarOk rm qs&&(inR now 0 1000000&&inR age 0 1000000)
def qeL (rm:Int)(qs:aa)(now age:Int):aa:=if KT rm qs now age=true then qs.drop (Im qs (now-age))else qs
def qeR (rm:Int)(qs:aa)(now age:Int):aa:=if KT rm qs now age=true then qs.take (Im qs (now-age))else[]
theorem VF {rm:Int}{qs:aa}{now age:Int}(h:KT rm qs now age=false):qeL rm qs now age=qs/\qeR rm qs now age=[]:=by unfold qeL qeR;rw[h];exact⟨rfl,rfl⟩
theorem acf {rm:Int}{qs:aa}{now age:Int}(h:KT rm qs now age=true):qeL rm qs now age=qs.drop (Im qs (now-age))/\qeR rm qs now age=qs.take (Im qs (now-age)):=by unfold qeL qeR;rw[if_pos h,if_pos h];exact⟨rfl,rfl⟩
end Go.V
namespace Go.V
theorem Eh {k:Nat}:∀ {l:aa},(∀ e∈l,cS e<=k)->bK l<=k*l.length
 |[],_=>OF _
 | e::l,h=>by
   have a:=h e (by simp);have b:=Eh (l:=l) (fun x hx=>h x (by simp[hx]));simp only[bK,ac7,Nat.mul_succ];omega
theorem JN {cs us es:aa}(h:BX cs us es)(rc:Rw [.sl [tI]] cs)(ru:Rw [tB] us)(re:Rw [tI,tI] es):ak cs<=1024/\ak us<=64/\ak es<=64:=by
 have n1:=h.n1;have hu:=h.u;have e1:=h.e1;refine⟨?_,?_,?_⟩
 ·have q:bK cs<=16*cs.length:=Eh fun e he=>by
   obtain⟨i,hi,rfl⟩:=afi he;have a:=rc.eta (i:=i) (by omega) (by omega);rw[BY,ac4,IT hi,adw]at a;rw[a];show cS [.s 1 (ap cs i 0)]<=16;have l:=h.l i (by omega) (by omega);have w:=(Rw.sub (fs:=[.sl [tI]]) (j:=0) (i:=(i:Int)) rc (by omega) rfl).cnt rfl;have e:cS [.s 1 (ap cs i 0)]=ak (ap cs i 0):=by simp only[cS,fQ,ak];omega
   rw[e,w];omega
  unfold ak;omega
 ·rw[ru.cnt rfl];omega
 ·rw[re.cnt rfl];omega
def kuC (cs es:aa)(p:Int):aa:=if peM es p≠0 then dfC cs (DC es p) (peF es p)else cs
def kuU (us es:aa)(p:Int):aa:=if peM es p≠0 then dfU us (DC es p) (peF es p)else us
def kuE (es:aa)(p:Int):aa:=if peM es p≠0 then DC es p else es
theorem Yz {cs us es:aa}{p:Int}(h:BX cs us es):BX (kuC cs es p) (kuU us es p) (kuE es p):=by
 unfold kuC kuU kuE;by_cases g:peM es p≠0
 ·rw[if_pos g,if_pos g,if_pos g];exact aar h g
 ·rw[if_neg g,if_neg g,if_neg g];exact h
theorem rwU {us:aa}{n:Nat}{b:Bool}(h:Rw [tB] us):Rw [tB] (us.set n [.v (.bool b)]):=Rw.set h (show cG [tB] [.v (.bool b)]from⟨trivial,trivial⟩) _
theorem Qo {es:aa}{p m f:Int}(h:Rw [tI,tI] es)(hm: -9223372036854775808<=m/\m<=9223372036854775807)(hf: -9223372036854775808<=f/\f<=9223372036854775807):Rw [tI,tI] (seE es p m f):=Rw.set h (show cG [tI,tI] [.i m,.i f]from⟨⟨rfl,hm⟩,⟨rfl,hf⟩,trivial⟩) _
theorem acq {cs es:aa}{f:Int}(h:Rw [.sl [tI]] cs):Rw [.sl [tI]] (dfC cs es f):=by
 unfold dfC;split;exact h;exact Iw h (Rw.replicate (show cG [tI] [.i 0]from⟨⟨rfl,show-9223372036854775808<=(0:Int)/\(0:Int)<=9223372036854775807 from by omega⟩,trivial⟩) (by unfold maxLen;omega))
theorem acr {us es:aa}{f:Int}(h:Rw [tB] us):Rw [tB] (dfU us es f):=by
 unfold dfU;split;exact h;exact rwU h
theorem R5 {cs us es:aa}{p:Int}(hc:Rw [.sl [tI]] cs)(hu:Rw [tB] us)(he:Rw [tI,tI] es):Rw [.sl [tI]] (kuC cs es p)/\Rw [tB] (kuU us es p)/\Rw [tI,tI] (kuE es p):=by
 unfold kuC kuU kuE;refine⟨?_,?_,?_⟩<;>split
 ·exact acq hc
 ·exact hc
 ·exact acr hu
 ·exact hu
 ·exact Qo (m:=0) (f:=0) he (by omega) (by omega)
 ·exact he
theorem uq {cs us es rs:aa}{c:Int}(h:kerOk cs us es c rs=true):BX cs us es/\0<=c/\c<=100000/\q8 rs=true:=by
 unfold kerOk at h;simp only[AI]at h;have r:=bP.1 h.1.2;exact⟨Vj h.1.1,r.1,r.2,h.2⟩
theorem HY {cs us es rs:aa}{c:Int}(h:BX cs us es)(c0:0<=c)(c1:c<=100000)(r:q8 rs=true):kerOk cs us es c rs=true:=PV (Vk h) (bP.2 ⟨c0,c1⟩) r
end Go.V
namespace Go.V
structure rT (a0 a1 a2 a4 a5 a6 a7 a8 a9 aA aB aD aL:aa):Prop where
 r0:Rw [.sl [tI]] a0
 r1:Rw [tB] a1
 r2:Rw [tI,tI] a2
 r4:Rw [tI] a4
 r5:Rw [tI,tI] a5
 r6:Rw [tI,tI,tI] a6
 r7:Rw [tI,tI,tI] a7
 r8:Rw [tI,tI,tI,tI] a8
 r9:Rw [.sl [.sl [tI]]] a9
 r10:Rw [.sl [tI,tI]] aA
 r11:Rw [.sl [tI]] aB
 r13:Rw [tI,tI,tI] aD
 r21:Rw [tI] aL
 c0:ak a0<=1073741824
 c1:ak a1<=1073741824
 c2:ak a2<=1073741824
 c4:ak a4<=1073741824
 c5:ak a5<=1073741824
 c6:ak a6<=1073741824
 c7:ak a7<=1073741824
 c8:ak a8<=1073741824
 c9:ak a9<=1073741824
 c10:ak aA<=1073741824
 c11:ak aB<=1073741824
 c13:ak aD<=1073741824
 c21:ak aL<=1073741824
theorem rT.hp {a0 a1 a2 a4 a5 a6 a7 a8 a9 aA aB aD aL:aa}(h:rT a0 a1 a2 a4 a5 a6 a7 a8 a9 aA aB aD aL):HpN a0 a1 a2 a4 a5 a6 a7 a8 a9 aA aB aD aL:=by
 have l2:=av (es:=a2);have l5:=av (es:=a5);have l6:=av (es:=a6);have l7:=av (es:=a7);have l8:=av (es:=a8);have l13:=av (es:=aD);have l21:=av (es:=aL);have c2:=h.c2;have c5:=h.c5;have c6:=h.c6;have c7:=h.c7;have c8:=h.c8;have c13:=h.c13;have c21:=h.c21;exact⟨⟨h.r6,h.r7,h.r8,h.r9,h.r13,Ia h.r10 h.r11 h.c10 h.c11,Vt h.r9 h.c9,by omega,by omega,by omega,by omega,h.c9⟩,h.r0,h.r1,h.r2,by omega,h.r4,h.r5,by omega,h.r21,by omega⟩
theorem jQ {fs:List Ty}{es:aa}{i:Int}(h:Rw [.sl fs] es)(h0:0<=i)(h1:i<es.length):Rw fs (ap es i 0):=Rw.sub (fs:=[.sl fs]) (j:=0) (i:=i) h (by omega) rfl
end Go.V
namespace Go.V
def htB (b x:aa)(f:Int):Bool:=inR f 0 (b.length-1)&&mailOk b x
theorem UJ {b x:aa}{f:Int}(h:htB b x f=true):0<=f/\f<b.length:=by
 unfold htB at h;simp only[AI]at h;have:=bP.1 h.1;omega
theorem Yc {b x:aa}{f:Int}(h:inR f 0 (b.length-1)=false):htB b x f=false:=by unfold htB;rw[h];rfl
theorem Yd {b x:aa}{f:Int}(h:inR f 0 (b.length-1)=true):htB b x f=mailOk b x:=by unfold htB;rw[h];rfl
theorem Ye {b x:aa}{f:Int}(h:mailOk b x=false):htB b x f=false:=by unfold htB;rw[h];simp
theorem Yf {b x:aa}{f:Int}(h:mailOk b x=true):htB b x f=inR f 0 (b.length-1):=by unfold htB;rw[h];simp
theorem Kq {b x:aa}{i:Int}(h:Rw [.sl [tI]] b)(h0:0<=i)(h1:i<b.length):sW (.s 1 b) [(i.toNat,0)] [.s 1 x]=b.set i.toNat [.s 1 x]:=lE (by rw[h.eta h0 h1];rfl)
theorem Dv {fs:List Ty}{b:aa}{i:Int}(h:Rw [.sl fs] b)(h0:0<=i)(h1:i<b.length):∃ rec o',bX (.s 1 b) [(i.toNat,0)]=some (rec,o')/\o'+1<=rec.length:=iu (by omega) (by rw[h.eta h0 h1];exact No _)
end Go.V
namespace Go.V
def ccB (cs us es:aa)(c:Int)(rs:aa):Bool:=decide (c≠100000)&&kerOk cs us es c rs
theorem Rc {cs us es rs:aa}{c:Int}(h:ccB cs us es c rs=true):c≠100000/\kerOk cs us es c rs=true:=by
 unfold ccB at h;rw[AI,decide_eq_true_eq]at h;exact h
theorem W5 {cs us es rs:aa}{c:Int}(h:c=100000):ccB cs us es c rs=false:=by unfold ccB;rw[decide_eq_false (fun n=>n h)];rfl
theorem W6 {cs us es rs:aa}{c:Int}(h:c≠100000):ccB cs us es c rs=kerOk cs us es c rs:=by unfold ccB;rw[decide_eq_true h];rfl
theorem W7 {cs us es rs:aa}{c:Int}(h:kerOk cs us es c rs=false):ccB cs us es c rs=false:=by unfold ccB;rw[h];simp
theorem W8 {cs us es rs:aa}{c:Int}(h:kerOk cs us es c rs=true):dx .lss c 100000=ccB cs us es c rs:=by
 have q:=(uq h).2;unfold ccB;rw[h,agU];show decide (c<100000)=_;by_cases e:c=100000
 ·rw[decide_eq_false (by omega),decide_eq_false (by simp[e])]
 ·rw[decide_eq_true (by omega),decide_eq_true e]
def ktC (k:Bool)(cs es:aa)(p:Int):aa:=if k=true then kuC cs es p else cs
def ktU (k:Bool)(us es:aa)(p:Int):aa:=if k=true then kuU us es p else us
def ktE (k:Bool)(es:aa)(p:Int):aa:=if k=true then kuE es p else es
def ktB (k:Bool)(es:aa)(p:Int):Bool:=k&&mapB es p
theorem Yw {k:Bool}{cs us es:aa}{p:Int}(h:k=false):ktC k cs es p=cs/\ktU k us es p=us/\ktE k es p=es/\ktB k es p=false:=by subst h;exact⟨rfl,rfl,rfl,rfl⟩
theorem Yx {k:Bool}{cs us es:aa}{p:Int}(h:k=true):ktC k cs es p=kuC cs es p/\ktU k us es p=kuU us es p/\ktE k es p=kuE es p/\ktB k es p=mapB es p:=by subst h;exact⟨rfl,rfl,rfl,rfl⟩
theorem Yy {cs us es:aa}{p:Int}(h:mapB es p=false):kuC cs es p=cs/\kuU us es p=us/\kuE es p=es:=by
 unfold mapB at h;have:=of_decide_eq_false h;unfold kuC kuU kuE;rw[if_neg this,if_neg this,if_neg this];exact⟨rfl,rfl,rfl⟩
theorem YA {cs us es:aa}{p:Int}(h:mapB es p=true):kuC cs es p=dfC cs (DC es p) (peF es p)/\kuU us es p=dfU us (DC es p) (peF es p)/\kuE es p=DC es p:=by
 unfold mapB at h;have:=of_decide_eq_true h;unfold kuC kuU kuE;rw[if_pos this,if_pos this,if_pos this];exact⟨rfl,rfl,rfl⟩
theorem abU {k:Bool}{cs us es:aa}{p:Int}(h:mapB es p=false):ktC k cs es p=cs/\ktU k us es p=us/\ktE k es p=es/\ktB k es p=false:=by
 cases k with
 |false=>exact Yw rfl
 |true=>have q:=Yy (cs:=cs) (us:=us) h;exact⟨q.1,q.2.1,q.2.2,h⟩
theorem ER {es:aa}{p:Int}(h:mapB es p=true):(0<=p/\p<es.length)/\peM es p=ag es p 0/\peF es p=ag es p 1/\peM es p≠0:=by
 unfold mapB at h;have:=of_decide_eq_true h;have q:=Zm this;exact⟨q.1,q.2.1,q.2.2,this⟩
theorem JK {cs us es:aa}{p:Int}(m:BX cs us es)(h:mapB es p=true):0<=ag es p 1/\ag es p 1<cs.length:=by
 have q:=ER h;have e:=m.e p q.1.1 q.1.2;exact e.2.2.2 (by have:=q.2.1;have:=q.2.2.2;omega)
theorem abo {cs us es:aa}{f:Int}(h:((pagesOn es f).length:Int)=0):dfC cs es f=cs.set f.toNat [.s 1 (pE 16 [.i 0])]/\dfU us es f=us.set f.toNat [.v (.bool false)]:=by
 have e:gW es f=false:=P0 (by omega);unfold dfC dfU;rw[e];exact⟨rfl,rfl⟩
theorem abp {cs us es:aa}{f:Int}(h:¬ ((pagesOn es f).length:Int)=0):dfC cs es f=cs/\dfU us es f=us:=by
 have e:gW es f=true:=ES.2 (by omega);unfold dfC dfU;rw[e];exact⟨rfl,rfl⟩
theorem Tg {es:aa}{p:Int}(h:Rw [tI,tI] es)(p0:0<=p)(p1:p<es.length):sW (.s 2 es) [(p.toNat,0)] [.i 0,.i 0]=DC es p:=by
 unfold DC;exact lE (by rw[h.eta p0 p1];rfl)
theorem EK {es:aa}{p:Int}:(kuE es p).length=es.length:=by
 unfold kuE DC;split;exact adr;rfl
structure K3 where
 c:aa
 u:aa
 e:aa
def Jd (a0 a1 a2:aa)(t:Int):Nat->K3
 |0=>⟨a0,a1,a2⟩
 |n+1=>⟨kuC (Jd a0 a1 a2 t n).c (Jd a0 a1 a2 t n).e (t+n),kuU (Jd a0 a1 a2 t n).u (Jd a0 a1 a2 t n).e (t+n),kuE (Jd a0 a1 a2 t n).e (t+n)⟩
theorem Je {a0 a1 a2:aa}{t:Int}{n:Nat}:Jd a0 a1 a2 t (n+1)=⟨kuC (Jd a0 a1 a2 t n).c (Jd a0 a1 a2 t n).e (t+n),kuU (Jd a0 a1 a2 t n).u (Jd a0 a1 a2 t n).e (t+n),kuE (Jd a0 a1 a2 t n).e (t+n)⟩:=rfl
def duC (a0 a1 a2:aa)(t l:Int):aa:=(Jd a0 a1 a2 t l.toNat).c
def duU (a0 a1 a2:aa)(t l:Int):aa:=(Jd a0 a1 a2 t l.toNat).u
def duE (a0 a1 a2:aa)(t l:Int):aa:=(Jd a0 a1 a2 t l.toNat).e
theorem abu {a0 a1 a2:aa}{t:Int}:duC a0 a1 a2 t 1=kuC a0 a2 t/\duU a0 a1 a2 t 1=kuU a1 a2 t/\duE a0 a1 a2 t 1=kuE a2 t:=by
 unfold duC duU duE;have z:t+((0:Nat):Int)=t:=by omega
 rw[show(1:Int).toNat=0+1 from rfl,Je,z];exact⟨rfl,rfl,rfl⟩
structure Tp (a0 a1 a2:aa)(t p:Int)(c u e:aa):Prop where
 m:BX c u e
 rc:Rw [.sl [tI]] c
 ru:Rw [tB] u
 re:Rw [tI,tI] e
 l:e.length=a2.length
 ec:c=duC a0 a1 a2 t (p-t)
 eu:u=duU a0 a1 a2 t (p-t)
 ee:e=duE a0 a1 a2 t (p-t)
section
variable {a0 a1 a2 c u e : aa} {t p : Int}
theorem Xx (m:BX a0 a1 a2)(rc:Rw [.sl [tI]] a0)(ru:Rw [tB] a1)(re:Rw [tI,tI] a2):Tp a0 a1 a2 t t a0 a1 a2:=by
 have z:(t-t).toNat=0:=by omega
 refine⟨m,rc,ru,re,rfl,?_,?_,?_⟩
 ·unfold duC;rw[z];rfl
 ·unfold duU;rw[z];rfl
 ·unfold duE;rw[z];rfl
theorem Ui (h:Tp a0 a1 a2 t p c u e)(p0:t<=p):Tp a0 a1 a2 t (p+1) (kuC c e p) (kuU u e p) (kuE e p):=by
 have w:=R5 (p:=p) h.rc h.ru h.re;have s:(p+1-t).toNat=(p-t).toNat+1:=by omega
 have q:t+((p-t).toNat:Int)=p:=by omega
 refine⟨Yz h.m,w.1,w.2.1,w.2.2,by rw[EK];exact h.l,?_,?_,?_⟩
 ·rw[h.ec,h.ee];unfold duC duE;rw[s,Je,q]
 ·rw[h.eu,h.ee];unfold duU duE;rw[s,Je,q]
 ·rw[h.ee];unfold duE;rw[s,Je,q]
theorem Pv {l:Int}(h:Tp a0 a1 a2 t p c u e)(p1:t+l<=p)(p2:p<=t+l):c=duC a0 a1 a2 t l/\u=duU a0 a1 a2 t l/\e=duE a0 a1 a2 t l:=by
 have q:p-t=l:=by omega
 exact⟨q▸h.ec,q▸h.eu,q▸h.ee⟩
theorem Pu (h:Tp a0 a1 a2 t p c u e):ak c<=1024/\ak u<=64/\ak e<=64:=JN h.m h.rc h.ru h.re
end
def ifR (b:Bool)(x y:aa):aa:=if b=true then x else y
theorem vV {o o':aa}{r r':Bool}(h2:o=o')(h3:r=r'):[DV.one (.s 2 o),DV.k r]=[DV.one (.s 2 o'),DV.k r']:=by rw[h2,h3]
end Go.V
namespace Go.V
theorem N7 {r:Pr}:∀ {l:List Pr} {s:Sp} {x:Pr},x∈(l.foldl (uG r) s).o->x∈s.o\/x=r\/x∈l
 |[],s,x,h=>.inl h
 | y::l,s,x,h=>by
   rw[adk]at h;rcases N7 h with q|q|q
   ·unfold uG at q;split at q
    ·simp only[If,ado]at q;rcases q with(q|q)|q;exact .inl q;exact .inr (.inl q);exact .inr (.inr (by rw[q];exact agl ..))
    ·simp only[If,ado]at q;rcases q with q|q;exact .inl q;exact .inr (.inr (by rw[q];exact agl ..))
   ·exact .inr (.inl q)
   ·exact .inr (.inr (afj _ q))
structure WS (rs:aa):Prop where
 w:Rw [tI,tI] rs
 b:∀ i:Int,0<=i->i<rs.length->0<=ag rs i 0/\ag rs i 0<=64/\0<=ag rs i 1/\ag rs i 1<=64
theorem Oh {l:List Pr}(h:∀ x∈l,0<=x.1/\x.1<=64/\0<=x.2/\x.2<=64)(n:l.length<=maxLen):WS (rowP l):=by
 refine⟨yJ (fun x hx=>by have:=h x hx;omega) n,fun i i0 i1=>?_⟩;have t:=fM (es:=rowP l) i0 i1;rw[yO]at t;exact h _ (acY t)
theorem aas {o:aa}{n:Int}{b:Bool}(h:Rw [tB] o)(h0:0<=n)(h1:n<o.length):sW (.s 1 o) [(n.toNat,0)] [.v (.bool b)]=o.set n.toNat [.v (.bool b)]:=lE (by rw[h.eta h0 h1];rfl)
theorem acL {o:aa}{n:Int}(h:Rw [tB] o)(h0:0<=n)(h1:n<o.length):∃ rec o',bX (.s 1 o) [(n.toNat,0)]=some (rec,o')/\o'+1<=rec.length:=iu (by omega) (by rw[h.eta h0 h1];exact No _)
theorem Tc {es:aa}{p:Int}(h:Rw [tI,tI] es)(p0:0<=p)(p1:p<es.length):∃ rec o,bX (.s 2 es) [(p.toNat,0)]=some (rec,o)/\o+2<=rec.length:=iu (by omega) (by rw[h.eta p0 p1];exact No _)
section
variable {n a0 l0 i : Int} {rs o : aa} {d : Bool}
theorem Kc (g:rngIn n a0 l0=true)(T:OK n rs):0<=a0/\1<=l0/\a0+l0<=32:=by
 unfold rngIn at g;simp only[AI]at g;have p:=bP.1 g.1;have q:=bP.1 g.2;have:=T.n1;omega
theorem VQ (T:OK n rs)(g:rngIn n a0 l0=true)(h:BZ rs a0 l0 i o d)(k:rs.length<=1073741824)(i1:i<=rs.length):WS (if d=true then o else o++[[.i a0,.i l0]]):=by
 obtain⟨o',eo,es⟩:=h.s;have gb:=Kc g T;have m:=h.m;have mb:∀ x∈o',0<=x.1/\x.1<=64/\0<=x.2/\x.2<=64:=fun x hx=>by
  have q:=N7 (r:=(a0,l0)) (l:=(ni rs).take i.toNat) (s:=⟨[],false⟩) (x:=x) (by rw[es];exact hx);rcases q with q|q|q
  ·cases q
  ·rw[q];simp only;omega
  ·have:=T.b _ (afd q);have:=T.n1;omega
 have ol:o.length=o'.length:=by rw[eo,uF]
 cases d with
 |true=>rw[if_pos rfl,eo];exact Oh mb (by unfold maxLen;omega)
 | false=>
   rw[if_neg (by simp),eo];have e:rowP o'++[[.i a0,.i l0]]=rowP (o'++[(a0,l0)]):=by rw[fH];rfl
   rw[e];refine Oh (fun x hx=>?_) (by unfold maxLen;simp only[AT,ac7,ade];omega);rcases If.1 hx with q|q;exact mb x q
   ·rw[ado]at q;rw[q];simp only;omega
structure Tx (rs:aa)(i:Int)(o:aa)(n:Nat):Prop where
 p:OU rs i o
 n:n=o.length
 w:Rw [tI,tI] o
 b:∀ k:Int,0<=k->k<o.length->0<=ag o k 0/\ag o k 0<=64/\0<=ag o k 1/\ag o k 1<=64*i
theorem Yt :Tx rs 0 [] 0:=⟨Yq,rfl,Rw.nil,fun k k0 k1=>by simp at k1;omega⟩
theorem gP {o:aa}{r:ay}{k:Nat}:(o++[r]).getD k []=if k<o.length then o.getD k []else if k=o.length then r else[]:=by
 rw[BY,BY];by_cases c:k<o.length
 ·rw[if_pos c,adj c]
 ·rw[if_neg c,ac9 (by omega)];by_cases e:k=o.length
  ·rw[if_pos e,e,afc];rfl
  ·rw[if_neg e,adu (by simp;omega)];rfl
theorem giP {o:aa}{r:ay}{k:Int}{j:Nat}(k0:0<=k)(k1:k<=o.length):ag (o++[r]) k j=if k<o.length then ag o k j else PY (r.getD j .g):=by
 unfold ag;rw[gP];by_cases c:k<o.length
 ·rw[if_pos c,if_pos (by omega)]
 ·rw[if_neg c,if_neg (by omega),if_pos (by omega)]
theorem Yu {m:Nat}(h:Tx rs i o m)(S:WS rs)(i0:0<=i)(i1:i<rs.length)(k:rs.length<=4294967296)(n0:0<(m:Int))(q:ag o ((m:Int)-1) 0+ag o ((m:Int)-1) 1=ag rs i 0):
 Tx rs (i+1) (o.set ((m:Int)-1).toNat [.i (ag o ((m:Int)-1) 0),.i (ag o ((m:Int)-1) 1+ag rs i 1)]) m:=by
 have e:=h.n;subst e;have b:=h.b (o.length-1) (by omega) (by omega);have s:=S.b i i0 i1;refine⟨Yr h.p i0 i1 (by omega) q,by rw[adr],Qo (p:=o.length-1) (m:=ag o (o.length-1) 0) (f:=ag o (o.length-1) 1+ag rs i 1) h.w (by omega) (by omega),fun t t0 t1=>?_⟩;rw[adr]at t1;have c:=h.b t t0 t1;rw[Uw (by omega) (by omega) t0,Uw (by omega) (by omega) t0];by_cases z:t=o.length-1
 ·rw[if_pos z,if_pos z];show 0<=ag o (o.length-1) 0/\ag o (o.length-1) 0<=64/\0<=ag o (o.length-1) 1+ag rs i 1/\ag o (o.length-1) 1+ag rs i 1<=64*(i+1);omega
 ·rw[if_neg z,if_neg z];omega
theorem Yv {m:Nat}(h:Tx rs i o m)(S:WS rs)(i0:0<=i)(i1:i<rs.length)(k:rs.length<=4294967296)(q:(m:Int)<=0\/ag o ((m:Int)-1) 0+ag o ((m:Int)-1) 1≠ag rs i 0):
 Tx rs (i+1) (o++[[.i (ag rs i 0),.i (ag rs i 1)]]) (o++[[L.i (ag rs i 0),L.i (ag rs i 1)]]).length:=by
 have e:=h.n;subst e;have s:=S.b i i0 i1;have l:=h.p.l;refine⟨Ys h.p i0 i1 q,rfl,Rw.append h.w (yJ (l:=[(ag rs i 0,ag rs i 1)]) (fun x hx=>by rw[ado]at hx;rw[hx];simp only;omega) (by unfold maxLen;simp)) (by unfold maxLen;simp only[ac7,ade];omega),fun t t0 t1=>?_⟩;rw[AT,ac7,ade]at t1;rw[giP t0 (by omega),giP t0 (by omega)];by_cases c:t<o.length
 ·have b:=h.b t t0 c;rw[if_pos c,if_pos c];omega
 ·rw[if_neg c,if_neg c];show 0<=ag rs i 0/\ag rs i 0<=64/\0<=ag rs i 1/\ag rs i 1<=64*(i+1);omega
end
end Go.V
namespace Go.V
theorem Mt {a0 a1 a2 a4 a5 a6 a7 a8 a9 aA aB aD aL:aa}(h0:Rw [.sl [tI]] a0)(h1:Rw [tB] a1)(h2:Rw [tI,tI] a2)(h4:Rw [tI] a4)(h5:Rw [tI,tI] a5)(h6:Rw [tI,tI,tI] a6)(h7:Rw [tI,tI,tI] a7)(h8:Rw [tI,tI,tI,tI] a8)(h9:Rw [.sl [.sl [tI]]] a9)(h10:Rw [.sl [tI,tI]] aA)(h11:Rw [.sl [tI]] aB)(h13:Rw [tI,tI,tI] aD)(h21:Rw [tI] aL)(hs:aQ [a0,a1,a2,a4,a5,a6,a7,a8,a9,aA,aB,aD,aL]<=1048576):rT a0 a1 a2 a4 a5 a6 a7 a8 a9 aA aB aD aL:=by
 obtain⟨c0,c1,c2,c4,c5,c6,c7,c8,c9,c10,c11,c13,c21⟩:=Aq hs;exact⟨h0,h1,h2,h4,h5,h6,h7,h8,h9,h10,h11,h13,h21,by omega,by omega,by omega,by omega,by omega,by omega,by omega,by omega,by omega,by omega,by omega,by omega,by omega⟩
end Go.V
namespace Go.V
section
variable {n a0 l0 : Int} {rs : aa}
theorem VR {x y:Pr}(hx:0<=x.1/\x.1<=64/\0<=x.2/\x.2<=64)(hy:0<=y.1/\y.1<=64/\0<=y.2/\y.2<=64):Rw [tI,tI] (rowP [x,y]):=yJ (fun z hz=>by
 rcases acZ.1 hz with q|q
 ·rw[q];omega
 ·rw[ado]at q;rw[q];omega) (by unfold maxLen;simp)
theorem SY {x:Pr}(hx:0<=x.1/\x.1<=64/\0<=x.2/\x.2<=64):Rw [tI,tI] (rowP [x]):=yJ (fun z hz=>by
 rw[ado]at hz;rw[hz];omega) (by unfold maxLen;simp)
theorem Ke (T:OK n rs)(g:rngIn n a0 l0=true)(hl:rs.length<=1073741824)(nov:∀ x∈ni rs,FC x (a0,l0)=false):∀ i:Nat,i<=rs.length->∃ o x y d,HA rs a0 l0 i o x y d/\Rw [tI,tI] o/\o.length<=2*i
 |0,_=>⟨[],a0,l0,false,SQ (Kc g T),Rw.nil,No _⟩
 | i+1,hi=>by
   obtain⟨o,x,y,d,h,rw_,ol⟩:=Ke T g hl nov i (by omega);have e:=fM (es:=rs) (i:=(i:Int)) (by omega) (by omega);have m:(ag rs i 0,ag rs i 1)∈(ni rs).drop (i:Int).toNat:=by rw[drop_at (by omega) e];simp
   have v:=h.v _ m;rw[nov _ (ad5 m)]at v;have no:¬ (ag rs i 0<x+y/\x<ag rs i 0+ag rs i 1):=fun c=>by rw[CB.2 c]at v;cases v
   have b:=T.b _ (ad5 m);have hb:=h.b;have:=T.n1;have bp:0<=ag rs i 0/\ag rs i 0<=64/\0<=ag rs i 1/\ag rs i 1<=64:=⟨b.1,by have:=b.2.1;have:=b.2.2;omega,by have:=b.2.1;omega,by have:=b.1;have:=b.2.2;omega⟩;have c:((i+1:Nat):Int)=(i:Int)+1:=by omega
   rw[c];by_cases q1:ag rs i 0+ag rs i 1=x;exact⟨o,_,_,d,SR T h (by omega) (by omega) no q1,rw_,by omega⟩
   by_cases q2:x+y=ag rs i 0;exact⟨o,_,_,d,SU T h (by omega) (by omega) no q1 q2,rw_,by omega⟩
   by_cases q3:x<ag rs i 0/\d=false;exact⟨_,_,_,true,SV T h (by omega) (by omega) no q1 q2 q3.1 q3.2,Rw.append rw_ (VR (x:=(x,y)) (y:=(ag rs i 0,ag rs i 1)) (by simp only;omega) bp) (by unfold maxLen;show _+2<=_;omega),by rw[AT];show _+2<=_;omega⟩;exact⟨_,_,_,d,N6 T h (by omega) (by omega) no q1 q2 q3,Rw.append rw_ (SY (x:=(ag rs i 0,ag rs i 1)) bp) (by unfold maxLen;show _+1<=_;omega),by rw[AT];show _+1<=_;omega⟩
theorem N4 (w:Rw [tI,tI] rs)(hl:rs.length<=1073741824):Rw [tI,tI] (rpL n rs a0 l0)/\(rpL n rs a0 l0).length<=2*rs.length+1:=by
 cases h:rpB n rs a0 l0 with
 |false=>rw[GI h];exact⟨w,by omega⟩
 | true=>
   unfold rpB at h;simp only[AI,aei]at h;obtain⟨h1,h2,h3⟩:=h;have T:=Bm h1;have nov:∀ x∈ni rs,FC x (a0,l0)=false:=fun x hx=>by have:=h3 x hx;simpa using this
   obtain⟨o,x,y,d,p,r,l⟩:=Ke T h2 hl nov rs.length (No _);have e:=yK h1 h2 p (by omega);rw[e.2];cases d with
   |true=>rw[if_pos rfl];exact⟨r,by omega⟩
   | false=>
     rw[if_neg (by simp)];have b:=p.b;exact⟨Rw.append r (SY (x:=(x,y)) (by simp only;omega)) (by unfold maxLen;show _+1<=_;omega),by rw[AT];show _+1<=_;omega⟩
end
theorem T0 {c u e a0 a1 a2 a4:aa}{a3:Int}(m:BX c u e)(h:kerOk a0 a1 a2 a3 a4=true)(n:a3≠100000):ccB c u e a3 a4=true:=by
 have k:=(uq h).2;unfold ccB;rw[decide_eq_true n,HY m k.1 k.2.1 k.2.2];rfl
def bsB (m:Bool)(k v p:Int):Bool:=m&&(decide (k=p)||decide (v=p))
theorem WY {m:Bool}{k v p:Int}(h:m=false):bsB m k v p=false:=by subst h;rfl
theorem WW {m:Bool}{k v p:Int}(h:m=true)(e:k=p):bsB m k v p=true:=by subst h;unfold bsB;rw[decide_eq_true e];rfl
theorem WX {m:Bool}{k v p:Int}(h:m=true)(e:k≠p):bsB m k v p=decide (v=p):=by subst h;unfold bsB;rw[decide_eq_false e];rfl
def dsC (a0 a1 a2 a6:aa)(i:Int):aa:=duC a0 a1 a2 (ag a6 i 0) 1
def dsU (a0 a1 a2 a6:aa)(i:Int):aa:=duU a0 a1 a2 (ag a6 i 0) 1
def dsE (a0 a1 a2 a6:aa)(i:Int):aa:=duE a0 a1 a2 (ag a6 i 0) 1
def dsF (a0 a1 a2 a5 a6:aa)(i:Int):aa:=rpL (zlI (dsE a0 a1 a2 a6 i)) a5 (ag a6 i 0) 1
def dsS (a6:aa)(i:Int):aa:=delL a6 i (i+1)
theorem L4 {a0 a1 a2 a6:aa}{i:Int}:dsC a0 a1 a2 a6 i=kuC a0 a2 (ag a6 i 0)/\dsU a0 a1 a2 a6 i=kuU a1 a2 (ag a6 i 0)/\dsE a0 a1 a2 a6 i=kuE a2 (ag a6 i 0):=abu
theorem Ja {fs:List Ty}{es:aa}{i j:Int}(h:Rw fs es)(ij:i<=j):Rw fs (delL es i j)/\(delL es i j).length<=es.length:=by
 have l:(delL es i j).length<=es.length:=by unfold delL;rw[AT,acX,ac5];omega
 refine⟨⟨aem l h.1,fun e he=>?_⟩,l⟩;unfold delL at he;rcases If.1 he with q|q;exact h.2 e (afd q);exact h.2 e (ad5 q)
end Go.V
namespace Go.V
theorem Dh {o:aa}{n:Int}{j:Nat}(h:Rw [tI,tI,tI] o)(n0:0<=n)(n1:n<o.length)(hj:j<3):∃ rec o',bX (L.s 3 o) [(n.toNat,j)]=some (rec,o')/\o'+[L.v (adg adl 0)].length<=rec.length/\aeT [L.v (adg adl 0)].length (aeU o' rec)=ou ah (L.s 3 o) [(n.toNat,j)] 0 [L.v (adg adl 0)]:=by
 rcases(show j=0\/j=1\/j=2 by omega)with rfl|rfl|rfl
 ·exact kg (z0:=[.i 0,.i 0,.i 0]) (z:=[.i 0]) h.wf (by omega) rfl (by decide)
 ·exact kg (z0:=[.i 0,.i 0,.i 0]) (z:=[.i 0]) h.wf (by omega) rfl (by decide)
 ·exact kg (z0:=[.i 0,.i 0,.i 0]) (z:=[.i 0]) h.wf (by omega) rfl (by decide)
section
variable {a0 a1 a2 : aa} {a3 : Int} {a4 a5 a6 a7 a8 a9 aA aB : aa} {aC : Int} {aD : aa} {aE aF aG aH : Int} {aI : Bool} {aJ aK : Int} {aL : aa} {aM aN : Int} {i : Int}
theorem Xw (hc:rT a0 a1 a2 a4 a5 a6 a7 a8 a9 aA aB aD aL):rT a0 a1 a2 a4 a5 (delL a6 i (i+1)) a7 a8 a9 aA aB aD aL:=by
 have s:=Ja (i:=i) (j:=i+1) hc.r6 (by omega);have c6:=hc.c6;have n6:=hc.r6.cnt rfl;have z6:=s.1.cnt rfl;exact⟨hc.r0,hc.r1,hc.r2,hc.r4,hc.r5,s.1,hc.r7,hc.r8,hc.r9,hc.r10,hc.r11,hc.r13,hc.r21,hc.c0,hc.c1,hc.c2,hc.c4,hc.c5,by rw[z6];have:=s.2;omega,hc.c7,hc.c8,hc.c9,hc.c10,hc.c11,hc.c13,hc.c21⟩
theorem Ug {a6:aa}{i:Int}(i0:0<=i)(i1:i<a6.length):[]++oW a6 (afg 0) (F2 i 0)++oW a6 (i+1).toNat (F2 (a6.length:Int) (i+1))=dsS a6 i:=by
 unfold dsS delL oW F2;rw[ads];have e:aeT (((a6.length:Int).toNat- (i+1).toNat:Nat)) (aeU (i+1).toNat a6)=aeU (i+1).toNat a6:=adD (by rw[ac5];omega);rw[e];simp
theorem abt :dsF a0 a1 a2 a5 a6 i=rpL (zlI (kuE a2 (ag a6 i 0))) a5 (ag a6 i 0) 1:=by unfold dsF;rw[L4.2.2]
section
variable {k m : Bool} {c x y p : Int} {sp : aa}
end
end
end Go.V
namespace Go.V
theorem LH {r0 r1 r2 r3 r4 r5 r6 r7 r8 r9 r10 r11 r12:aa}(h:rT r0 r1 r2 r3 r4 r5 r6 r7 r8 r9 r10 r11 r12):aQ [r0,r1,r2,r3,r4,r5,r6,r7,r8,r9,r10,r11,r12]<=1099511627776:=by
 have c0:=h.c0;have c1:=h.c1;have c2:=h.c2;have c3:=h.c4;have c4:=h.c5;have c5:=h.c6;have c6:=h.c7;have c7:=h.c8;have c8:=h.c9;have c9:=h.c10;have c10:=h.c11;have c11:=h.c13;have c12:=h.c21;simp only[aQ];omega
section
variable {a0 a1 a2 : aa} {a3 : Int} {a4 a5 a6 a7 a8 a9 aA aB : aa} {aC : Int} {aD : aa} {aE aF aG aH : Int} {aI : Bool} {aJ aK : Int} {aL : aa} {aM aN : Int} {p : Int}
end
end Go.V
namespace Go.V
end Go.V
namespace Go.V
def ltB (p n s z:Int):Bool:=lgOk p n s&&inR z 9 s
structure LtT (p n s z:Int):Prop where
 g:lgOk p n s=true
 zi:inR z 9 1000=true
 z0:9<=z/\z<=1000/\z<=s
 p0:0<=p
 n1:p+n<=32
 m0:1<=pfN z/\pfN z<=n
 m1:z<=pfN z*16/\pfN z*16<z+16
def pmB (p ad:Int):Bool:=eqB (bR .mul .i64 p 16) ad
def abS (lg:aa)(ad j:Int):Bool:=pmB (ag lg j 0) ad
def YG (lg:aa)(ad:Int):Int:=dL (abS lg ad) lg.length
def tcN (cs:aa)(f k:Int):Nat->aa
 |0=>cs
 |i+1=>Om (tcN cs f k i) f (k+i) 0
def tcC (cs es:aa)(a n:Int):aa:=tcN cs (peF es (a/16)) (a%16) n.toNat
structure TcP (cs us es:aa)(f k i:Int)(c:aa):Prop where
 e:c=tcN cs f k i.toNat
 m:BX c us es
 w:Rw [.sl [tI]] c
section
variable {cs us es c : aa} {f k i p : Int}
end
end Go.V
namespace Go.V
def V5 (a7:aa)(ad:Int):Int:=ag a7 (YG a7 ad) 0
def tmN (a7:aa)(ad:Int):Int:=ag a7 (YG a7 ad) 1
def tmS (a7:aa)(ad:Int):Int:=ag a7 (YG a7 ad) 2
def tmD (a0 a2 a7:aa)(ad z:Int):aa:=tcC a0 a2 (V5 a7 ad*16+z) ((16- (V5 a7 ad*16+z)%16)%16)
section
variable {a0 a1 a2 : aa} {a3 : Int} {a4 a5 a6 a7 a8 a9 aA aB : aa} {aC : Int} {aD : aa} {aE aF aG aH : Int} {aI : Bool} {aJ aK : Int} {aL : aa} {aM aN ad z k : Int}
structure TmT (a1 a2 a5 a7 a8 a0:aa)(ad z:Int):Prop where
 k0:0<=YG a7 ad
 k1:YG a7 ad<a7.length
 p:V5 a7 ad*16=ad
 t:LtT (V5 a7 ad) (tmN a7 ad) (tmS a7 ad) z
 b:ltB (V5 a7 ad) (tmN a7 ad) (tmS a7 ad) z=true
 o0:0<=obI a8 ad
 o1:obI a8 ad<a8.length
 m:BX a0 a1 a2
 g:∀ q:Int,V5 a7 ad<=q->q<V5 a7 ad+tmN a7 ad->peM a2 q≠0
 f:a5.length<=32
 d:BX (tmD a0 a2 a7 ad z) a1 a2
 dw:Rw [.sl [tI]] (tmD a0 a2 a7 ad z)
end
end Go.V
namespace Go.V
theorem Gs {o:aa}{n:Int}(h:Rw [tI,tI,tI] o)(n0:0<=n)(n1:n<o.length):∃ rec o',bX (L.s 3 o) [(n.toNat,0)]=some (rec,o')/\o'+[L.v (adg adl 0),L.v (adg adl 0),L.v (adg adl 0)].length<=rec.length/\aeT [L.v (adg adl 0),L.v (adg adl 0),L.v (adg adl 0)].length (aeU o' rec)=ou ah (L.s 3 o) [(n.toNat,0)] 0 [L.v (adg adl 0),L.v (adg adl 0),L.v (adg adl 0)]:=
 kg (z0:=[.i 0,.i 0,.i 0]) (z:=[.i 0,.i 0,.i 0]) h.wf (by omega) rfl (by decide)
theorem Td {o:aa}{n:Int}(h:Rw [tI,tI,tI] o)(n0:0<=n)(n1:n<o.length):∃ rec o',bX (.s 3 o) [(n.toNat,0)]=some (rec,o')/\o'+3<=rec.length:=iu (by omega) (by rw[h.eta n0 n1];exact No _)
section
variable {a0 a1 a2 a5 a7 a8 c : aa} {ad z x : Int}
end
end Go.V
namespace Go.V
section
variable {a0 a1 a2 : aa} {a3 : Int} {a4 a5 a6 a7 a8 a9 aA aB : aa} {aC : Int} {aD : aa} {aE aF aG aH : Int} {aI : Bool} {aJ aK : Int} {aL : aa} {aM aN ad z : Int}
end
end Go.V
namespace Go.V
section
variable {cs us es rs : aa} {c p q m : Int}
end
end Go.V
namespace Go.V
structure KcP (cs es:aa)(p q:Int)(xs:aa)(i:Int)(d:aa):Prop where
 z:i=0->d=cs
 o:0<i->inR (ag xs 0 0) 0 15=true/\d=Om cs (peF es q) (ag xs 0 0) (ag (ap cs (peF es p) 0) (ag xs 0 0) 0)
section
variable {cs us es xs d : aa} {p q i : Int}
end
end Go.V
namespace Go.V
def ifN (b:Bool)(x y:Int):Int:=if b=true then x else y
section
variable {cs us es rs xs : aa} {c kp mv ph nx : Int} {k : Bool}
structure JbT (kp mv:Int)(xs:aa)(ph nx:Int):Prop where
 k0:0<=kp
 k1:kp<=31
 m0:0<=mv
 m1:mv<=31
 p0:0<=ph
 p1:ph<=5
 n0:0<=nx
 n1:nx<=xs.length
 x:∀ i:Int,0<=i->i<xs.length->0<=ag xs i 0/\ag xs i 0<=15
end
end Go.V
namespace Go.V
section
variable {a0 a1 a2 : aa} {a3 : Int} {a4 a5 a6 a7 a8 a9 aA aB : aa} {aC : Int} {aD : aa} {aJ aK : Int} {aL : aa} {aM aN : Int} {g : Bool}
end
end Go.V
namespace Go.V
def woN (b i:Int):Int:=if slB b i=true then bR .andNot .i64 b (Qs .shl .i64 1 i)else b
theorem TR {a b:Int}:bR .andNot .i64 a b=(y7 a&&& ~~~ y7 b).toInt:=Kt _
theorem aae {t:Nat}(ht:t<=15):Qs .shl .i64 1 (t:Int)=((2^t:Nat):Int):=by
 show aeE .i64 (1*2^(min (t:Int).toNat 64))=_;rw[show min (t:Int).toNat 64=t by omega,Int.one_mul];have h:t=0\/t=1\/t=2\/t=3\/t=4\/t=5\/t=6\/t=7\/t=8\/t=9\/t=10\/t=11\/t=12\/t=13\/t=14\/t=15:=by omega
 rcases h with rfl|rfl|rfl|rfl|rfl|rfl|rfl|rfl|rfl|rfl|rfl|rfl|rfl|rfl|rfl|rfl<;>rfl
theorem OE {b:Int}{i t:Nat}(b0:0<=b)(b1:b<65536)(hi:i<=15)(ht:t<=15):(0<=woN b i/\woN b i<=b)/\hsB (woN b i) t=(hsB b t&&decide (t≠i)):=by
 have hs:slB b i=true:=KY.2 ⟨b0,by omega,by omega⟩;obtain⟨n,rfl⟩:=adf b0;have w:woN (n:Int) i=(y7 n&&& ~~~ y7 ((2^i:Nat):Int)).toInt:=by unfold woN;rw[if_pos hs,aae hi,TR]
 have x:(y7 (n:Int)).toNat=n:=by unfold y7;rw[aeN,aeB];omega
 have l:(y7 (n:Int)&&& ~~~ y7 ((2^i:Nat):Int)).toNat<=n:=by rw[agk];exact aem Nat.and_le_left (by rw[x];exact No _)
 have e:(y7 (n:Int)&&& ~~~ y7 ((2^i:Nat):Int)).toInt=((y7 (n:Int)&&& ~~~ y7 ((2^i:Nat):Int)).toNat:Int):=afC (by omega);have bd:0<=woN (n:Int) i/\woN (n:Int) i<=n:=by rw[w,e];omega
 refine⟨bd,?_⟩;rw[HQ bd.1 (by omega) ht,HQ b0 b1 ht,w,TX,BitVec.getLsbD_and,BitVec.getLsbD_not];have p:(y7 ((2^i:Nat):Int)).getLsbD t=decide (t=i):=by
  unfold y7;rw[aeN,afV,Nat.testBit_two_pow,decide_eq_true (show t<64 by omega),aeA];by_cases c:t=i
  ·rw[decide_eq_true c,decide_eq_true c.symm]
  ·rw[decide_eq_false c,decide_eq_false (fun e=>c e.symm)]
 rw[p,decide_eq_true (show t<64 by omega),aeA];by_cases c:t=i
 ·rw[decide_eq_true c,decide_eq_false (fun h=>h c)];rfl
 ·rw[decide_eq_false c,decide_eq_true c];rfl
theorem PM {t:Int}:hsB 0 t=false:=by
 cases q:hsB 0 t with
 |false=>rfl
 | true=>
   exfalso;have s:slB 0 t=true:=by
    cases s:slB 0 t with
    |true=>rfl
    |false=>rw[MB s]at q;cases q
   have r:=KY.1 s;obtain⟨n,rfl⟩:=adf r.2.1;rw[HQ (by omega) (by omega) (by omega)]at q;simp[y7]at q
structure ta (S:aa):Prop where
 s:∀ i:Nat,i<S.length->spOk (ag S i 0) (ag S i 1) (ag S i 2)=true
 d:∀ i j:Nat,i<S.length->j<S.length->ag S i 0=ag S j 0->i=j
structure qo (S:aa)(a:Int)(i:Nat):Prop where
 l:i<S.length
 p:ag S i 0=a/16
 b:hsB (ag S i 2) ((a-ag S i 0*16)/clsSz (ag S i 1))=true
 o:(a-ag S i 0*16)%clsSz (ag S i 1)=0
theorem V1 {sp lg:aa}(h:TA sp lg):ta sp:=⟨h.s,h.ss⟩
section
variable {S : aa} {a b : Int} {i j : Nat}
theorem Sd (g:ta S)(h:qo S a i):FE (ag S i 0) (ag S i 1) (ag S i 2) a=true:=by
 have p:=h.p;exact yr.2 ⟨g.s i h.l,by omega,by omega⟩
theorem jn (g:ta S)(h:qo S a i):jk S a=i/\spI S (a/16)=i/\yN S a i=(a-ag S i 0*16)/clsSz (ag S i 1):=by
 have t:=Sd g h;refine⟨?_,?_,?_⟩
 ·refine fF (fun k k0 k1=>?_) (by omega) (by have:=h.l;omega) (Dt.2 t);refine oD ?_;cases c:CE S a k with
  |false=>rfl
  | true=>
    exfalso;have u:=(yr.1 (Dt.1 c)).2;have p:=h.p;have e:=g.d k.toNat i (by have:=h.l;omega) h.l (by rw[IS k0];omega);omega
 ·refine fF (fun k k0 k1=>?_) (by omega) (by have:=h.l;omega) (Ay h.p);refine oD ?_;cases c:isSp S (a/16) k with
  |false=>rfl
  | true=>
    exfalso;have c':ag S k 0=a/16:=of_decide_eq_true c;have p:=h.p;have e:=g.d k.toNat i (by have:=h.l;omega) h.l (by rw[IS k0];omega);omega
 ·unfold yN saS;rw[if_pos t]
end
end Go.V
namespace Go.V
def Jm (S:aa)(i s:Int):aa:=S.set i.toNat [.i (ag S i 0),.i (ag S i 1),.i (woN (ag S i 2) s)]
def jh (S:aa)(a:Int):aa:=Jm S (jk S a) (yN S a (jk S a))
def Hh (me:Bool)(kp mv:Int)(S:aa)(a:Int):Bool:=decide (ag (jh S a) (jk S a) 2=0)&& !bsB me kp mv (ag (jh S a) (jk S a) 0)
structure CO where
 C:aa
 U:aa
 E:aa
 F:aa
 S:aa
def f1 (me:Bool)(kp mv:Int)(s:CO)(a:Int):CO:=
 ⟨ifR (Hh me kp mv s.S a) (dsC s.C s.U s.E (jh s.S a) (jk s.S a)) s.C,ifR (Hh me kp mv s.S a) (dsU s.C s.U s.E (jh s.S a) (jk s.S a)) s.U,ifR (Hh me kp mv s.S a) (dsE s.C s.U s.E (jh s.S a) (jk s.S a)) s.E,
  ifR (Hh me kp mv s.S a) (dsF s.C s.U s.E s.F (jh s.S a) (jk s.S a)) s.F,ifR (Hh me kp mv s.S a) (dsS (jh s.S a) (jk s.S a)) (jh s.S a)⟩
structure Tq (s:CO):Prop where
 m:BX s.C s.U s.E
 rc:Rw [.sl [tI]] s.C
 ru:Rw [tB] s.U
 re:Rw [tI,tI] s.E
 rf:Rw [tI,tI] s.F
 rs:Rw [tI,tI,tI] s.S
 lf:s.F.length<=65
 ls:s.S.length<=1073741824
 g:ta s.S
theorem LQ {n:Int}:∀ {l:List Pr},Ee l->(∀ x∈l,1<=x.2/\x.1+x.2<=n)->∀ {m:Int},(∀ x,l.head?=some x->m<=x.1)->l=[]\/m+l.length<=n
 |[],_,_,_,_=>.inl rfl
 |[x],_,b,m,h=>.inr (by have:=b x (by simp);have:=h x rfl;simp only[ac7,ade];omega)
 | x::y::l,c,b,m,h=>by
   have q:=LQ (l:=y::l) c.2.2 (fun z hz=>b z (by simp only[acZ]at hz ⊢;exact .inr hz)) (m:=m+1) (fun z hz=>by
    simp only[List.head?_cons,adB]at hz;subst hz;have:=b x (by simp);have:=h x rfl;have:=c.2.1;omega)
   rcases q with q|q
   ·cases q
   ·right;simp only[ac7]at q ⊢;omega
theorem N0 {n:Int}{rs:aa}(h:rgOk n rs=true):rs.length<=32:=by
 have T:=Bm h;have q:=LQ (n:=n) T.c (fun x hx=>⟨(T.b x hx).2.1,(T.b x hx).2.2⟩) (m:=0) (fun x hx=>(T.b x (List.mem_of_mem_head? hx)).1);have l:(ni rs).length=rs.length:=by unfold ni;rw[aeG]
 have n1:=T.n1;rcases q with q|q
 ·rw[q]at l;simp only[ade]at l;omega
 ·omega
theorem Qm {n a l:Int}{rs:aa}(w:Rw [tI,tI] rs)(hl:rs.length<=65):(rpL n rs a l).length<=65:=by
 cases h:rpB n rs a l with
 |false=>rw[GI h];exact hl
 | true=>
   have g:rgOk n rs=true:=by unfold rpB at h;simp only[AI]at h;exact h.1
   have q:=N4 (n:=n) (a0:=a) (l0:=l) w (by omega);have:=N0 g;omega
section
variable {S : aa} {a b x : Int} {i j : Nat}
theorem Gb (h:i<S.length)(s k:Int)(k0:0<=k):ag (Jm S i s) k 0=ag S k 0/\ag (Jm S i s) k 1=ag S k 1/\ag (Jm S i s) k 2=if k=i then woN (ag S i 2) s else ag S k 2:=by
 unfold Jm;refine⟨?_,?_,?_⟩
 ·rw[Uw (by omega) (by omega) k0];split
  ·rename_i e;rw[e];rfl
  ·rfl
 ·rw[Uw (by omega) (by omega) k0];split
  ·rename_i e;rw[e];rfl
  ·rfl
 ·rw[Uw (by omega) (by omega) k0];rfl
theorem vL {s:Int}:(Jm S i s).length=S.length:=adr
theorem V3 {p k b b':Int}(h:spOk p k b=true)(h0:0<=b')(h1:b'<=b):spOk p k b'=true:=by
 unfold spOk bmOk at h ⊢;simp only[AI,bP]at h ⊢;exact⟨h.1,h.2.1,h0,by omega⟩
theorem abA (g:ta S)(h:i<S.length){t:Nat}(ht:t<=15):ta (Jm S i t):=by
 have sb:=Fa (g.s i h);refine⟨fun k hk=>?_,fun k k' hk hk' e=>?_⟩
 ·rw[vL]at hk;have q:=Gb h t k (by omega);rw[q.1,q.2.1,q.2.2];split
  ·rename_i e;have e':k=i:=by omega
   subst e';have w:=(OE sb.1 sb.2 ht (OF 15)).1;exact V3 (g.s k h) w.1 w.2
  ·exact g.s k hk
 ·rw[vL]at hk hk';rw[(Gb h t k (by omega)).1,(Gb h t k' (by omega)).1]at e;exact g.d k k' hk hk' e
theorem Bt (g:ta S)(h:qo S a i):∃ t:Nat,t<=15/\yN S a i=t/\hsB (ag S i 2) t=true:=by
 have q:=jn g h;have b:=h.b;rw[<-q.2.2]at b;have s:slB (ag S i 2) (yN S a i)=true:=by
  cases s:slB (ag S i 2) (yN S a i)with
  |true=>rfl
  |false=>rw[MB s]at b;cases b
 have r:=KY.1 s;exact⟨(yN S a i).toNat,by omega,by omega,by rw[IS r.2.1];exact b⟩
theorem XK (g:ta S)(h:qo S a i)(k:qo S b j)(ne:a≠b):qo (jh S a) b j:=by
 obtain⟨t,ht,es,hb⟩:=Bt g h;have q:=jn g h;have e1:jh S a=Jm S i t:=by unfold jh;rw[q.1,es]
 have f:=Gb h.l t j (by omega);rw[e1];refine⟨by rw[vL];exact k.l,by rw[f.1];exact k.p,?_,by rw[f.1,f.2.1];exact k.o⟩;rw[f.1,f.2.1,f.2.2];split
 ·rename_i e;have e':j=i:=by omega
  subst e';obtain⟨u,hu,eu,hbu⟩:=Bt g k;have qk:=jn g k;have sb:=Fa (g.s j h.l);rw[<-qk.2.2,eu,(OE sb.1 sb.2 ht hu).2,hbu];have:u≠t:=fun c=>by
   subst c;have o1:=h.o;have o2:=k.o;have w1:=q.2.2;have w2:=qk.2.2;rw[es]at w1;rw[eu]at w2;have d1:=af3 (a-ag S j 0*16) (clsSz (ag S j 1));have d2:=af3 (b-ag S j 0*16) (clsSz (ag S j 1));rw[<-w1,o1]at d1;rw[<-w2,o2]at d2;omega
  rw[decide_eq_true this];rfl
 ·exact k.b
theorem gu {k:Int}(h:i<S.length)(k0:0<=k)(n:Nat):ag (delL S i (i+1)) k n=ag S (if k<i then k else k+1) n:=by
 unfold delL ag;simp only[BY];rw[show((i:Int)).toNat=i by omega,show((i:Int)+1).toNat=i+1 by omega];by_cases c:k<i
 ·rw[if_pos c,adj (by rw[acX];omega),List.getElem?_take_of_lt (by omega)]
 ·rw[if_neg c,ac9 (by rw[acX];omega),List.getElem?_drop];rw[show i+1+(k.toNat- (aeT i S).length)=(k+1).toNat by rw[acX];omega]
theorem Jb (h:i<S.length):(delL S i (i+1)).length+1=S.length:=by
 unfold delL;rw[AT,acX,ac5];omega
theorem Xp (g:ta S)(h:i<S.length):ta (delL S i (i+1)):=by
 have l:=Jb h;have z:∀ k:Nat,k<(delL S i (i+1)).length->∃ k':Nat,k'<S.length/\(if(k:Int)<i then(k:Int)else(k:Int)+1)=k'/\(k'=if k<i then k else k+1):=fun k hk=>by
  by_cases c:k<i;exact⟨k,by omega,by rw[if_pos (by omega)],by rw[if_pos c]⟩;exact⟨k+1,by omega,by rw[if_neg (by omega)];omega,by rw[if_neg c]⟩
 refine⟨fun k hk=>?_,fun k k' hk hk' e=>?_⟩
 ·obtain⟨u,u1,u2,_⟩:=z k hk;rw[gu h (by omega),gu h (by omega),gu h (by omega),u2];exact g.s u u1
 ·obtain⟨u,u1,u2,u3⟩:=z k hk;obtain⟨v,v1,v2,v3⟩:=z k' hk';rw[gu h (by omega),gu h (by omega),u2,v2]at e;have:=g.d u v u1 v1 e;subst this;rw[u3]at v3;split at v3<;>split at v3<;>omega
theorem Ue (h:i<S.length)(z:ag S i 2=0)(k:qo S b j):∃ j',qo (delL S i (i+1)) b j':=by
 have l:=Jb h;have ne:j≠i:=fun e=>by subst e;have:=k.b;rw[z,PM]at this;cases this
 have kl:=k.l;by_cases c:j<i
 ·refine⟨j,by omega,?_,?_,?_⟩
  ·rw[gu h (by omega),if_pos (by omega)];exact k.p
  ·rw[gu h (by omega),gu h (by omega),gu h (by omega),if_pos (by omega)];exact k.b
  ·rw[gu h (by omega),gu h (by omega),if_pos (by omega)];exact k.o
 ·refine⟨j-1,by omega,?_,?_,?_⟩
  ·rw[gu h (by omega),if_neg (by omega),show((j-1:Nat):Int)+1=j by omega];exact k.p
  ·rw[gu h (by omega),gu h (by omega),gu h (by omega),if_neg (by omega),show((j-1:Nat):Int)+1=j by omega];exact k.b
  ·rw[gu h (by omega),gu h (by omega),if_neg (by omega),show((j-1:Nat):Int)+1=j by omega];exact k.o
end
end Go.V
namespace Go.V
theorem RQ {S:aa}{i t:Nat}(w:Rw [tI,tI,tI] S)(g:ta S)(h:i<S.length)(ht:t<=15):Rw [tI,tI,tI] (Jm S i t):=by
 have ok:=nh (g.s i h);have sb:=Fa (g.s i h);have wo:=(OE sb.1 sb.2 ht (OF 15)).1;have k:=bP.1 ok.2.2.1;exact w.set (show cG [tI,tI,tI] [.i (ag S i 0),.i (ag S i 1),.i (woN (ag S i 2) t)]from⟨⟨rfl,show-9223372036854775808<=ag S i 0/\ag S i 0<=9223372036854775807 from by omega⟩,⟨rfl,show-9223372036854775808<=ag S i 1/\ag S i 1<=9223372036854775807 from by omega⟩,⟨rfl,show-9223372036854775808<=woN (ag S i 2) t/\woN (ag S i 2) t<=9223372036854775807 from by omega⟩,trivial⟩) _
section
variable {s : CO} {a b : Int} {i j : Nat} {me : Bool} {kp mv : Int}
theorem L8 (h:Tq s)(v:qo s.S a i):Tq (f1 me kp mv s a):=by
 obtain⟨t,ht,es,hb⟩:=Bt h.g v;have q:=jn h.g v;have e1:jh s.S a=Jm s.S i t:=by unfold jh;rw[q.1,es]
 have g1:ta (jh s.S a):=by rw[e1];exact abA h.g v.l ht
 have w1:Rw [tI,tI,tI] (jh s.S a):=by rw[e1];exact RQ h.rs h.g v.l ht
 have l1:(jh s.S a).length=s.S.length:=by rw[e1];exact vL
 have vl:=v.l;unfold f1;cases c:Hh me kp mv s.S a with
 |false=>exact⟨h.m,h.rc,h.ru,h.re,h.rf,w1,h.lf,by show(jh s.S a).length<=_;rw[l1];exact h.ls,g1⟩
 | true=>
   rw[q.1];have k:=L4 (a0:=s.C) (a1:=s.U) (a2:=s.E) (a6:=jh s.S a) (i:=i);have r:=R5 (p:=ag (jh s.S a) i 0) h.rc h.ru h.re;have d:=Ja (i:=i) (j:=(i:Int)+1) w1 (by omega);refine⟨?_,?_,?_,?_,?_,d.1,?_,?_,Xp g1 (by rw[l1];exact vl)⟩
   ·show BX (dsC _ _ _ _ _) (dsU _ _ _ _ _) (dsE _ _ _ _ _);rw[k.1,k.2.1,k.2.2];exact Yz h.m
   ·show Rw _ (dsC _ _ _ _ _);rw[k.1];exact r.1
   ·show Rw _ (dsU _ _ _ _ _);rw[k.2.1];exact r.2.1
   ·show Rw _ (dsE _ _ _ _ _);rw[k.2.2];exact r.2.2
   ·exact(N4 (n:=zlI (dsE s.C s.U s.E (jh s.S a) i)) (a0:=ag (jh s.S a) i 0) (l0:=1) h.rf (by have:=h.lf;omega)).1
   ·exact Qm (n:=zlI (dsE s.C s.U s.E (jh s.S a) i)) (a:=ag (jh s.S a) i 0) (l:=1) h.rf h.lf
   ·have:=h.ls;show(delL _ _ _).length<=_;omega
theorem Rx (h:Tq s)(v:qo s.S a i)(k:qo s.S b j)(ne:a≠b):∃ j',qo (f1 me kp mv s a).S b j':=by
 have q:=jn h.g v;have w:=XK h.g v k ne;unfold f1;cases c:Hh me kp mv s.S a with
 |false=>exact⟨j,w⟩
 | true=>
   obtain⟨t,ht,es,hb⟩:=Bt h.g v;have e1:jh s.S a=Jm s.S i t:=by unfold jh;rw[q.1,es]
   have l1:(jh s.S a).length=s.S.length:=by rw[e1];exact vL
   unfold Hh at c;simp only[AI,decide_eq_true_eq]at c;have z:=c.1;rw[q.1]at z ⊢;exact Ue (by rw[l1];exact v.l) z w
end
def fN (me:Bool)(kp mv:Int)(l:aa)(s:CO):Nat->CO
 |0=>s
 |n+1=>f1 me kp mv (fN me kp mv l s n) (ag l n 0)
structure We (l:aa)(i:Nat)(s:CO):Prop where
 fr:Tq s
 q:∀ j:Nat,i<=j->j<l.length->∃ k,qo s.S (ag l j 0) k
def Kx (l:aa):Prop:=∀ i j:Nat,i<j->j<l.length->ag l i 0≠ag l j 0
theorem XF {l:aa}{i:Nat}{s:CO}{me:Bool}{kp mv:Int}(d:Kx l)(h:We l i s)(hi:i<l.length):We l (i+1) (f1 me kp mv s (ag l i 0)):=by
 obtain⟨k,v⟩:=h.q i (No _) hi;refine⟨L8 h.fr v,fun j j0 j1=>?_⟩;obtain⟨k',v'⟩:=h.q j (by omega) j1;exact Rx h.fr v v' (d i j (by omega) j1)
theorem Uq {l:aa}{s:CO}{me:Bool}{kp mv:Int}(d:Kx l)(h:We l 0 s):∀ n:Nat,n<=l.length->We l n (fN me kp mv l s n)
 |0,_=>h
 |n+1,hn=>XF d (Uq d h n (by omega)) (by omega)
section
variable {a0 a1 a2 : aa} {a3 : Int} {a4 a5 a6 a7 a8 a9 aA aB : aa} {aC : Int} {aD : aa} {aE aF aG aH : Int} {aI : Bool} {aJ aK : Int} {aL : aa} {aM aN : Int}
theorem Mx {S L:aa}{a k:Int}(h:hlB S L a k=true):∃ i,qo S a i:=by
 unfold hlB at h;simp only[AI,decide_eq_true_eq]at h;obtain⟨e,q,l,t⟩:=Xu h.1;have o:=h.2.1;unfold dnO at o;rw[if_pos q]at o;have u:=(yr.1 t).2;have hk:=h.1;unfold dnK at hk;rw[if_pos q]at hk;have hb:hsB (ag S (jk S a) 2) (yN S a (jk S a))=true:=by
  cases c:hsB (ag S (jk S a) 2) (yN S a (jk S a))with
  |true=>rfl
  |false=>rw[c]at hk;simp at hk
 unfold yN saS at hb;rw[if_pos t]at hb;unfold V0 saO at o;rw[if_pos t]at o;obtain⟨n,en⟩:=adf q;rw[en]at hb o u l;exact⟨n,by omega,by omega,hb,o⟩
theorem RY (hc:rT a0 a1 a2 a4 a5 a6 a7 a8 a9 aA aB aD aL)(h:hpI a0 a1 a2 a3 a4 a5 a6 a7 a8 a9 aA aB aC aD aE aF aG aH aI aJ aK aL aM aN=true):Tq ⟨a0,a1,a2,a5,a6⟩:=by
 have T:=uj h;have l6:=av (es:=a6);have c6:=hc.c6;exact⟨(uq T.k).1,hc.r0,hc.r1,hc.r2,hc.r5,hc.r6,by have:=N0 T.r;show a5.length<=65;omega,by show a6.length<=_;omega,V1 (Vf T.l)⟩
theorem Jj {s:CO}{b13:aa}(hc:rT a0 a1 a2 a4 a5 a6 a7 a8 a9 aA aB aD aL)(h:Tq s)(w:Rw [tI,tI,tI] b13)(l:b13.length<=1073741824):rT s.C s.U s.E a4 s.F s.S a7 a8 a9 aA aB b13 aL:=by
 have n:=JN h.m h.rc h.ru h.re;have f:ak s.F=s.F.length:=h.rf.cnt rfl;have g:ak s.S=s.S.length:=h.rs.cnt rfl;have b:ak b13=b13.length:=w.cnt rfl;have lf:=h.lf;have ls:=h.ls;exact⟨h.rc,h.ru,h.re,hc.r4,h.rf,h.rs,hc.r7,hc.r8,hc.r9,hc.r10,hc.r11,w,hc.r21,by omega,by omega,by omega,hc.c4,by omega,by omega,hc.c7,hc.c8,hc.c9,hc.c10,hc.c11,by omega,hc.c21⟩
end
end Go.V
namespace Go.V
def snB (p k b s:Int):Bool:=spOk p k b&&hsB b s
def snN (p k b s:Int):Int:=if snB p k b s=true then woN b s else b
def fzC (me:Bool)(kp mv:Int)(c u e f s:aa)(a:Int):aa:=(f1 me kp mv ⟨c,u,e,f,s⟩ a).C
def fzU (me:Bool)(kp mv:Int)(c u e f s:aa)(a:Int):aa:=(f1 me kp mv ⟨c,u,e,f,s⟩ a).U
def fzE (me:Bool)(kp mv:Int)(c u e f s:aa)(a:Int):aa:=(f1 me kp mv ⟨c,u,e,f,s⟩ a).E
def fzF (me:Bool)(kp mv:Int)(c u e f s:aa)(a:Int):aa:=(f1 me kp mv ⟨c,u,e,f,s⟩ a).F
def fzS (me:Bool)(kp mv:Int)(c u e f s:aa)(a:Int):aa:=(f1 me kp mv ⟨c,u,e,f,s⟩ a).S
def tkC (me:Bool)(kp mv:Int)(c u e f s l:aa):aa:=(fN me kp mv l ⟨c,u,e,f,s⟩ l.length).C
def tkU (me:Bool)(kp mv:Int)(c u e f s l:aa):aa:=(fN me kp mv l ⟨c,u,e,f,s⟩ l.length).U
def tkE (me:Bool)(kp mv:Int)(c u e f s l:aa):aa:=(fN me kp mv l ⟨c,u,e,f,s⟩ l.length).E
def tkF (me:Bool)(kp mv:Int)(c u e f s l:aa):aa:=(fN me kp mv l ⟨c,u,e,f,s⟩ l.length).F
def tkS (me:Bool)(kp mv:Int)(c u e f s l:aa):aa:=(fN me kp mv l ⟨c,u,e,f,s⟩ l.length).S
def lenI (l:aa):Int:=l.length
def tgB (k:Bool)(c n ck:Int):Bool:=k&&(decide (c≠100000)&&(inR n 0 1000&&decide (ck+n<=1000000)))
def t0B (k:Bool)(c t:Int)(m:aa):Bool:=k&&(decide (c≠100000)&&inR t 0 (m.length-1))
structure TO (me:Bool)(kp mv:Int)(l:aa)(s:CO)(i:Int)(c u e f t:aa):Prop where
 c:c=(fN me kp mv l s i.toNat).C
 u:u=(fN me kp mv l s i.toNat).U
 e:e=(fN me kp mv l s i.toNat).E
 f:f=(fN me kp mv l s i.toNat).F
 t:t=(fN me kp mv l s i.toNat).S
section
variable {me : Bool} {kp mv : Int} {l c u e f t c0 u0 e0 f0 t0 : aa} {s : CO} {i a : Int}
theorem aap :TO me kp mv l ⟨c,u,e,f,t⟩ 0 c u e f t:=⟨rfl,rfl,rfl,rfl,rfl⟩
theorem V4 (h:TO me kp mv l s i c u e f t)(i0:0<=i):TO me kp mv l s (i+1) (fzC me kp mv c u e f t (ag l i 0)) (fzU me kp mv c u e f t (ag l i 0)) (fzE me kp mv c u e f t (ag l i 0)) (fzF me kp mv c u e f t (ag l i 0)) (fzS me kp mv c u e f t (ag l i 0)):=by
 have n:(i+1).toNat=i.toNat+1:=by omega
 have g:ag l i 0=ag l (i.toNat:Int) 0:=by rw[IS i0]
 obtain⟨rfl,rfl,rfl,rfl,rfl⟩:=h;refine⟨?_,?_,?_,?_,?_⟩<;>rw[n,g]<;>rfl
theorem aaq (h:TO me kp mv l s i c u e f t):(⟨c,u,e,f,t⟩:CO)=fN me kp mv l s i.toNat:=by
 obtain⟨rfl,rfl,rfl,rfl,rfl⟩:=h;rfl
theorem QD (h:TO me kp mv l ⟨c0,u0,e0,f0,t0⟩ i c u e f t)(e1:i=l.length):c=tkC me kp mv c0 u0 e0 f0 t0 l/\u=tkU me kp mv c0 u0 e0 f0 t0 l/\e=tkE me kp mv c0 u0 e0 f0 t0 l/\f=tkF me kp mv c0 u0 e0 f0 t0 l/\t=tkS me kp mv c0 u0 e0 f0 t0 l:=by
 obtain⟨rfl,rfl,rfl,rfl,rfl⟩:=h;have n:i.toNat=l.length:=by omega
 rw[n];exact⟨rfl,rfl,rfl,rfl,rfl⟩
theorem aag {p k b x:Int}(h:spOk p k b=true)(g:hsB b x=true):snB p k b x=true/\snN p k b x=woN b x:=by
 have q:snB p k b x=true:=by unfold snB;rw[h,g];rfl
 exact⟨q,by unfold snN;rw[if_pos q]⟩
theorem acJ {p k b x:Int}(h:spOk p k b=false):snB p k b x=false/\snN p k b x=b:=by
 have q:snB p k b x=false:=by unfold snB;rw[h];rfl
 exact⟨q,by unfold snN;rw[q];rfl⟩
theorem acK {p k b x:Int}(h:hsB b x=false):snB p k b x=false/\snN p k b x=b:=by
 have q:snB p k b x=false:=by unfold snB;rw[h];simp
 exact⟨q,by unfold snN;rw[q];rfl⟩
end
theorem Kh {l:aa}{i:Int}(i0:0<=i)(i1:i<=l.length):oW l i.toNat (F2 (l.length:Int) i)=l.drop i.toNat:=by
 unfold oW F2;exact adD (by rw[ac5];omega)
theorem Ki {l:aa}{i:Int}:oW l (afg 0) (F2 i 0)=l.take i.toNat:=by
 unfold oW F2;rw[show afg 0=0 from rfl,List.drop_zero,Nat.sub_zero]
theorem Br {fs:List Ty}{l:aa}{a b:Nat}(h:Rw fs l):Rw fs (oW l a b)/\(oW l a b).length<=l.length:=by
 have q:(oW l a b).length<=l.length:=by unfold oW;rw[acX,ac5];omega
 exact⟨⟨aem q h.1,fun e he=>h.2 e (ad5 (afd he))⟩,q⟩
theorem ZJ {rm i:Int}{qs:aa}(h:quarOk rm qs=true)(w:Rw [tI,tI,tI] qs)(i0:0<=i)(i1:i<qs.length):0<=ag qs i 2/\ag qs i 2<=9223372036854775807:=by
 unfold quarOk at h;simp only[AI]at h;have q:=cJ.1 h.1 i i0 i1;unfold FD stlOk at q;simp only[AI,decide_eq_true_eq]at q;exact⟨q.2.2.1,(AL w (j:=2) rfl (by omega)).2⟩
section
variable {rm now age : Int} {qs : aa}
theorem aca (h:quarOk rm qs=false):KT rm qs now age=false:=by unfold KT;rw[h];rfl
theorem acb (h:inR now 0 1000000=false):KT rm qs now age=false:=by unfold KT;rw[h];simp
theorem acd (h:inR age 0 1000000=false):KT rm qs now age=false:=by unfold KT;rw[h];simp
theorem ace (h:quarOk rm qs=true)(g:inR now 0 1000000=true)(k:inR age 0 1000000=true):KT rm qs now age=true:=by unfold KT;rw[h,g,k];rfl
end
end Go.V
namespace Go.V
section
variable {S L : aa} {a : Int} {i : Nat}
theorem EQ (g:ta S)(h:qo S a i):dnK S L a=1/\dnI S L a=i/\dnS S a=yN S a i:=by
 have q:=jn g h;have n:(0:Int)<=jk S a:=by rw[q.1];omega
 have b:=h.b;rw[<-q.2.2]at b;refine⟨?_,?_,?_⟩
 ·unfold dnK;rw[if_pos n,q.1,b];rfl
 ·unfold dnI;rw[if_pos n,q.1]
 ·unfold dnS;rw[if_pos n,q.1]
theorem A0 (g:ta S)(h:qo S a i):0<=a/\a<=511/\0<=ag S i 0/\ag S i 0<=31:=by
 have t:=(yr.1 (Sd g h)).2;have p:=nh (g.s i h.l);omega
theorem Ry (w:Rw [tI,tI,tI] S)(g:ta S)(h:qo S a i):
 sW (.s 3 S) [((i:Int).toNat,0)] [.i (ag S i 0),.i (ag S i 1),.i (snN (ag S i 0) (ag S i 1) (ag S i 2) (yN S a i))]=jh S a:=by
 obtain⟨t,ht,es,hb⟩:=Bt g h;have q:=jn g h;have n:=aag (p:=ag S i 0) (k:=ag S i 1) (g.s i h.l) hb;have hl:=h.l;rw[es,n.2];unfold jh;rw[q.1,es];unfold Jm;exact lE (by rw[w.eta (by omega) (by omega)];rfl)
theorem Eo (g:ta S)(h:qo S a i):ag (jh S a) i 0=ag S i 0/\(jh S a).length=S.length:=by
 obtain⟨t,ht,es,hb⟩:=Bt g h;have q:=jn g h;have e1:jh S a=Jm S i t:=by unfold jh;rw[q.1,es]
 rw[e1];exact⟨(Gb h.l t i (by omega)).1,vL⟩
theorem L9 (w:Rw [tI,tI,tI] S)(g:ta S)(h:qo S a i):Rw [tI,tI,tI] (jh S a):=by
 obtain⟨t,ht,es,hb⟩:=Bt g h;have q:=jn g h;have e1:jh S a=Jm S i t:=by unfold jh;rw[q.1,es]
 rw[e1];exact RQ w g h.l ht
end
section
variable {me : Bool} {kp mv : Int} {c u e f t : aa} {a : Int} {i : Nat}
theorem Rv (g:ta t)(h:qo t a i)(z:ag (jh t a) i 2=0)(n:bsB me kp mv (ag (jh t a) i 0)=false):Hh me kp mv t a=true:=by
 unfold Hh;rw[(jn g h).1,decide_eq_true z,n];rfl
theorem Rt (g:ta t)(h:qo t a i)(z:ag (jh t a) i 2≠0):Hh me kp mv t a=false:=by
 unfold Hh;rw[(jn g h).1,decide_eq_false z];rfl
theorem Ru (g:ta t)(h:qo t a i)(n:bsB me kp mv (ag (jh t a) i 0)=true):Hh me kp mv t a=false:=by
 unfold Hh;rw[(jn g h).1,n];simp
theorem XM (g:ta t)(h:qo t a i)(b:Hh me kp mv t a=true):fzC me kp mv c u e f t a=dsC c u e (jh t a) i/\fzU me kp mv c u e f t a=dsU c u e (jh t a) i/\fzE me kp mv c u e f t a=dsE c u e (jh t a) i/\fzF me kp mv c u e f t a=dsF c u e f (jh t a) i/\fzS me kp mv c u e f t a=dsS (jh t a) i:=by
 unfold fzC fzU fzE fzF fzS f1;rw[(jn g h).1];simp only[b];exact⟨rfl,rfl,rfl,rfl,rfl⟩
theorem PD (b:Hh me kp mv t a=false):fzC me kp mv c u e f t a=c/\fzU me kp mv c u e f t a=u/\fzE me kp mv c u e f t a=e/\fzF me kp mv c u e f t a=f/\fzS me kp mv c u e f t a=jh t a:=by
 unfold fzC fzU fzE fzF fzS f1;simp only[b];exact⟨rfl,rfl,rfl,rfl,rfl⟩
end
section
variable {a0 a1 a2 a4 a5 a6 a7 a8 a9 aA aB aD aL : aa} {a : Int} {i : Nat}
theorem RU (hc:rT a0 a1 a2 a4 a5 a6 a7 a8 a9 aA aB aD aL)(g:ta a6)(h:qo a6 a i):rT a0 a1 a2 a4 a5 (jh a6 a) a7 a8 a9 aA aB aD aL:=by
 have w:=L9 hc.r6 g h;have c:ak (jh a6 a)=(jh a6 a).length:=w.cnt rfl;have c6:ak a6=a6.length:=hc.r6.cnt rfl;have l:=(Eo g h).2;have k:=hc.c6;exact⟨hc.r0,hc.r1,hc.r2,hc.r4,hc.r5,w,hc.r7,hc.r8,hc.r9,hc.r10,hc.r11,hc.r13,hc.r21,hc.c0,hc.c1,hc.c2,hc.c4,hc.c5,by omega,hc.c7,hc.c8,hc.c9,hc.c10,hc.c11,hc.c13,hc.c21⟩
end
end Go.V
namespace Go.V
def Pm (ck n:Int):Int:=ck+n
section
variable {k : Bool} {c n ck t : Int} {m : aa}
theorem Dw (h:t0B k c t m=true):k=true/\c≠100000/\inR t 0 (m.length-1)=true:=by
 unfold t0B at h;simp only[AI,decide_eq_true_eq]at h;exact h
theorem acM (h:k=false):t0B k c t m=false:=by unfold t0B;rw[h];rfl
theorem acO (h:c=100000):t0B k c t m=false:=by unfold t0B;rw[decide_eq_false (p:=c≠100000) (fun g=>g h)];simp
theorem acP (h:k=true)(g:c≠100000):inR t 0 (m.length-1)=t0B k c t m:=by unfold t0B;rw[h,decide_eq_true g];rfl
theorem W9 {cs us es rs:aa}(h:ccB cs us es c rs=false)(g:kerOk cs us es c rs=true):c=100000:=by
 unfold ccB at h;rw[g,agU]at h;exact ahh.1 (of_decide_eq_false h)
end
section
variable {a0 a1 a2 : aa} {a3 : Int} {a4 a5 a6 a7 a8 a9 aA aB : aa} {aC : Int} {aD : aa} {aE aF aG aH : Int} {aI : Bool} {aJ aK : Int} {aL : aa} {aM aN : Int} {n i : Int} {c u e f t : aa}
structure TiT (aC:Int)(aD:aa)(aF n:Int)(s:CO):Prop where
 b:KT aC aD (Pm aF n) 100=true
 d:Kx (qeR aC aD (Pm aF n) 100)
 q:We (qeR aC aD (Pm aF n) 100) 0 s
 w:Rw [tI,tI,tI] (qeL aC aD (Pm aF n) 100)
 l:(qeL aC aD (Pm aF n) 100).length<=aD.length
 m:(qeR aC aD (Pm aF n) 100).length<=aD.length
 r:Rw [tI,tI,tI] (qeR aC aD (Pm aF n) 100)
end
end Go.V
namespace Go.V
theorem Uf {x:aa}{a:Int}(h:Rw [.sl [tI]] x)(h0:0<=a)(h1:a<x.length):sW (.s 1 x) [(a.toNat,0)] [.g]=x.set a.toNat [.g]:=lE (by rw[h.eta h0 h1];rfl)
theorem Xs {x r:aa}{a:Int}(h:Rw [.sl [tI]] x)(h0:0<=a)(h1:a<x.length):sW (.s 1 (sW (.s 1 x) [(a.toNat,0)] [.g])) [(a.toNat,0)] [.s 1 r]=x.set a.toNat [.s 1 r]:=by
 rw[Uf h h0 h1,lE (by rw[BY,afW (by omega)];rfl),List.set_set]
theorem L3 {x:aa}{a:Int}(h:Rw [.sl [tI]] x)(h0:0<=a)(h1:a<x.length):(sW (.s 1 x) [(a.toNat,0)] [.g]).length=x.length:=by rw[Uf h h0 h1,adr]
theorem L2 {x:aa}{a:Int}(h:Rw [.sl [tI]] x)(h0:0<=a)(h1:a<x.length):∃ rec o,bX (.s 1 (sW (.s 1 x) [(a.toNat,0)] [.g])) [(a.toNat,0)]=some (rec,o)/\o+1<=rec.length:=by
 rw[Uf h h0 h1];exact iu (by rw[adr];omega) (by rw[BY,afW (by omega)];exact No _)
theorem Xr {l:L}{p:List (Nat×Nat)}{k:Nat}{es:aa}(h:gQ l p=some (k,es)):gQ l p=some (k,mW l p):=by unfold mW;rw[h]
theorem abq {x:aa}{a:Int}{r:aa}(h:Rw [.sl [tI]] x)(h0:0<=a)(h1:a<x.length)(hc:ak x<=1073741824)(hr:r.length=1):gQ (.s 1 x) [(a.toNat,0)]=some (1,mW (.s 1 x) [(a.toNat,0)])/\bV (mW (.s 1 x) [(a.toNat,0)])/\((mW (.s 1 x) [(a.toNat,0)]).length+r.length)*8<=70368744177664/\(mW (.s 1 x) [(a.toNat,0)]).length+r.length<=70368744177664:=by
 obtain⟨es,e⟩:=Gg h h0 h1;have g:=jK (es:=x) (i:=a) (j:=0);have l:(ap x a 0).length<=ak (ap x a 0):=by unfold ak;omega
 refine⟨Xr e,?_,?_⟩
 ·rw[lp];exact(Rw.sub (fs:=[.sl [tI]]) (j:=0) (i:=a) h (by omega) rfl).scal rfl
 ·rw[lp];constructor<;>omega
end Go.V
namespace Go.V
theorem LJ {ls:aa}(w:Rw [.sl [tI]] ls)(h:caOk ls=true):ak ls<=36:=by
 have c:=Cv h;have q:bK ls<=8*ls.length:=Eh fun e he=>by
  obtain⟨i,hi,rfl⟩:=afi he;have a:=w.eta (i:=i) (by omega) (by omega);rw[BY,ac4,IT hi,adw]at a;rw[a];show cS [.s 1 (ap ls i 0)]<=8;have l:=c.2 i (by omega);have x:=(Rw.sub (fs:=[.sl [tI]]) (j:=0) (i:=(i:Int)) w (by omega) rfl).cnt rfl;have e:cS [.s 1 (ap ls i 0)]=ak (ap ls i 0):=by simp only[cS,fQ,ak];omega
  rw[e,x];omega
 have:=c.1;unfold ak;omega
def OQ (S:aa)(a:Int):Int:=ag S (jk S a) 1
def OP (S D:aa)(t a:Int):Bool:=rV (ap D t 0) (OQ S a) a
def rcD (S D:aa)(t a:Int):aa:=if OP S D t a=true then D.set t.toNat [.s 1 (CV (ap D t 0) (OQ S a) a)]else D
structure RS where
 s:CO
 D:aa
def r1 (me:Bool)(kp mv t:Int)(z:RS)(a:Int):RS:=⟨if OP z.s.S z.D t a=true then z.s else f1 me kp mv z.s a,rcD z.s.S z.D t a⟩
def rN (me:Bool)(kp mv t:Int)(l:aa)(z:RS):Nat->RS
 |0=>z
 |n+1=>r1 me kp mv t (rN me kp mv t l z n) (ag l n 0)
structure Wd (D:aa)(n B:Nat):Prop where
 w:Rw [.sl [.sl [tI]]] D
 l:D.length=n
 c:ak D<=B
structure WQ (l:aa)(n B i:Nat)(z:RS):Prop where
 fr:Tq z.s
 q:∀ j:Nat,i<=j->j<l.length->∃ k,qo z.s.S (ag l j 0) k
 d:Wd z.D n (B+40*i)
section
variable {S D l : aa} {t a : Int} {n B i : Nat} {me : Bool} {kp mv : Int} {z : RS}
theorem ZO (h:Wd D n B)(t0:0<=t)(t1:t<n)(ha: -9223372036854775808<=a/\a<=9223372036854775807):Wd (rcD S D t a) n (B+40):=by
 have hl:=h.l;have hc:=h.c;unfold rcD;split
 ·rename_i b;unfold OP rV at b;rw[AI]at b;have gw:Rw [.sl [tI]] (ap D t 0):=jQ h.w t0 (by omega);have u:=Rk gw b.1 ha;have k:=LJ u.1 b.2;have q:=tY (es:=D) (n:=t.toNat) (e:=[.s 1 (CV (ap D t 0) (OQ S a) a)]);have e:cS [.s 1 (CV (ap D t 0) (OQ S a) a)]=ak (CV (ap D t 0) (OQ S a) a):=by simp only[cS,fQ,ak];omega
  exact⟨Rw.set h.w (show cG [.sl [.sl [tI]]] [.s 1 (CV (ap D t 0) (OQ S a) a)]from⟨⟨rfl,u.1⟩,trivial⟩) _,by rw[adr];exact hl,by omega⟩
 ·exact⟨h.w,hl,by omega⟩
theorem ZW (d:Kx l)(h:WQ l n B i z)(hi:i<l.length)(t0:0<=t)(t1:t<n):WQ l n B (i+1) (r1 me kp mv t z (ag l i 0)):=by
 obtain⟨k,v⟩:=h.q i (No _) hi;have bd:=A0 h.fr.g v;have e:B+40*(i+1)=B+40*i+40:=by omega
 have D':=ZO (S:=z.s.S) (a:=ag l i 0) h.d t0 t1 (by omega);rw[<-e]at D';by_cases b:OP z.s.S z.D t (ag l i 0)=true
 ·have r:r1 me kp mv t z (ag l i 0)=⟨z.s,rcD z.s.S z.D t (ag l i 0)⟩:=by unfold r1;rw[if_pos b]
  rw[r];exact⟨h.fr,fun j j0 j1=>h.q j (by omega) j1,D'⟩
 ·have r:r1 me kp mv t z (ag l i 0)=⟨f1 me kp mv z.s (ag l i 0),rcD z.s.S z.D t (ag l i 0)⟩:=by unfold r1;rw[if_neg b]
  rw[r];refine⟨L8 h.fr v,fun j j0 j1=>?_,D'⟩;obtain⟨k',v'⟩:=h.q j (by omega) j1;exact Rx h.fr v v' (d i j (by omega) j1)
theorem VO (d:Kx l)(h:WQ l n B 0 z)(t0:0<=t)(t1:t<n):∀ m:Nat,m<=l.length->WQ l n B m (rN me kp mv t l z m)
 |0,_=>h
 |m+1,hm=>ZW d (VO d h t0 t1 m (by omega)) (by omega) t0 t1
end
def rcC (me:Bool)(kp mv:Int)(c u e f s x:aa)(t a:Int):aa:=(r1 me kp mv t ⟨⟨c,u,e,f,s⟩,x⟩ a).s.C
def rcU (me:Bool)(kp mv:Int)(c u e f s x:aa)(t a:Int):aa:=(r1 me kp mv t ⟨⟨c,u,e,f,s⟩,x⟩ a).s.U
def rcE (me:Bool)(kp mv:Int)(c u e f s x:aa)(t a:Int):aa:=(r1 me kp mv t ⟨⟨c,u,e,f,s⟩,x⟩ a).s.E
def rcF (me:Bool)(kp mv:Int)(c u e f s x:aa)(t a:Int):aa:=(r1 me kp mv t ⟨⟨c,u,e,f,s⟩,x⟩ a).s.F
def rcS (me:Bool)(kp mv:Int)(c u e f s x:aa)(t a:Int):aa:=(r1 me kp mv t ⟨⟨c,u,e,f,s⟩,x⟩ a).s.S
def raC (me:Bool)(kp mv:Int)(c u e f s x:aa)(t:Int)(l:aa):aa:=(rN me kp mv t l ⟨⟨c,u,e,f,s⟩,x⟩ l.length).s.C
def raU (me:Bool)(kp mv:Int)(c u e f s x:aa)(t:Int)(l:aa):aa:=(rN me kp mv t l ⟨⟨c,u,e,f,s⟩,x⟩ l.length).s.U
def raE (me:Bool)(kp mv:Int)(c u e f s x:aa)(t:Int)(l:aa):aa:=(rN me kp mv t l ⟨⟨c,u,e,f,s⟩,x⟩ l.length).s.E
def raF (me:Bool)(kp mv:Int)(c u e f s x:aa)(t:Int)(l:aa):aa:=(rN me kp mv t l ⟨⟨c,u,e,f,s⟩,x⟩ l.length).s.F
def raS (me:Bool)(kp mv:Int)(c u e f s x:aa)(t:Int)(l:aa):aa:=(rN me kp mv t l ⟨⟨c,u,e,f,s⟩,x⟩ l.length).s.S
def raD (me:Bool)(kp mv:Int)(c u e f s x:aa)(t:Int)(l:aa):aa:=(rN me kp mv t l ⟨⟨c,u,e,f,s⟩,x⟩ l.length).D
section
variable {me : Bool} {kp mv t a : Int} {c u e f s x : aa}
theorem acp (b:OP s x t a=true):rcC me kp mv c u e f s x t a=c/\rcU me kp mv c u e f s x t a=u/\rcE me kp mv c u e f s x t a=e/\rcF me kp mv c u e f s x t a=f/\rcS me kp mv c u e f s x t a=s/\rcD s x t a=x.set t.toNat [.s 1 (CV (ap x t 0) (OQ s a) a)]:=by
 unfold rcC rcU rcE rcF rcS r1 rcD;simp only[b,if_true];exact⟨trivial,trivial,trivial,trivial,trivial,trivial⟩
theorem aco (b:OP s x t a=false):rcC me kp mv c u e f s x t a=fzC me kp mv c u e f s a/\rcU me kp mv c u e f s x t a=fzU me kp mv c u e f s a/\rcE me kp mv c u e f s x t a=fzE me kp mv c u e f s a/\rcF me kp mv c u e f s x t a=fzF me kp mv c u e f s a/\rcS me kp mv c u e f s x t a=fzS me kp mv c u e f s a/\rcD s x t a=x:=by
 unfold rcC rcU rcE rcF rcS r1 rcD;simp only[b];exact⟨rfl,rfl,rfl,rfl,rfl,rfl⟩
end
structure OJ (me:Bool)(kp mv t:Int)(l:aa)(z:RS)(i:Int)(c u e f s x:aa):Prop where
 c:c=(rN me kp mv t l z i.toNat).s.C
 u:u=(rN me kp mv t l z i.toNat).s.U
 e:e=(rN me kp mv t l z i.toNat).s.E
 f:f=(rN me kp mv t l z i.toNat).s.F
 s:s=(rN me kp mv t l z i.toNat).s.S
 x:x=(rN me kp mv t l z i.toNat).D
section
variable {me : Bool} {kp mv t : Int} {l c u e f s x c0 u0 e0 f0 s0 x0 : aa} {z : RS} {i : Int}
theorem SN :OJ me kp mv t l ⟨⟨c,u,e,f,s⟩,x⟩ 0 c u e f s x:=⟨rfl,rfl,rfl,rfl,rfl,rfl⟩
theorem NR (h:OJ me kp mv t l z i c u e f s x)(i0:0<=i):OJ me kp mv t l z (i+1) (rcC me kp mv c u e f s x t (ag l i 0)) (rcU me kp mv c u e f s x t (ag l i 0)) (rcE me kp mv c u e f s x t (ag l i 0)) (rcF me kp mv c u e f s x t (ag l i 0)) (rcS me kp mv c u e f s x t (ag l i 0)) (rcD s x t (ag l i 0)):=by
 have n:(i+1).toNat=i.toNat+1:=by omega
 have g:ag l i 0=ag l (i.toNat:Int) 0:=by rw[IS i0]
 obtain⟨rfl,rfl,rfl,rfl,rfl,rfl⟩:=h;refine⟨?_,?_,?_,?_,?_,?_⟩<;>rw[n,g]<;>rfl
theorem ZN (h:OJ me kp mv t l z i c u e f s x):(⟨⟨c,u,e,f,s⟩,x⟩:RS)=rN me kp mv t l z i.toNat:=by
 obtain⟨rfl,rfl,rfl,rfl,rfl,rfl⟩:=h;rfl
theorem J8 (h:OJ me kp mv t l ⟨⟨c0,u0,e0,f0,s0⟩,x0⟩ i c u e f s x)(e1:i=l.length):c=raC me kp mv c0 u0 e0 f0 s0 x0 t l/\u=raU me kp mv c0 u0 e0 f0 s0 x0 t l/\e=raE me kp mv c0 u0 e0 f0 s0 x0 t l/\f=raF me kp mv c0 u0 e0 f0 s0 x0 t l/\s=raS me kp mv c0 u0 e0 f0 s0 x0 t l/\x=raD me kp mv c0 u0 e0 f0 s0 x0 t l:=by
 obtain⟨rfl,rfl,rfl,rfl,rfl,rfl⟩:=h;have n:i.toNat=l.length:=by omega
 rw[n];exact⟨rfl,rfl,rfl,rfl,rfl,rfl⟩
end
theorem EG {l:aa}{f:Nat}:∀ {n j:Nat},j<n->(iq l f n)[j]?=some (ag l j f)
 |0,_,h=>absurd h (ad8 _)
 | n+1,j,h=>by
   simp only[iq];by_cases c:j<n
   ·rw[adj (by rw[de];exact c)];exact EG c
   ·have e:j=n:=by omega
    subst e;rw[ac9 (by rw[de];exact No _),de,afc];rfl
theorem Rn {l:aa}(h:(iq l 0 l.length).Nodup):Kx l:=fun i j ij hj e=>by
 have a:=EG (l:=l) (f:=0) (n:=l.length) (j:=i) (by omega);have b:=EG (l:=l) (f:=0) (n:=l.length) hj;rw[e, <-b]at a;have:=(List.getElem?_inj (by rw[de];omega) h).1 a;omega
theorem Mq {x:aa}:∀ {n t:Nat},t<n->∃ p r,qm x n=p++ap x t 0++r
 |0,_,h=>absurd h (ad8 _)
 | n+1,t,h=>by
   simp only[qm];by_cases c:t<n
   ·obtain⟨p,r,e⟩:=Mq (x:=x) c;exact⟨p,r++ap x n 0,by rw[e,IN]⟩
   ·have e:t=n:=by omega
    subst e;exact⟨qm x t,[],by rw[adP]⟩
theorem vN {p m r:aa}{j k:Nat}(h:j<m.length):ag (p++m++r) ((p.length+j:Nat):Int) k=ag m j k:=by
 have e:(p++m++r).getD (p.length+j) []=m.getD j []:=by
  rw[BY,BY,IN,ac9 (by omega),adj (by omega),Nat.add_sub_cancel_left]
 unfold ag;rw[ac4,ac4,e]
theorem MJ {b x:aa}{t:Int}(h:mailOk b x=true)(t0:0<=t)(t1:t<x.length):∃ p r,ifL b x=p++ap x t 0++r:=by
 obtain⟨p,r,e⟩:=Mq (x:=x) (n:=x.length) (t:=t.toNat) (by omega);rw[IS t0]at e;unfold ifL;rw[if_pos h,e];exact⟨La b b.length++p,r,by simp only[IN]⟩
theorem Uh {p m r:aa}(h:Kx (p++m++r)):Kx m:=fun i j ij hj=>by
 have q:=h (p.length+i) (p.length+j) (by omega) (by simp only[AT];omega);rw[vN (by omega),vN hj]at q;exact q
section
variable {a0 a1 a2 : aa} {a3 : Int} {a4 a5 a6 a7 a8 a9 aA aB : aa} {aC : Int} {aD : aa} {aE aF aG aH : Int} {aI : Bool} {aJ aK : Int} {aL : aa} {aM aN t : Int}
theorem XX (h:hpI a0 a1 a2 a3 a4 a5 a6 a7 a8 a9 aA aB aC aD aE aF aG aH aI aJ aK aL aM aN=true):Kx (ifL aA aB)/\∀ j:Nat,j<(ifL aA aB).length->∃ k,qo a6 (ag (ifL aA aB) j 0) k:=by
 have T:=uj h;have q:=T.h;refine⟨?_,fun j hj=>?_⟩
 ·rw[Jp T.l T.o]at q;unfold hoS at q;simp only[AI,decide_eq_true_eq]at q;have nd:=q.1.2.2.2.1;unfold Hi at nd;exact Rn (ac3.1 nd).2.1
 ·unfold hoI at q;simp only[AI]at q;have z:=cJ.1 q.2.2.1 j (by omega) (by omega);unfold jA at z;exact Mx z
theorem XY (h:hpI a0 a1 a2 a3 a4 a5 a6 a7 a8 a9 aA aB aC aD aE aF aG aH aI aJ aK aL aM aN=true)(t0:0<=t)(t1:t<aB.length):Kx (ap aB t 0)/\∀ j:Nat,j<(ap aB t 0).length->∃ k,qo a6 (ag (ap aB t 0) j 0) k:=by
 have T:=uj h;have f:=XX h;obtain⟨p,r,e⟩:=MJ T.m t0 t1;rw[e]at f;refine⟨Uh f.1,fun j hj=>?_⟩;have q:=f.2 (p.length+j) (by simp only[AT];omega);rw[vN hj]at q;exact q
end
end Go.V
namespace Go.V
def sdP (to a:Int):ay:=[.i to,.i a]
def sdU (b:aa)(f to a:Int):aa:=b.set f.toNat [.s 2 (ap b f 0++[sdP to a])]
def sdB (b x:aa)(f to a:Int):Bool:=htB b x f&&mailOk (sdU b f to a) x
def sdL (b x:aa)(f to a:Int):aa:=if sdB b x f to a=true then sdU b f to a else b
def coX (b x:aa)(t:Int):aa:=if htB b x t=true then x.set t.toNat [.s 1 []]else x
def coT (b x:aa)(t:Int):aa:=if htB b x t=true then ap x t 0 else[]
section
variable {b x : aa} {f t to a : Int}
theorem abi (h:htB b x t=false):coX b x t=x/\coT b x t=[]:=by unfold coX coT;rw[h];exact⟨rfl,rfl⟩
theorem Xk (h:htB b x t=true):coX b x t=x.set t.toNat [.s 1 []]/\coT b x t=ap x t 0:=by unfold coX coT;rw[if_pos h,if_pos h];exact⟨rfl,rfl⟩
theorem Yg (h:htB b x f=true):mailOk b x=true:=by unfold htB at h;rw[AI]at h;exact h.2
theorem Yh (h:htB b x t=true):0<=t/\t<x.length:=by
 have q:=UJ h;have m:=Nk (Yg h);omega
theorem LY (hx:Rw [.sl [tI]] x):Rw [.sl [tI]] (coX b x t)/\ak (coX b x t)<=ak x+4:=by
 unfold coX;split
 ·have s:=tY (es:=x) (n:=t.toNat) (e:=[.s 1 []]);have e:cS [.s 1 []]<=4:=by simp[cS,fQ,bK]
  exact⟨Rw.set hx (show cG [.sl [tI]] [.s 1 []]from⟨⟨rfl,Rw.nil⟩,trivial⟩) _,by omega⟩
 ·exact⟨hx,by omega⟩
theorem Ei (hx:Rw [.sl [tI]] x)(cx:ak x<=1073741824):Rw [tI] (coT b x t)/\(coT b x t).length<=1073741824:=by
 unfold coT;split
 ·rename_i h;have q:=Yh h;have g:=jK (es:=x) (i:=t) (j:=0);have l:(ap x t 0).length<=ak (ap x t 0):=by unfold ak;omega
  exact⟨jQ hx q.1 q.2,by omega⟩
 ·exact⟨Rw.nil,OF _⟩
end
section
variable {a0 a1 a2 : aa} {a3 : Int} {a4 a5 a6 a7 a8 a9 aA aB : aa} {aC : Int} {aD : aa} {aE aF aG aH : Int} {aI : Bool} {aJ aK : Int} {aL : aa} {aM aN t i : Int} {c u e f s x : aa}
theorem Vg {b x:aa}{t:Int}(h:mailOk b x=true)(t0:0<=t)(t1:t<x.length):(ap x t 0).length<=30:=by
 obtain⟨p,r,e⟩:=MJ h t0 t1;have:=EA (b:=b) (x:=x);rw[e]at this;simp only[AT]at this;omega
structure CoI (a9 aA aB:aa)(t:Int)(z:CO):Prop where
 h:htB aA aB t=true
 t0:0<=t
 t1:t<a9.length
 d:Kx (coT aA aB t)
 q:WQ (coT aA aB t) a9.length 1000000000 0 ⟨z,a9⟩
 l:(coT aA aB t).length<=30
theorem HI (hc:rT a0 a1 a2 a4 a5 a6 a7 a8 a9 aA aB aD aL)(h9:ak a9<=1000000000)(h:hpI a0 a1 a2 a3 a4 a5 a6 a7 a8 a9 aA aB aC aD aE aF aG aH aI aJ aK aL aM aN=true)(g:inR t 0 (a9.length-1)=true):CoI a9 aA aB t ⟨a0,a1,a2,a5,a6⟩:=by
 have T:=uj h;have n:a9.length=aA.length:=of_decide_eq_true T.n;have r:=bP.1 g;have hb:htB aA aB t=true:=by unfold htB;rw[T.m, <-n,g];rfl
 have m:=Nk T.m;have z:=Xk hb;have p:=XY (t:=t) h r.1 (by omega);refine⟨hb,r.1,by omega,by rw[z.2];exact p.1,⟨RY hc h,fun j _ hj=>?_,⟨hc.r9,rfl,h9⟩⟩,by rw[z.2];exact Vg T.m r.1 (by omega)⟩;rw[z.2]at hj ⊢;exact p.2 j hj
theorem Ej (hc:rT a0 a1 a2 a4 a5 a6 a7 a8 a9 aA aB aD aL)(h:hpI a0 a1 a2 a3 a4 a5 a6 a7 a8 a9 aA aB aC aD aE aF aG aH aI aJ aK aL aM aN=true)(h11:ak aB<=1000000000)(hn:a3≠100000)(T:CoI a9 aA aB t ⟨a0,a1,a2,a5,a6⟩) 
 (P:OJ aI aJ aK t (coT aA aB t) ⟨⟨a0,a1,a2,a5,a6⟩,a9⟩ i c u e f s x) (i0:0<=i) (i1:i<(coT aA aB t).length):
 rT c u e a4 f s a7 a8 x aA (coX aA aB t) aD aL/\kerOk c u e a3 a4=true/\a3≠100000/\f.length<=65/\ta s/\(∃ k,qo s (ag (coT aA aB t) i 0) k)/\0<=t/\t<x.length:=by
 have I:=VO (me:=aI) (kp:=aJ) (mv:=aK) T.d T.q T.t0 T.t1 i.toNat (by omega);rw[<-ZN P]at I;have k:=uq (uj h).k;have H:=Jj (b13:=aD) hc I.fr hc.r13 (by rw[<-hc.r13.cnt rfl];exact hc.c13);have X:=LY (b:=aA) (t:=t) hc.r11;have D:=I.d;have dw:=D.w;have dl:=D.l;have dc:=D.c;have tl:=T.l;have t0:=T.t0;have t1:=T.t1;simp only at dw dl dc;obtain⟨j,v⟩:=I.q i.toNat (No _) (by omega);rw[IS i0]at v;exact⟨{H with r9:=dw,c9:=by omega,r11:=X.1,c11:=by omega},HY I.fr.m k.2.1 k.2.2.1 k.2.2.2,hn,I.fr.lf,I.fr.g,⟨j,v⟩,t0,by omega⟩
theorem Rf (hc:rT a0 a1 a2 a4 a5 a6 a7 a8 a9 aA aB aD aL)(h9:ak a9<=1000000000)(h11:ak aB<=1000000000){b:Bool}(e:b=t0B (hpI a0 a1 a2 a3 a4 a5 a6 a7 a8 a9 aA aB aC aD aE aF aG aH aI aJ aK aL aM aN) a3 t a9):
 rT (ifR b (raC aI aJ aK a0 a1 a2 a5 a6 a9 t (coT aA aB t)) a0) (ifR b (raU aI aJ aK a0 a1 a2 a5 a6 a9 t (coT aA aB t)) a1) (ifR b (raE aI aJ aK a0 a1 a2 a5 a6 a9 t (coT aA aB t)) a2) a4
  (ifR b (raF aI aJ aK a0 a1 a2 a5 a6 a9 t (coT aA aB t)) a5) (ifR b (raS aI aJ aK a0 a1 a2 a5 a6 a9 t (coT aA aB t)) a6) a7 a8 (ifR b (raD aI aJ aK a0 a1 a2 a5 a6 a9 t (coT aA aB t)) a9) aA (ifR b (coX aA aB t) aB) aD aL:=by
 cases b with
 |false=>exact hc
 | true=>
   have g:=Dw e.symm;have T:=HI hc h9 g.1 g.2.2;have I:=VO (me:=aI) (kp:=aJ) (mv:=aK) T.d T.q T.t0 T.t1 _ (No _);have H:=Jj (b13:=aD) hc I.fr hc.r13 (by rw[<-hc.r13.cnt rfl];exact hc.c13);have X:=LY (b:=aA) (t:=t) hc.r11;have D:=I.d;have dw:=D.w;have dc:=D.c;have tl:=T.l;exact {H with r9:=dw,c9:=by show ak (rN _ _ _ _ _ _ _).D<=_;omega,r11:=X.1,c11:=by show ak (coX _ _ _)<=_;omega}
end
end Go.V
namespace Go.V
theorem GB {ls:aa}(h:Rw [.sl [tI]] ls)(hc:ak ls<=1099511627776):TC ls:=by
 refine⟨h,by unfold ak at hc;omega,fun i=>?_⟩;have:=jK (es:=ls) (i:=i) (j:=0);unfold ak at this hc;omega
section
variable {ls : aa} {k a : Int}
theorem Xa (h:inR k 0 3=false):clB ls k=false:=by unfold clB;rw[h];rfl
theorem Xb (h:inR k 0 3=true):clB ls k=caOk ls:=by unfold clB;rw[h];rfl
theorem Xc (h:caOk ls=false):clB ls k=false:=by unfold clB;rw[h];simp
theorem Xd (h:caOk ls=true):clB ls k=inR k 0 3:=by unfold clB;rw[h];simp
theorem abk (h:clB ls k=false):rV ls k a=false:=by unfold rV;rw[h];rfl
theorem abl (h:caOk (CV ls k a)=false):rV ls k a=false:=by unfold rV;rw[h];simp
theorem abm (h:clB ls k=true)(g:caOk (CV ls k a)=true):rV ls k a=true:=by unfold rV;rw[h,g];rfl
theorem abn (h:Rw [.sl [tI]] ls)(g:clB ls k=true):sW (.s 1 (sW (.s 1 ls) [(k.toNat,0)] [.g])) [(k.toNat,0)] [.s 1 (ap ls k 0++[[.i a]])]=CV ls k a:=by
 have c:=Ap g;rw[Xs h c.1 (by omega)];rfl
theorem MZ {b b':aa}{r r':Bool}(h1:b=b')(h3:r=r'):[DV.agg [.s 1 b],DV.k r]=[DV.agg [.s 1 b'],DV.k r']:=by rw[h1,h3]
theorem Ud (h:Rw [.sl [tI]] ls)(hc:ak ls<=1073741824)(g:clB ls k=true)(ha: -9223372036854775808<=a/\a<=9223372036854775807):Rw [.sl [tI]] (CV ls k a)/\ak (CV ls k a)<=1099511627776:=by
 have q:=Rk h g ha;exact⟨q.1,by omega⟩
theorem Uc (h:Rw [.sl [tI]] ls)(hc:ak ls<=1073741824)(g:clB ls k=true):gQ (.s 1 ls) [(k.toNat,0)]=some (1,ap ls k 0)/\bV (ap ls k 0)/\((ap ls k 0).length+1)*8<=70368744177664/\(ap ls k 0).length+1<=70368744177664:=by
 have c:=Ap g;have q:=abq (r:=[[.i 0]]) h c.1 (by omega) hc rfl;simp only[lp,ac7,ade]at q;exact q
end
section
variable {b x : aa} {f to a t : Int}
theorem abj (h:Rw [.sl [tI]] x)(t0:0<=t)(t1:t<x.length):sW (.s 1 x) [(t.toNat,0)] [.s 1 []]=x.set t.toNat [.s 1 []]:=Kq h t0 t1
end
section
variable {D s : aa} {t ad : Int} {i : Nat}
theorem Or {b x:aa}{i:Int}(h:Rw [.sl [.sl [tI]]] b)(h0:0<=i)(h1:i<b.length):sW (.s 1 b) [(i.toNat,0)] [.s 1 x]=b.set i.toNat [.s 1 x]:=lE (by rw[h.eta h0 h1];rfl)
theorem AK {cs:aa}{fr:Int}(h:Rw [.sl [.sl [tI]]] cs)(h0:0<=fr)(h1:fr<cs.length):∃ rec o,bX (.s 1 cs) [(fr.toNat,0)]=some (rec,o)/\o+[L.s 1 []].length<=rec.length/\aeT [L.s 1 []].length (aeU o rec)=ou ah (.s 1 cs) [(fr.toNat,0)] 0 [L.s 1 []]:=by
 refine⟨[.s 1 (ap cs fr 0)],0,?_,No _,?_⟩
 ·show(cs[fr.toNat]?).map (·,0)=_;rw[IZ h h0 h1];rfl
 ·show[L.s 1 (ap cs fr 0)]=[L.s 1 (mW (.s 1 cs) [(fr.toNat,0)])];rw[lp]
theorem vM {cs:aa}{fr:Int}(h:Rw [.sl [.sl [tI]]] cs)(h0:0<=fr)(h1:fr<cs.length):gQ (.s 1 cs) [(fr.toNat,0)]=some (1,ap cs fr 0):=by
 unfold gQ;show(match(cs[fr.toNat]?).map (·,0)with
  | some (rec,o)=>match rec[o]? with
    |some (.s sz es)=>some (sz,es)
    |_=>none
  |none=>none)=_
 rw[IZ h h0 h1];rfl
theorem JF {o:aa}{n:Int}(h:Rw [tI] o)(n0:0<=n)(n1:n<o.length):∃ rec o',bX (L.s 1 o) [(n.toNat,0)]=some (rec,o')/\o'+[L.v (adg adl 0)].length<=rec.length/\aeT [L.v (adg adl 0)].length (aeU o' rec)=ou ah (L.s 1 o) [(n.toNat,0)] 0 [L.v (adg adl 0)]:=
 kg (z0:=[.i 0]) (z:=[.i 0]) h.wf (by omega) rfl (by decide)
theorem SP (g:ta s)(v:qo s ad i):OQ s ad=ag s i 1:=by unfold OQ;rw[(jn g v).1]
theorem SO (g:ta s)(v:qo s ad i):OP s D t ad=rV (ap D t 0) (ag s i 1) ad:=by unfold OP;rw[SP g v]
theorem ZP (g:ta s)(v:qo s ad i)(h:Rw [.sl [.sl [tI]]] D)(t0:0<=t)(t1:t<D.length)(b:rV (ap D t 0) (ag s i 1) ad=true):sW (.s 1 D) [(t.toNat,0)] [.s 1 (KC (ap D t 0) (ag s i 1) ad)]=D.set t.toNat [.s 1 (CV (ap D t 0) (OQ s ad) ad)]:=by
 rw[Or h t0 t1,Xm b,SP g v]
end
section
variable {k : Bool} {c t : Int} {m : aa}
theorem aal (h:inR t 0 (m.length-1)=false):t0B k c t m=false:=by unfold t0B;rw[h];simp
theorem aam (h:c=100000):t0B k c t m=false:=by unfold t0B;rw[decide_eq_false (p:=c≠100000) (fun n=>n h)];simp
theorem Te (h:inR t 0 (m.length-1)=true)(g:c≠100000):t0B k c t m=k:=by unfold t0B;rw[h,decide_eq_true g];simp
end
section
variable {ls : aa} {k n : Int}
theorem Xf (h:clB ls k=false):I4 ls k n=false:=by unfold I4;rw[h];rfl
theorem Xg (h:n<1):I4 ls k n=false:=by unfold I4;rw[decide_eq_false (p:=1<=n) (by omega)];simp
theorem Xh (h:clB ls k=true)(g:1<=n):I4 ls k n=true:=by unfold I4;rw[h,decide_eq_true g];rfl
end
end Go.V
namespace Go.V
def HM (ls:aa):Nat->aa
 |0=>ls
 |n+1=>clK (HM ls n) n 8
theorem XN {ls:aa}{r:ay}{n i:Nat}(h:i≠n):ap (ls.set n r) i 0=ap ls i 0:=by
 unfold ap;rw[BY (l:=ls.set _ _),BY (l:=ls),ac4,List.getElem?_set_ne (by omega)]
theorem LR {a b:aa}{i:Int}(h:ap a i 0=ap b i 0):∀ n,s7 a i n=s7 b i n
 |0=>rfl
 |n+1=>by rw[s7,s7,LR h n,h]
theorem TZ {ls a:aa}(h:caOk ls=true)(l:a.length=4)(s:∀ i:Nat,i<4->ap a i 0=ap ls i 0\/ap a i 0=[]):caOk a=true:=by
 unfold caOk at h ⊢;simp only[AI,decide_eq_true_eq]at h ⊢;refine⟨l,cJ.2 fun i i0 i1=>?_,?_⟩
 ·have e:((i.toNat:Nat):Int)=i:=IS i0;have q:=s i.toNat (by omega);rw[e]at q;rcases q with q|q
  ·have c:=cJ.1 h.2.1 i i0 i1;have f:LI a i=LI ls i:=by funext k;unfold LI;rw[q]
   unfold OL at c ⊢;rw[q,f];exact c
  ·unfold OL;rw[q];rfl
 ·have sub:∀ n,n<=4->(s8 a n).Sublist (s8 ls n):=fun n=>by
   induction n with
   |zero=>intro _;exact afQ _
   | succ n ih=>
     intro hn;rw[s8,s8];refine ag8 (ih (by omega)) ?_;rcases s n (by omega)with q|q
     ·rw[LR q,q];exact afQ _
     ·rw[q];exact List.nil_sublist _
  exact h.2.2.sublist (sub 4 (No _))
section
variable {ls : aa} {k n : Int}
theorem Xo (h:1<=n):mmI false n ((ap ls k 0).length:Int)=(Av ls k n:Int):=by
 unfold Av;show(if((ap ls k 0).length:Int)<n then((ap ls k 0).length:Int)else n)=_;split<;>omega
theorem Rl :(Av ls k n:Int)<=(ap ls k 0).length:=by unfold Av;omega
theorem Pq :oW (ap ls k 0) (Av ls k n) (F2 ((ap ls k 0).length:Int) (Av ls k n:Int))=(ap ls k 0).drop (Av ls k n):=by
 have q:=Kh (l:=ap ls k 0) (i:=(Av ls k n:Int)) (by omega) Rl;rw[ac4]at q;exact q
theorem Ps :oW (ap ls k 0) (afg 0) (F2 (Av ls k n:Int) 0)=(ap ls k 0).take (Av ls k n):=by
 have q:=Ki (l:=ap ls k 0) (i:=(Av ls k n:Int));rw[ac4]at q;exact q
end
section
variable {c : aa}
theorem Mk {ls:aa}{n:Nat}(h:caOk ls=true)(hn:n<4):I4 ls n 8=true:=by
 unfold I4 clB;rw[h,bP.2 ⟨by omega,by omega⟩];rfl
theorem Ml {ls:aa}{n:Nat}(h:caOk ls=true)(hn:n<4):Av ls n 8=(ap ls n 0).length:=by
 have:=(Cv h).2 n hn;unfold Av;rw[show afg 8=8 from rfl];omega
theorem Mj (h:caOk c=true):∀ n:Nat,n<=4->(HM c n).length=4/\caOk (HM c n)=true/\∀ i:Nat,i<4->ap (HM c n) i 0=if i<n then[]else ap c i 0
 |0,_=>⟨(Cv h).1,h,fun i _=>by rw[if_neg (by omega)];rfl⟩
 | n+1,hn=>by
   have ih:=Mj h n (by omega);have e:HM c (n+1)=(HM c n).set n [.s 1 []]:=by
    have q:=(FU (Mk ih.2.1 (show n<4 by omega))).1;rw[Ml ih.2.1 (by omega),List.drop_length]at q;exact q
   have l:(HM c (n+1)).length=4:=by rw[e,adr];exact ih.1
   have g:∀ i:Nat,i<4->ap (HM c (n+1)) i 0=if i<n+1 then[]else ap c i 0:=fun i hi=>by
    rw[e];by_cases q:i=n
    ·subst q;rw[if_pos (by omega)];have z:=Ms (cs:=HM c i) (r:=[]) (n:=(i:Int)) (sz:=1) (by rw[ac4,ih.1];omega);rw[ac4]at z;exact z
    ·rw[XN q,ih.2.2 i hi];by_cases w:i<n
     ·rw[if_pos w,if_pos (by omega)]
     ·rw[if_neg w,if_neg (by omega)]
   refine⟨l,TZ h l fun i hi=>?_,g⟩;rw[g i hi];split;exact .inr rfl;exact .inl rfl
theorem aby (h:caOk c=true){n:Nat}(hn:n<4):clT (HM c n) n 8=ap c n 0:=by
 have a:=Mj h n (by omega);rw[(FU (Mk a.2.1 hn)).2,Ml a.2.1 hn,aea,a.2.2 n hn,if_neg (by omega)]
theorem RH (w:Rw [.sl [tI]] c):∀ n,Rw [.sl [tI]] (HM c n)
 |0=>w
 |n+1=>(T8 (RH w n)).1
end
def Es (D:aa)(t:Int):Nat->aa
 |0=>D
 |n+1=>(Es D t n).set t.toNat [.s 1 (clK (ap (Es D t n) t 0) n 8)]
def fuD (D:aa)(t:Int):aa:=Es D t 4
def fuL (D:aa)(t:Int):aa:=qm (ap D t 0) 4
section
variable {D : aa} {t : Int} {n B : Nat}
theorem Et :∀ m,(Es D t m).length=D.length
 |0=>rfl
 |m+1=>by rw[Es,adr,Et m]
theorem Mo (t1:t.toNat<D.length):∀ m,ap (Es D t m) t 0=HM (ap D t 0) m
 |0=>rfl
 |m+1=>by rw[Es,Ms (by rw[Et];exact t1),Mo t1 m];rfl
theorem Jl (h:Wd D n B)(t0:0<=t)(t1:t<n)(k:caOk (ap D t 0)=true):∀ m,m<=4->Wd (Es D t m) n (B+40*m)
 |0,_=>h
 | m+1,hm=>by
   have ih:=Jl h t0 t1 k m (by omega);have hl:=h.l;have e:HM (ap D t 0) (m+1)=clK (ap (Es D t m) t 0) m 8:=by rw[Mo (by omega)];rfl
   have w:Rw [.sl [tI]] (HM (ap D t 0) (m+1)):=RH (jQ h.w t0 (by omega)) _;have c:=LJ w (Mj k (m+1) hm).2.1;rw[e]at w c;have q:=tY (es:=Es D t m) (n:=t.toNat) (e:=[.s 1 (clK (ap (Es D t m) t 0) m 8)]);have o:cS [.s 1 (clK (ap (Es D t m) t 0) m 8)]=ak (clK (ap (Es D t m) t 0) m 8):=by simp only[cS,fQ,ak];omega
   have ic:=ih.c;exact⟨Rw.set ih.w (show cG [.sl [.sl [tI]]] [.s 1 (clK (ap (Es D t m) t 0) m 8)]from⟨⟨rfl,w⟩,trivial⟩) _,by rw[Et];exact hl,by rw[Es];omega⟩
end
theorem HO {x:aa}:∀ {m n:Nat},n<m->∃ r,qm x m=qm x n++ap x n 0++r
 |0,_,h=>absurd h (ad8 _)
 | m+1,n,h=>by
   by_cases c:n=m
   ·subst c;exact⟨[],by rw[adP];rfl⟩
   ·obtain⟨r,e⟩:=HO (x:=x) (m:=m) (n:=n) (by omega);exact⟨r++ap x m 0,by rw[qm,e,IN _ r]⟩
theorem RO {x:aa}{m n j k:Nat}(h:n<m)(hj:j<(ap x n 0).length):ag (qm x m) (((qm x n).length+j:Nat):Int) k=ag (ap x n 0) j k:=by
 obtain⟨r,e⟩:=HO (x:=x) h;rw[e];exact vN hj
theorem XJ {x:aa}{m n j:Nat}(h:n<m)(hj:j<(ap x n 0).length):(qm x n).length+j<(qm x m).length:=by
 obtain⟨r,e⟩:=HO (x:=x) h;rw[e];simp only[AT];omega
theorem Mr {x:aa}:∀ {m j:Nat},j<(qm x m).length->∃ n i:Nat,n<m/\i<(ap x n 0).length/\j=(qm x n).length+i
 |0,_,h=>absurd h (ad8 _)
 | m+1,j,h=>by
   by_cases c:j<(qm x m).length
   ·obtain⟨n,i,a,b,e⟩:=Mr c;exact⟨n,i,by omega,b,e⟩
   ·rw[qm,AT]at h;exact⟨m,j- (qm x m).length,by omega,by omega,by omega⟩
theorem Jw {a b:aa}{f:Nat}:∀ n,n<=a.length->iq (a++b) f n=iq a f n
 |0,_=>rfl
 | n+1,h=>by
   rw[iq,iq,Jw n (by omega)];have e:=vN (p:=[]) (m:=a) (r:=b) (j:=n) (k:=f) (by omega);simp only[ads,ade,Nat.zero_add]at e;rw[e]
theorem Jv {a b:aa}{f:Nat}:∀ n,n<=b.length->iq (a++b) f (a.length+n)=iq a f a.length++iq b f n
 |0,_=>by rw[Nat.add_zero,Jw _ (No _)];simp[iq]
 | n+1,h=>by
   rw[<-Nat.add_assoc,iq,Jv n (by omega),iq];have e:=vN (p:=a) (m:=b) (r:=[]) (j:=n) (k:=f) (by omega);rw[adP]at e;rw[e,IN]
theorem LS {x:aa}{i:Int}:∀ n,s7 x i n=iq (ap x i 0) 0 n
 |0=>rfl
 |n+1=>by rw[s7,iq,LS n]
theorem RP {x:aa}:∀ m,iq (qm x m) 0 (qm x m).length=s8 x m
 |0=>rfl
 | m+1=>by
   rw[qm,AT,Jv _ (No _),RP m,s8,LS]
theorem XI {x:aa}(h:caOk x=true):Kx (qm x 4):=by
 refine Rn ?_;rw[RP];unfold caOk at h;simp only[AI,decide_eq_true_eq]at h;exact h.2.2
theorem Uu {x:aa}(h:caOk x=true):(qm x 4).length<=32:=by
 have c:=(Cv h).2;have e:qm x 4=(((([]:aa)++ap x (0:Nat) 0)++ap x (1:Nat) 0)++ap x (2:Nat) 0)++ap x (3:Nat) 0:=rfl;have c0:=c 0 (by omega);have c1:=c 1 (by omega);have c2:=c 2 (by omega);have c3:=c 3 (by omega);rw[e];simp only[AT,ade];omega
section
variable {a0 a1 a2 : aa} {a3 : Int} {a4 a5 a6 a7 a8 a9 aA aB : aa} {aC : Int} {aD : aa} {aE aF aG aH : Int} {aI : Bool} {aJ aK : Int} {aL : aa} {aM aN t : Int}
theorem RX (h:hpI a0 a1 a2 a3 a4 a5 a6 a7 a8 a9 aA aB aC aD aE aF aG aH aI aJ aK aL aM aN=true)(t0:0<=t)(t1:t<a9.length):caOk (ap a9 t 0)=true:=cJ.1 (uj h).c t t0 (by omega)
theorem XV (h:hpI a0 a1 a2 a3 a4 a5 a6 a7 a8 a9 aA aB aC aD aE aF aG aH aI aJ aK aL aM aN=true)(t0:0<=t)(t1:t<a9.length)(j:Nat)(hj:j<(fuL a9 t).length):∃ k,qo a6 (ag (fuL a9 t) j 0) k:=by
 have T:=(uj h).h;unfold hoI at T;simp only[AI]at T;have q:=cJ.1 T.1 t t0 (by omega);obtain⟨n,i,hn,hi,e⟩:=Mr (x:=ap a9 t 0) (m:=4) hj;have l:=(Cv (RX h t0 t1)).1;unfold iA at q;have q:=cJ.1 q n (by omega) (by omega);unfold kA at q;have q:=cJ.1 q i (by omega) (by omega);unfold jA at q;unfold fuL;rw[e,RO hn hi];exact Mx q
structure Wg (a9:aa)(t:Int)(z:CO):Prop where
 t0:0<=t
 t1:t<a9.length
 k:caOk (ap a9 t 0)=true
 d:Kx (fuL a9 t)
 q:We (fuL a9 t) 0 z
 l:(fuL a9 t).length<=32
 c:Wd a9 a9.length 1000000000
theorem HN (hc:rT a0 a1 a2 a4 a5 a6 a7 a8 a9 aA aB aD aL)(h9:ak a9<=1000000000)(h:hpI a0 a1 a2 a3 a4 a5 a6 a7 a8 a9 aA aB aC aD aE aF aG aH aI aJ aK aL aM aN=true)(g:inR t 0 (a9.length-1)=true):Wg a9 t ⟨a0,a1,a2,a5,a6⟩:=by
 have r:=bP.1 g;have t1:t<a9.length:=by omega
 have k:=RX h r.1 t1;exact⟨r.1,t1,k,XI k,⟨RY hc h,fun j _ hj=>XV h r.1 t1 j hj⟩,Uu k,⟨hc.r9,rfl,h9⟩⟩
end
structure IP (me:Bool)(kp mv t:Int)(D:aa)(s:CO)(k n:Int)(c u e f z x:aa):Prop where
 en:n=(qm (ap D t 0) k.toNat).length
 p:TO me kp mv (fuL D t) s n c u e f z
 x:x=Es D t k.toNat
structure OH (me:Bool)(kp mv t:Int)(D:aa)(s:CO)(k i n:Int)(c u e f z:aa):Prop where
 en:n=(qm (ap D t 0) k.toNat).length+i
 p:TO me kp mv (fuL D t) s n c u e f z
section
variable {me : Bool} {kp mv t k n i : Int} {D c u e f z x c0 u0 e0 f0 z0 : aa} {s : CO}
theorem RJ :IP me kp mv t D ⟨c,u,e,f,z⟩ 0 0 c u e f z D:=⟨rfl,aap,rfl⟩
theorem XH (h:IP me kp mv t D s k n c u e f z x)(T:Wg D t s)(k0:0<=k)(k1:k<4):ap x t 0=HM (ap D t 0) k.toNat:=by
 have t0:=T.t0;have t1:=T.t1;rw[h.x,Mo (by omega)]
theorem RL (h:IP me kp mv t D s k n c u e f z x)(T:Wg D t s)(k0:0<=k)(k1:k<4):clT (ap x t 0) k 8=ap (ap D t 0) k 0:=by
 rw[XH h T k0 k1];have q:=aby T.k (n:=k.toNat) (by omega);rw[IS k0]at q;exact q
theorem RN (h:IP me kp mv t D s k n c u e f z x):OH me kp mv t D s k 0 n c u e f z:=⟨by rw[Int.add_zero];exact h.en,h.p⟩
theorem Ep (h:OH me kp mv t D s k i n c u e f z)(k0:0<=k)(k1:k<4)(i0:0<=i)(i1:i<(ap (ap D t 0) k 0).length):ag (fuL D t) n 0=ag (ap (ap D t 0) k 0) i 0/\0<=n/\n<(fuL D t).length:=by
 have e:n=(((qm (ap D t 0) k.toNat).length+i.toNat:Nat):Int):=by rw[h.en];omega
 have kk:((k.toNat:Nat):Int)=k:=IS k0;have hj:i.toNat<(ap (ap D t 0) (k.toNat:Int) 0).length:=by rw[kk];omega
 have q:=RO (x:=ap D t 0) (m:=4) (n:=k.toNat) (j:=i.toNat) (k:=0) (by omega) hj;have l:=XJ (x:=ap D t 0) (m:=4) (n:=k.toNat) (j:=i.toNat) (by omega) hj;rw[<-e,kk,IS i0]at q;exact⟨q,by omega,by unfold fuL;omega⟩
theorem Mi (h:OH me kp mv t D s k i n c u e f z)(k0:0<=k)(k1:k<4)(i0:0<=i)(i1:i<(ap (ap D t 0) k 0).length):
 OH me kp mv t D s k (i+1) (n+1) (fzC me kp mv c u e f z (ag (ap (ap D t 0) k 0) i 0)) (fzU me kp mv c u e f z (ag (ap (ap D t 0) k 0) i 0)) (fzE me kp mv c u e f z (ag (ap (ap D t 0) k 0) i 0)) (fzF me kp mv c u e f z (ag (ap (ap D t 0) k 0) i 0)) (fzS me kp mv c u e f z (ag (ap (ap D t 0) k 0) i 0)):=by
 have g:=Ep h k0 k1 i0 i1;have q:=V4 h.p g.2.1;rw[g.1]at q;exact⟨by rw[h.en];omega,q⟩
theorem Mn (h:IP me kp mv t D s k n c0 u0 e0 f0 z0 x)(k0:0<=k){m:Int}(g:OH me kp mv t D s k i m c u e f z)(hi:i=(ap (ap D t 0) k 0).length):IP me kp mv t D s (k+1) m c u e f z (x.set t.toNat [.s 1 (clK (ap x t 0) k 8)]):=by
 have e:(k+1).toNat=k.toNat+1:=by omega
 refine⟨?_,g.p,?_⟩
 ·rw[g.en,e,qm,AT,IS k0,hi];omega
 ·rw[e,Es, <-h.x,IS k0]
theorem Jk (h:IP me kp mv t D ⟨c0,u0,e0,f0,z0⟩ k n c u e f z x)(hk:k=4):c=tkC me kp mv c0 u0 e0 f0 z0 (fuL D t)/\u=tkU me kp mv c0 u0 e0 f0 z0 (fuL D t)/\e=tkE me kp mv c0 u0 e0 f0 z0 (fuL D t)/\f=tkF me kp mv c0 u0 e0 f0 z0 (fuL D t)/\z=tkS me kp mv c0 u0 e0 f0 z0 (fuL D t)/\x=fuD D t/\n=lenI (fuL D t):=by
 subst hk;have n4:n=(fuL D t).length:=h.en;have q:=QD h.p n4;exact⟨q.1,q.2.1,q.2.2.1,q.2.2.2.1,q.2.2.2.2,h.x,n4⟩
end
section
variable {a0 a1 a2 : aa} {a3 : Int} {a4 a5 a6 a7 a8 a9 aA aB : aa} {aC : Int} {aD : aa} {aE aF aG aH : Int} {aI : Bool} {aJ aK : Int} {aL : aa} {aM aN t k i n m : Int} {c u e f s x c1 u1 e1 f1 s1 : aa}
theorem Mm (T:Wg a9 t ⟨a0,a1,a2,a5,a6⟩)(P:IP aI aJ aK t a9 ⟨a0,a1,a2,a5,a6⟩ k n c u e f s x)(k0:0<=k)(k1:k<=4):Rw [.sl [.sl [tI]]] x/\x.length=a9.length/\ak x<=1000000160:=by
 have q:=Jl T.c T.t0 T.t1 T.k k.toNat (by omega);rw[<-P.x]at q;have:=q.c;exact⟨q.w,q.l,by omega⟩
theorem RI (T:Wg a9 t ⟨a0,a1,a2,a5,a6⟩)(P:IP aI aJ aK t a9 ⟨a0,a1,a2,a5,a6⟩ k n c u e f s x)(k0:0<=k)(k1:k<=4):Rw [.sl [tI]] (ap x t 0)/\ak (ap x t 0)<=1073741824/\0<=t/\t<x.length:=by
 have q:=Mm T P k0 k1;have t0:=T.t0;have t1:=T.t1;have g:=jK (es:=x) (i:=t) (j:=0);exact⟨jQ q.1 t0 (by omega),by omega,t0,by omega⟩
theorem Er (hc:rT a0 a1 a2 a4 a5 a6 a7 a8 a9 aA aB aD aL)(h:hpI a0 a1 a2 a3 a4 a5 a6 a7 a8 a9 aA aB aC aD aE aF aG aH aI aJ aK aL aM aN=true)(hn:a3≠100000)(T:Wg a9 t ⟨a0,a1,a2,a5,a6⟩) 
 (P:IP aI aJ aK t a9 ⟨a0,a1,a2,a5,a6⟩ k n c1 u1 e1 f1 s1 x) (N:OH aI aJ aK t a9 ⟨a0,a1,a2,a5,a6⟩ k i m c u e f s) (k0:0<=k) (k1:k<4) (i0:0<=i) (i1:i<(ap (ap a9 t 0) k 0).length):
 rT c u e a4 f s a7 a8 (x.set t.toNat [.s 1 (clK (ap x t 0) k 8)]) aA aB aD aL/\kerOk c u e a3 a4=true/\a3≠100000/\f.length<=65/\ta s/\∃ j,qo s (ag (ap (ap a9 t 0) k 0) i 0) j:=by
 have g:=Ep N k0 k1 i0 i1;have I:=Uq (me:=aI) (kp:=aJ) (mv:=aK) T.d T.q m.toNat (by omega);rw[<-aaq N.p]at I;have kk:=uq (uj h).k;have H:=Jj (b13:=aD) hc I.fr hc.r13 (by rw[<-hc.r13.cnt rfl];exact hc.c13);have q:=Jl T.c T.t0 T.t1 T.k (k+1).toNat (by omega);rw[show(k+1).toNat=k.toNat+1 by omega,Es, <-P.x,IS k0]at q;have qc:=q.c;obtain⟨j,v⟩:=I.q m.toNat (No _) (by omega);rw[IS g.2.1,g.1]at v;exact⟨{H with r9:=q.w,c9:=by omega},HY I.fr.m kk.2.1 kk.2.2.1 kk.2.2.2,hn,I.fr.lf,I.fr.g,⟨j,v⟩⟩
theorem RG (hc:rT a0 a1 a2 a4 a5 a6 a7 a8 a9 aA aB aD aL)(h9:ak a9<=1000000000){b:Bool}(e:b=t0B (hpI a0 a1 a2 a3 a4 a5 a6 a7 a8 a9 aA aB aC aD aE aF aG aH aI aJ aK aL aM aN) a3 t a9):
 rT (ifR b (tkC aI aJ aK a0 a1 a2 a5 a6 (fuL a9 t)) a0) (ifR b (tkU aI aJ aK a0 a1 a2 a5 a6 (fuL a9 t)) a1) (ifR b (tkE aI aJ aK a0 a1 a2 a5 a6 (fuL a9 t)) a2) a4
  (ifR b (tkF aI aJ aK a0 a1 a2 a5 a6 (fuL a9 t)) a5) (ifR b (tkS aI aJ aK a0 a1 a2 a5 a6 (fuL a9 t)) a6) a7 a8 (ifR b (fuD a9 t) a9) aA aB aD aL:=by
 cases b with
 |false=>exact hc
 | true=>
   have g:=Dw e.symm;have T:=HN hc h9 g.1 g.2.2;have I:=Uq (me:=aI) (kp:=aJ) (mv:=aK) T.d T.q _ (No _);have H:=Jj (b13:=aD) hc I.fr hc.r13 (by rw[<-hc.r13.cnt rfl];exact hc.c13);have q:=Jl T.c T.t0 T.t1 T.k 4 (No _);have qc:=q.c;exact {H with r9:=q.w,c9:=by show ak (Es _ _ _)<=_;omega}
end
end Go.V