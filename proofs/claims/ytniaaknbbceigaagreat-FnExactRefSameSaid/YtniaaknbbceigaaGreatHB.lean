/-
  Plain facts about rows, pages, slots and heaps.
-/
import Derived.Test.YtniaaknbbceigaaGreatW2
import Derived.Test.YtniaaknbbceigaaGreatHA
set_option linter.all false
namespace Go.V
def xy (sp:List (List L))(i:Int):Nat->List Int
 |0=>[]
 |n+1=>xy sp i n++(if hsB (ab sp i 2) n then[aaI (ab sp i 0) (ab sp i 1) (ab sp i 2) n]else[])
def wj (sp:List (List L)):Nat->List Int
 |0=>[]
 |n+1=>wj sp n++xy sp n (slN (ab sp n 1)).toNat
def yS (lg:List (List L)):Nat->List Int
 |0=>[]
 |n+1=>yS lg n++[ab lg n 0*16]
def Lh (sp lg:List (List L)):List Int:=wj sp sp.length++yS lg lg.length
def iaL (sp lg:List (List L)):List (List L):=if layOk sp lg then srtL (fB (Lh sp lg))else[]
theorem zJ {a b:Int}(h: -9223372036854775808<=a*b/\a*b<=9223372036854775807):aV .mul .i64 a b=a*b:=IntWalk.i64_in _ h
theorem yu {l:List (List L)}:(srtL l).length=l.length:=by unfold srtL;rw[bO,List.length_mergeSort];unfold lC;rw[List.length_map]
def KR (l:List Int):Prop:=∀ x∈l,-1<=x/\x<=1000
theorem AJ {a b:List Int}(h:KR a)(g:KR b):KR (a++b):=fun x hx=>by
 rcases List.mem_append.1 hx with q|q
 ·exact h x q
 ·exact g x q
theorem IM {x:Int}(h: -1<=x/\x<=1000):KR [x]:=fun y hy=>by simp at hy;rw[hy];exact h
theorem Qc {p k b s:Int}: -1<=aaI p k b s/\aaI p k b s<=1000:=by
 unfold aaI;by_cases h:KO p k b s=true
 ·rw[if_pos h];unfold KO at h;simp only[Bool.and_eq_true]at h;have t:=fe h.1;have c:=fE t.2.2.1;have s1:=bh.1 h.2;have m0:0<=s*clsSz k:=Int.mul_nonneg (by omega) (by omega);have m1:s*clsSz k<=slN k*clsSz k:=Int.mul_le_mul_of_nonneg_right (by omega) (by omega);omega
 ·rw[if_neg h];omega
theorem wi {sp:List (List L)}{i k:Int}(h:0<=k):xy sp i (k+1).toNat=xy sp i k.toNat++(if hsB (ab sp i 2) k then[aaI (ab sp i 0) (ab sp i 1) (ab sp i 2) k]else[]):=by
 rw[show(k+1).toNat=k.toNat+1 from by omega,xy,Int.toNat_of_nonneg h]
theorem Eu {sp:List (List L)}{i:Int}(h:0<=i):wj sp (i+1).toNat=wj sp i.toNat++xy sp i (slN (ab sp i 1)).toNat:=by
 rw[show(i+1).toNat=i.toNat+1 from by omega,wj,Int.toNat_of_nonneg h]
theorem zz {lg:List (List L)}{i:Int}(h:0<=i):yS lg (i+1).toNat=yS lg i.toNat++[ab lg i 0*16]:=by
 rw[show(i+1).toNat=i.toNat+1 from by omega,yS,Int.toNat_of_nonneg h]
structure MF (sp:List (List L))(i:Int)(o:List (List L)):Prop where
 e:o=fB (wj sp i.toNat)
 b:KR (wj sp i.toNat)
 l:(wj sp i.toNat).length<=16*i.toNat
structure GT (sp:List (List L))(i k:Int)(o:List (List L)):Prop where
 e:o=fB (wj sp i.toNat++xy sp i k.toNat)
 b:KR (wj sp i.toNat++xy sp i k.toNat)
 l:(wj sp i.toNat).length<=16*i.toNat
 k:(xy sp i k.toNat).length<=k.toNat
structure IC (sp lg:List (List L))(j:Int)(o:List (List L)):Prop where
 e:o=fB (wj sp sp.length++yS lg j.toNat)
 b:KR (wj sp sp.length++yS lg j.toNat)
 l:(wj sp sp.length++yS lg j.toNat).length<=16*sp.length+j.toNat
theorem Qw {sp:List (List L)}:MF sp 0 []:=⟨rfl,(fun x hx=>by cases hx),Nat.zero_le _⟩
theorem Qy {sp o:List (List L)}{i:Int}(h:MF sp i o):GT sp i 0 o:=
 ⟨by rw[h.e];simp[xy],by simpa[xy]using h.b,h.l,Nat.zero_le _⟩
theorem Lk {sp o:List (List L)}{i k:Int}(h:GT sp i k o):o.length<=16*i.toNat+k.toNat:=by
 have l:=h.l;have m:=h.k;rw[h.e,bO,List.length_append];omega
theorem Ll {sp o:List (List L)}{i k:Int}(h:GT sp i k o)(k0:0<=k)(hh:hsB (ab sp i 2) k=true):GT sp i (k+1) (o++[[.v (.int .i64 (aaI (ab sp i 0) (ab sp i 1) (ab sp i 2) k))]]):=by
 have m:=h.k;have e:=h.e;refine⟨?_,?_,h.l,?_⟩
 ·rw[wi k0,if_pos hh, <-List.append_assoc,eg, <-e];rfl
 ·rw[wi k0,if_pos hh, <-List.append_assoc];exact AJ h.b (IM Qc)
 ·rw[wi k0,if_pos hh,List.length_append,List.length_cons,List.length_nil];omega
theorem NR {sp o:List (List L)}{i k:Int}(h:GT sp i k o)(k0:0<=k)(hh:hsB (ab sp i 2) k=false):GT sp i (k+1) o:=by
 have m:=h.k;have e:=h.e;have u:xy sp i (k+1).toNat=xy sp i k.toNat:=by rw[wi k0,hh];simp
 refine⟨?_,?_,h.l,?_⟩
 ·rw[u];exact e
 ·rw[u];exact h.b
 ·rw[u];omega
theorem Rl {sp lg:List (List L)}{i:Int}(hl:layOk sp lg=true)(h0:0<=i)(h1:i<sp.length):0<=slN (ab sp i 1)/\slN (ab sp i 1)<=16:=by
 have t:=fe ((EJ hl).1 i h0 h1);have c:=fE t.2.2.1;omega
theorem Lj {sp o:List (List L)}{i k:Int}(h:GT sp i k o)(i0:0<=i)(k1:k<=slN (ab sp i 1))(k2:slN (ab sp i 1)<=k)(hs:0<=slN (ab sp i 1)/\slN (ab sp i 1)<=16):MF sp (i+1) o:=by
 have ek:k=slN (ab sp i 1):=by omega
 have e:=h.e;have b:=h.b;have l:=h.l;have m:=h.k;rw[ek, <-Eu i0]at e b;rw[ek]at m;refine⟨e,b,?_⟩;rw[Eu i0,List.length_append];omega
theorem Qz {sp lg o:List (List L)}{i:Int}(h:MF sp i o)(h1:i<=sp.length)(h2:(sp.length:Int)<=i):IC sp lg 0 o:=by
 have ei:i.toNat=sp.length:=by omega
 have e:=h.e;have b:=h.b;have l:=h.l;rw[ei]at e b l;exact⟨by rw[e];simp[yS],by simpa[yS]using b,by simpa[yS]using l⟩
theorem Ey {sp lg o:List (List L)}{j:Int}(h:IC sp lg j o):o.length<=16*sp.length+j.toNat:=by
 have l:=h.l;rw[h.e,bO];exact l
theorem QF {sp lg:List (List L)}{j:Int}(hl:layOk sp lg=true)(h0:0<=j)(h1:j<lg.length):0<=ab lg j 0/\ab lg j 0<=32:=by
 have t:=fH ((EJ hl).2.1 j h0 h1);have b:=gK t.1;omega
theorem NU {sp lg o:List (List L)}{j:Int}(h:IC sp lg j o)(j0:0<=j)(hb:0<=ab lg j 0/\ab lg j 0<=32):IC sp lg (j+1) (o++[[.v (.int .i64 (ab lg j 0*16))]]):=by
 have e:=h.e;have l:=h.l;refine⟨?_,?_,?_⟩
 ·rw[zz j0, <-List.append_assoc,eg, <-e];rfl
 ·rw[zz j0, <-List.append_assoc];exact AJ h.b (IM (by omega))
 ·rw[zz j0, <-List.append_assoc,List.length_append,List.length_cons,List.length_nil];omega
theorem NS {sp lg o:List (List L)}{j:Int}(h:IC sp lg j o)(h1:sp.length<=1073741824)(h2:j<=1073741824):Rw [tI] o/\o.length<=70368744177664:=by
 have l:=Ey h;refine⟨?_,by omega⟩;have e:=h.e;have l2:=h.l;rw[e];exact oz (fun x hx=>by have:=h.b x hx;omega) (by omega)
theorem Lm {sp lg o:List (List L)}{j:Int}(h:IC sp lg j o)(j1:j<=lg.length)(j2:(lg.length:Int)<=j)(hl:layOk sp lg=true):srtL o=iaL sp lg:=by
 have ej:j.toNat=lg.length:=by omega
 have e:=h.e;rw[ej]at e;unfold iaL Lh;rw[if_pos hl, <-e]
theorem Qx {sp lg:List (List L)}(hl:layOk sp lg=false):([]:List (List L))=iaL sp lg:=by unfold iaL;rw[hl];rfl
end Go.V
namespace Go.V
theorem rl :∀ {a b:List Int},a.Pairwise (· < ·)->b.Pairwise (· < ·)->(∀ x,x∈a↔x∈b)->a=b
 |[],[],_,_,_=>rfl
 |[],y::b,_,_,h=>by have:=(h y).2 (by simp);simp at this
 |x::a,[],_,_,h=>by have:=(h x).1 (by simp);simp at this
 | x::a,y::b,ha,hb,h=>by
   rw[List.pairwise_cons]at ha hb;have e:x=y:=by
    rcases List.mem_cons.1 ((h x).1 (by simp))with q|q
    ·exact q
    ·rcases List.mem_cons.1 ((h y).2 (by simp))with r|r
     ·exact r.symm
     ·have:=hb.1 x q;have:=ha.1 y r;omega
   subst e;rw[rl ha.2 hb.2 (fun z=>?_)]
   constructor
   ·intro m;rcases List.mem_cons.1 ((h z).1 (by simp[m]))with q|q
    ·have:=ha.1 z m;omega
    ·exact q
   ·intro m;rcases List.mem_cons.1 ((h z).2 (by simp[m]))with q|q
    ·have:=hb.1 z m;omega
    ·exact q
theorem gQ {sp:List (List L)}{x:Int}:∀ {n:Nat},x∈hL sp n↔∃ i:Nat,i<n/\ab sp i 0=x
 |0=>by simp[hL]
 | n+1=>by
   rw[hL,List.mem_append,gQ,List.mem_singleton]
   constructor
   ·rintro(⟨i,h,e⟩|rfl)
    ·exact⟨i,by omega,e⟩
    ·exact⟨n,by omega,rfl⟩
   ·rintro⟨i,h,e⟩;by_cases c:i=n
    ·subst c;exact .inr e.symm
    ·exact .inl ⟨i,by omega,e⟩
theorem ww {p x:Int}:∀ {n:Nat},x∈kI p n↔p<=x/\x<p+n
 |0=>⟨(fun h=>by cases h),(fun h=>absurd h (by omega))⟩
 | n+1=>by
   rw[kI,List.mem_append,ww,List.mem_singleton];omega
theorem iQ {lg:List (List L)}{x:Int}:∀ {n:Nat},x∈hK lg n↔∃ j:Nat,j<n/\ab lg j 0<=x/\x<ab lg j 0+(ab lg j 1).toNat
 |0=>by simp[hK]
 | n+1=>by
   rw[hK,List.mem_append,iQ,ww]
   constructor
   ·rintro(⟨i,h,e⟩|h)
    ·exact⟨i,by omega,e⟩
    ·exact⟨n,by omega,h⟩
   ·rintro⟨i,h,e⟩;by_cases c:i=n
    ·subst c;exact .inr e
    ·exact .inl ⟨i,by omega,e⟩
theorem Gr {sp:List (List L)}:∀ {n:Nat},(hL sp n).Nodup->∀ i i':Nat,i<i'->i'<n->ab sp i 0≠ab sp i' 0
 |0,_,i,i',_,h=>by omega
 | n+1,hn,i,i',h1,h2=>by
   rw[hL,List.nodup_append]at hn;by_cases c:i'=n
   ·subst c;exact hn.2.2 _ (gQ.2 ⟨i,h1,rfl⟩) _ (by simp)
   ·exact Gr hn.1 i i' h1 (by omega)
theorem EO {lg:List (List L)}:∀ {n:Nat},(hK lg n).Nodup->∀ (j j':Nat) (x:Int),j<j'->j'<n->ab lg j 0<=x->x<ab lg j 0+(ab lg j 1).toNat->ab lg j' 0<=x->x<ab lg j' 0+(ab lg j' 1).toNat->False
 |0,_,j,j',x,_,h,_,_,_,_=>by omega
 | n+1,hn,j,j',x,h1,h2,a,b,c,d=>by
   rw[hK,List.nodup_append]at hn;by_cases e:j'=n
   ·subst e;exact hn.2.2 x (iQ.2 ⟨j,h1,a,b⟩) x (ww.2 ⟨c,d⟩) rfl
   ·exact EO hn.1 j j' x h1 (by omega) a b c d
structure GK (sp lg:List (List L)):Prop where
 s:∀ i:Nat,i<sp.length->spOk (ab sp i 0) (ab sp i 1) (ab sp i 2)=true
 l:∀ j:Nat,j<lg.length->lgOk (ab lg j 0) (ab lg j 1) (ab lg j 2)=true
 ss:∀ i i':Nat,i<sp.length->i'<sp.length->ab sp i 0=ab sp i' 0->i=i'
 sl:∀ i j:Nat,i<sp.length->j<lg.length->ab lg j 0<=ab sp i 0->ab sp i 0<ab lg j 0+ab lg j 1->False
 ll:∀ (j j':Nat) (x:Int),j<lg.length->j'<lg.length->ab lg j 0<=x->x<ab lg j 0+ab lg j 1->ab lg j' 0<=x->x<ab lg j' 0+ab lg j' 1->j=j'
theorem Bl {sp lg:List (List L)}(h:layOk sp lg=true):GK sp lg:=by
 obtain⟨h1,h2,h3⟩:=EJ h;unfold qX at h3;rw[List.nodup_append]at h3;have n0:∀ j:Nat,j<lg.length->((ab lg j 1).toNat:Int)=ab lg j 1:=fun j hj=>by
  have t:=fH (h2 j (by omega) (by omega));have b:=gK t.1;omega
 refine⟨fun i hi=>h1 i (by omega) (by omega),fun j hj=>h2 j (by omega) (by omega),fun i i' a b e=>?_,fun i j a b c d=>?_,fun j j' x a b c d e f=>?_⟩
 ·rcases Nat.lt_trichotomy i i' with q|q|q
  ·exact absurd e (Gr h3.1 i i' q b)
  ·exact q
  ·exact absurd e.symm (Gr h3.1 i' i q a)
 ·exact h3.2.2 _ (gQ.2 ⟨i,a,rfl⟩) _ (iQ.2 ⟨j,b,c,by rw[n0 j b];exact d⟩) rfl
 ·rcases Nat.lt_trichotomy j j' with q|q|q
  ·exact(EO h3.2.1 j j' x q b c (by rw[n0 j a];exact d) e (by rw[n0 j' b];exact f)).elim
  ·exact q
  ·exact(EO h3.2.1 j' j x q a e (by rw[n0 j' b];exact f) c (by rw[n0 j a];exact d)).elim
theorem jI {p k b s:Int}(h:spOk p k b=true)(h0:0<=s)(h1:s<slN k):aaI p k b s=p*16+s*clsSz k/\0<=s*clsSz k/\s*clsSz k+clsSz k<=16/\1<=clsSz k:=by
 have t:=fe h;have c:=fE t.2.2.1;have a:KO p k b s=true:=by unfold KO;rw[h,bh.2 ⟨h0,by omega⟩];rfl
 have m0:0<=s*clsSz k:=Int.mul_nonneg h0 (by omega);have m1:(s+1)*clsSz k<=slN k*clsSz k:=Int.mul_le_mul_of_nonneg_right (by omega) (by omega);rw[Int.add_mul]at m1;unfold aaI;rw[if_pos a];exact⟨rfl,m0,by omega,by omega⟩
theorem qU {sp:List (List L)}{i x:Int}:∀ {n:Nat},x∈xy sp i n↔∃ k:Nat,k<n/\hsB (ab sp i 2) k=true/\x=aaI (ab sp i 0) (ab sp i 1) (ab sp i 2) k
 |0=>by simp[xy]
 | n+1=>by
   rw[xy,List.mem_append,qU]
   constructor
   ·rintro(⟨k,h,e⟩|h)
    ·exact⟨k,by omega,e⟩
    ·by_cases c:hsB (ab sp i 2) n=true
     ·rw[if_pos c,List.mem_singleton]at h;exact⟨n,by omega,c,h⟩
     ·rw[if_neg c]at h;simp at h
   ·rintro⟨k,h,c,e⟩;by_cases q:k=n
    ·subst q;rw[if_pos c];exact .inr (by simp[e])
    ·exact .inl ⟨k,by omega,c,e⟩
theorem qV {sp:List (List L)}{x:Int}:∀ {n:Nat},x∈wj sp n↔∃ i k:Nat,i<n/\k<(slN (ab sp i 1)).toNat/\hsB (ab sp i 2) k=true/\x=aaI (ab sp i 0) (ab sp i 1) (ab sp i 2) k
 |0=>by simp[wj]
 | n+1=>by
   rw[wj,List.mem_append,qV,qU]
   constructor
   ·rintro(⟨i,k,h,e⟩|⟨k,h⟩)
    ·exact⟨i,k,by omega,e⟩
    ·exact⟨n,k,by omega,h⟩
   ·rintro⟨i,k,h,e⟩;by_cases q:i=n
    ·subst q;exact .inr ⟨k,e⟩
    ·exact .inl ⟨i,k,by omega,e⟩
theorem qT {lg:List (List L)}{x:Int}:∀ {n:Nat},x∈yS lg n↔∃ j:Nat,j<n/\x=ab lg j 0*16
 |0=>by simp[yS]
 | n+1=>by
   rw[yS,List.mem_append,qT,List.mem_singleton]
   constructor
   ·rintro(⟨i,h,e⟩|h)
    ·exact⟨i,by omega,e⟩
    ·exact⟨n,by omega,h⟩
   ·rintro⟨i,h,e⟩;by_cases q:i=n
    ·subst q;exact .inr e
    ·exact .inl ⟨i,by omega,e⟩
theorem zA {sp:List (List L)}{i:Nat}(h:spOk (ab sp i 0) (ab sp i 1) (ab sp i 2)=true):∀ {n:Nat},n<=(slN (ab sp i 1)).toNat->(xy sp i n).Nodup
 |0,_=>List.nodup_nil
 | n+1,hn=>by
   rw[xy];by_cases c:hsB (ab sp i 2) n=true
   ·rw[if_pos c];refine gS (zA h (by omega)) (fun m=>?_);obtain⟨k,k1,_,k3⟩:=qU.1 m;have a:=jI (s:=(n:Int)) h (by omega) (by omega);have b:=jI (s:=(k:Int)) h (by omega) (by omega);have q:((k:Int)+1)*clsSz (ab sp i 1)<=(n:Int)*clsSz (ab sp i 1):=Int.mul_le_mul_of_nonneg_right (by omega) (by omega);rw[Int.add_mul]at q;omega
   ·rw[if_neg c,List.append_nil];exact zA h (by omega)
theorem Et {sp lg:List (List L)}(F:GK sp lg):∀ {n:Nat},n<=sp.length->(wj sp n).Nodup
 |0,_=>List.nodup_nil
 | n+1,hn=>by
   rw[wj,List.nodup_append];refine⟨Et F (by omega),zA (F.s n (by omega)) (Nat.le_refl _),fun x hx y hy e=>?_⟩;subst e;obtain⟨i,k,i1,k1,_,e1⟩:=qV.1 hx;obtain⟨k',k2,_,e2⟩:=qU.1 hy;have a:=jI (s:=(k:Int)) (F.s i (by omega)) (by omega) (by omega);have b:=jI (s:=(k':Int)) (F.s n (by omega)) (by omega) (by omega);have:=F.ss i n (by omega) (by omega) (by omega);omega
theorem Es {sp lg:List (List L)}(F:GK sp lg):∀ {n:Nat},n<=lg.length->(yS lg n).Nodup
 |0,_=>List.nodup_nil
 | n+1,hn=>by
   rw[yS];refine gS (Es F (by omega)) (fun m=>?_);obtain⟨j,j1,e⟩:=qT.1 m;have t:=fH (F.l j (by omega));have b:=gK t.1;have t':=fH (F.l n (by omega));have b':=gK t'.1;have:=F.ll j n (ab lg j 0) (by omega) (by omega) (by omega) (by omega) (by omega) (by omega);omega
theorem Li {sp lg:List (List L)}(F:GK sp lg):(Lh sp lg).Nodup:=by
 unfold Lh;rw[List.nodup_append];refine⟨Et F (Nat.le_refl _),Es F (Nat.le_refl _),fun x hx y hy e=>?_⟩;subst e;obtain⟨i,k,i1,k1,_,e1⟩:=qV.1 hx;obtain⟨j,j1,e2⟩:=qT.1 hy;have a:=jI (s:=(k:Int)) (F.s i (by omega)) (by omega) (by omega);have t:=fH (F.l j (by omega));have b:=gK t.1;exact F.sl i j i1 j1 (by omega) (by omega)
end Go.V
namespace Go.V
theorem dt {p:Int->Bool}{n:Nat}(h:0<=cF p n):cF p n<n/\p (cF p n)=true:=by
 refine⟨by rcases mz (p:=p) (n:=n)with q|q<;>omega,?_⟩;unfold cF at h ⊢;split at h
 ·rename_i j e;have q:=List.find?_some e;exact q
 ·omega
theorem gz {p:Int->Bool}{n i:Nat}(h:i<n)(hp:p i=true):0<=cF p n:=by
 unfold cF;split
 ·omega
 ·rename_i e;rw[List.find?_eq_none]at e;exact absurd hp (e i (List.mem_range.2 h))
theorem vr {sp:List (List L)}{a i:Int}:tX sp a i=true↔yq (ab sp i 0) (ab sp i 1) (ab sp i 2) a=true:=by
 unfold tX;rw[decide_eq_true_eq]
 constructor
 ·intro h;cases c:yq (ab sp i 0) (ab sp i 1) (ab sp i 2) a with
  |true=>rfl
  |false=>rw[(vt c).1]at h;omega
 ·intro h;obtain⟨h1,h2,h3⟩:=oA.1 h;have cb:=fE (fe h1).2.2.1;rw[(oB h).1];exact Int.ediv_nonneg (by omega) (by omega)
def P6 (sp lg:List (List L))(x:Int):Prop:=(∃ i k:Nat,i<sp.length/\k<(slN (ab sp i 1)).toNat/\hsB (ab sp i 2) k=true/\x=aaI (ab sp i 0) (ab sp i 1) (ab sp i 2) k)\/∃ j:Nat,j<lg.length/\x=ab lg j 0*16
theorem Br {sp lg:List (List L)}{x:Int}:x∈Lh sp lg↔P6 sp lg x:=by
 unfold Lh P6;rw[List.mem_append,qV,qT]
theorem K1 {sp lg:List (List L)}{a:Int}(h:0<=eS sp a):dnK sp lg a=(if hsB (ab sp (eS sp a) 2) (Ih sp a (eS sp a))then 1 else 2)/\dnO sp lg a=Kq sp a (eS sp a):=by
 unfold dnK dnO;rw[if_pos h,if_pos h];exact⟨rfl,rfl⟩
theorem K0 {sp lg:List (List L)}{a:Int}(h:¬ 0<=eS sp a)(g:0<=j4 lg a):dnK sp lg a=3/\dnO sp lg a=N9 lg a (j4 lg a):=by
 unfold dnK dnO;rw[if_neg h,if_neg h,if_pos g,if_pos g];exact⟨rfl,rfl⟩
theorem Qj {sp lg:List (List L)}{a:Int}(h:¬ 0<=eS sp a)(g:¬ 0<=j4 lg a):dnK sp lg a=0/\dnO sp lg a=0:=by
 unfold dnK dnO;rw[if_neg h,if_neg h,if_neg g,if_neg g];exact⟨rfl,rfl⟩
theorem Bj {sp lg:List (List L)}{a:Int}(hl:layOk sp lg=true):qC sp lg a=true↔dnO sp lg a=0/\(dnK sp lg a=1\/dnK sp lg a=3):=by
 unfold qC dzO dzK;rw[if_pos hl,if_pos hl];simp only[Bool.and_eq_true,Bool.or_eq_true,decide_eq_true_eq]
theorem JG {sp lg:List (List L)}{x:Int}(F:GK sp lg)(hl:layOk sp lg=true)(h:qC sp lg x=true):P6 sp lg x:=by
 obtain⟨h1,h2⟩:=(Bj hl).1 h;by_cases c:0<=eS sp x
 ·obtain⟨d1,d2⟩:=K1 (lg:=lg) c;obtain⟨b,q⟩:=dt c;change eS sp x<sp.length at b;change tX sp x (eS sp x)=true at q;rw[d1]at h2;rw[d2]at h1;generalize hF:eS sp x=f at*;obtain⟨f,rfl⟩:=Int.eq_ofNat_of_zero_le c;have bf:f<sp.length:=by omega
  have q':=vr.1 q;obtain⟨a1,a2,a3⟩:=oA.1 q';obtain⟨e1,e2⟩:=oB q';have cb:=fE (fe a1).2.2.1;have hh:hsB (ab sp f 2) (Ih sp x f)=true:=by
   cases c:hsB (ab sp f 2) (Ih sp x f)with
   |true=>rfl
   |false=>rw[c]at h2;simp at h2
  unfold Kq at h1;rw[e2]at h1;unfold Ih at hh;rw[e1]at hh;have dv:clsSz (ab sp f 1)*((x-ab sp f 0*16)/clsSz (ab sp f 1))=x-ab sp f 0*16:=Int.mul_ediv_cancel_of_emod_eq_zero h1;have nn:0<=(x-ab sp f 0*16)/clsSz (ab sp f 1):=Int.ediv_nonneg (by omega) (by omega);generalize hs:(x-ab sp f 0*16)/clsSz (ab sp f 1)=s at*;have lt:s<slN (ab sp f 1):=by
   by_cases w:s<slN (ab sp f 1)
   ·exact w
   ·have m:slN (ab sp f 1)*clsSz (ab sp f 1)<=s*clsSz (ab sp f 1):=Int.mul_le_mul_of_nonneg_right (by omega) (by omega);rw[Int.mul_comm s]at m;omega
  obtain⟨s,rfl⟩:=Int.eq_ofNat_of_zero_le nn;have ae:=jI a1 nn lt;refine .inl ⟨f,s,bf,by omega,hh,?_⟩;have ae1:=ae.1;rw[Int.mul_comm (s:Int)]at ae1;show x=aaI (ab sp f 0) (ab sp f 1) (ab sp f 2) s;rw[ae1];omega
 ·by_cases g:0<=j4 lg x
  ·obtain⟨d1,d2⟩:=K0 c g;obtain⟨b,q⟩:=dt g;change j4 lg x<lg.length at b;change uL lg x (j4 lg x)=true at q;rw[d2]at h1;generalize hF:j4 lg x=f at*;obtain⟨f,rfl⟩:=Int.eq_ofNat_of_zero_le g;refine .inr ⟨f,by omega,?_⟩;unfold N9 loI at h1;unfold uL at q;rw[if_pos q]at h1;show x=ab lg f 0*16;omega
  ·obtain⟨d1,d2⟩:=Qj c g;rw[d1]at h2;omega
theorem Jn {sp lg:List (List L)}{x:Int}(h:0<=eS sp x):∃ f:Nat,eS sp x=f/\f<sp.length/\yq (ab sp f 0) (ab sp f 1) (ab sp f 2) x=true:=by
 obtain⟨b,q⟩:=dt h;obtain⟨f,e⟩:=Int.eq_ofNat_of_zero_le h;refine⟨f,e,?_,?_⟩
 ·have:eS sp x<sp.length:=b;rw[e]at this;exact Int.ofNat_lt.1 this
 ·have:tX sp x (eS sp x)=true:=q;rw[e]at this;exact vr.1 this
theorem Oe {sp lg:List (List L)}{x:Int}(F:GK sp lg)(hl:layOk sp lg=true)(h:P6 sp lg x):qC sp lg x=true:=by
 rw[Bj hl];rcases h with⟨i,k,i1,k1,hh,e⟩|⟨j,j1,e⟩
 ·have a1:=F.s i i1;have cb:=fE (fe a1).2.2.1;have ae:=jI (s:=(k:Int)) a1 (by omega) (by omega);have sb:yq (ab sp i 0) (ab sp i 1) (ab sp i 2) x=true:=oA.2 ⟨a1,by omega,by omega⟩;have c:0<=eS sp x:=gz i1 (vr.2 sb);obtain⟨f,e1,f1,f2⟩:=Jn (lg:=lg) c;obtain⟨_,g2,g3⟩:=oA.1 f2;have:f=i:=F.ss f i f1 i1 (by omega);subst this;obtain⟨d1,d2⟩:=K1 (lg:=lg) c;rw[d1,d2,e1];obtain⟨y1,y2⟩:=oB sb;have xe:x-ab sp f 0*16=k*clsSz (ab sp f 1):=by omega
  unfold Ih Kq;rw[y1,y2,xe,Int.mul_ediv_cancel _ (by omega),if_pos hh];exact⟨Int.mul_emod_left _ _,.inl rfl⟩
 ·have t:=fH (F.l j j1);have b:=gK t.1;have r:=bh.1 t.1;have c:¬ 0<=eS sp x:=fun c=>by
   obtain⟨f,e1,f1,f2⟩:=Jn (lg:=lg) c;obtain⟨_,g2,g3⟩:=oA.1 f2;exact F.sl f j f1 j1 (by omega) (by omega)
  have lb:lhB (ab lg j 0) (ab lg j 1) (ab lg j 2) x=true:=LC.2 ⟨F.l j j1,by omega,by omega⟩;have g:0<=j4 lg x:=gz j1 (show uL lg x j=true from lb);obtain⟨d1,d2⟩:=K0 c g;obtain⟨b1,q⟩:=dt g;change j4 lg x<lg.length at b1;change uL lg x (j4 lg x)=true at q;rw[d1,d2];generalize hF:j4 lg x=f at*;obtain⟨f,rfl⟩:=Int.eq_ofNat_of_zero_le g;have f1:f<lg.length:=by omega
  have q':lhB (ab lg f 0) (ab lg f 1) (ab lg f 2) x=true:=q;obtain⟨_,u1,u2⟩:=LC.1 q';have t2:=fH (F.l f f1);have b2:=gK t2.1;have:f=j:=F.ll f j (ab lg j 0) f1 j1 (by omega) (by omega) (by omega) (by omega);subst this;refine⟨?_,.inr rfl⟩;show loI (ab lg f 0) (ab lg f 1) (ab lg f 2) x=0;unfold loI;rw[if_pos lb];omega
def JF (sp lg:List (List L)):Nat->List Int
 |0=>[]
 |n+1=>JF sp lg n++(if qC sp lg n then[(n:Int)]else[])
theorem sS {sp lg:List (List L)}:∀ n:Nat,GP sp lg n=fB (JF sp lg n)
 |0=>rfl
 | n+1=>by
   rw[GP,JF,eg,sS n];by_cases c:qC sp lg n=true
   ·rw[if_pos c,if_pos c];rfl
   ·rw[if_neg c,if_neg c];rfl
theorem mG {sp lg:List (List L)}{x:Int}:∀ {n:Nat},x∈JF sp lg n↔0<=x/\x<n/\qC sp lg x=true
 |0=>⟨(fun h=>by cases h),(fun h=>absurd h.2.1 (by omega))⟩
 | n+1=>by
   rw[JF,List.mem_append,mG]
   constructor
   ·rintro(h|h)
    ·exact⟨h.1,by omega,h.2.2⟩
    ·by_cases c:qC sp lg n=true
     ·rw[if_pos c,List.mem_singleton]at h;subst h;exact⟨by omega,by omega,c⟩
     ·rw[if_neg c]at h;cases h
   ·rintro⟨h1,h2,h3⟩;by_cases q:x=n
    ·subst q;rw[if_pos h3];exact .inr (by simp)
    ·exact .inl ⟨h1,by omega,h3⟩
theorem zZ {sp lg:List (List L)}:∀ n:Nat,(JF sp lg n).Pairwise (· < ·)
 |0=>List.Pairwise.nil
 | n+1=>by
   rw[JF,List.pairwise_append];refine⟨zZ n,?_,fun a ha b hb=>?_⟩
   ·by_cases c:qC sp lg n=true
    ·rw[if_pos c];simp
    ·rw[if_neg c];simp
   ·have m:=mG.1 ha;by_cases c:qC sp lg n=true
    ·rw[if_pos c,List.mem_singleton]at hb;omega
    ·rw[if_neg c]at hb;cases hb
theorem H3 {l:List Int}(h:l.Nodup):(l.mergeSort fun x y=>decide (x<=y)).Pairwise (· < ·):=by
 have p:=List.pairwise_mergeSort (le:=fun x y:Int=>decide (x<=y)) (fun a b c h1 h2=>by simp only[decide_eq_true_eq]at*;omega) (fun a b=>by simp only[Bool.or_eq_true,decide_eq_true_eq];omega) l;have n:(l.mergeSort fun x y=>decide (x<=y)).Nodup:=(List.mergeSort_perm l _).nodup_iff.2 h;refine List.Pairwise.imp₂ (R:=fun a b=>decide (a<=b)=true) (S:=(· ≠ ·)) (T:=(· < ·)) (fun a b h1 h2=>?_) p n;simp only[decide_eq_true_eq]at h1;omega
theorem HJ {sp lg:List (List L)}:iaL sp lg=laL sp lg:=by
 unfold iaL laL;by_cases hl:layOk sp lg=true
 ·rw[if_pos hl,if_pos hl];have F:=Bl hl;unfold srtL;rw[zB,sS];refine congrArg fB (rl (H3 (Li F)) (zZ 512) (fun x=>?_));rw[(List.mergeSort_perm _ _).mem_iff,Br,mG]
  constructor
  ·intro h;have v:=Oe F hl h;refine⟨?_,?_,v⟩
   ·rcases h with⟨i,k,i1,k1,_,e⟩|⟨j,j1,e⟩
    ·have ae:=jI (s:=(k:Int)) (F.s i i1) (by omega) (by omega);have t:=fe (F.s i i1);omega
    ·have t:=fH (F.l j j1);omega
   ·rcases h with⟨i,k,i1,k1,_,e⟩|⟨j,j1,e⟩
    ·have ae:=jI (s:=(k:Int)) (F.s i i1) (by omega) (by omega);have t:=fe (F.s i i1);omega
    ·have t:=fH (F.l j j1);have b:=gK t.1;omega
  ·rintro⟨_,_,h⟩;exact JG F hl h
 ·rw[if_neg hl,if_neg hl]
end Go.V
namespace Go.V
def uK (qs:List (List L))(a j:Int):Bool:=eqB (ab qs j 0) a
def qtI (qs:List (List L))(a:Int):Int:=cF (uK qs a) qs.length
def qtB (qs:List (List L))(a:Int):Bool:=decide (0<=qtI qs a)
theorem Mc {qs:List (List L)}{a i:Int}(h:upto (bV (uK qs a)) i)(h0:0<=i)(h1:i<qs.length)(e:ab qs i 0=a):qtB qs a=true:=by
 unfold qtB qtI;rw[dm h h0 h1 (js e)];exact decide_eq_true h0
theorem Pr {qs:List (List L)}{a i:Int}(h:upto (bV (uK qs a)) i)(h1:(qs.length:Int)<=i):qtB qs a=false:=by
 unfold qtB qtI;rw[dn h h1];rfl
end Go.V
namespace Go.V
structure Az (ls:List (List L)):Prop where
 w:Rw [.sl [tI]] ls
 l:ls.length<=1099511627776
 n:∀ i:Int,(ay ls i 0).length<=1099511627776
theorem Az.el {ls:List (List L)}(h:Az ls){i:Int}(h0:0<=i)(h1:i<ls.length):Rw [tI] (ay ls i 0)/\(ay ls i 0).length<=1099511627776:=
 ⟨Rw.sub (fs:=[.sl [tI]]) h.w (by omega) rfl,h.n i⟩
end Go.V
namespace Go.V
def CO (b:List (List L))(i k:Int):Bool:=inR (ab (ay b i 0) k 0) 0 ((b.length:Int)-1)&&decide (0<=ab (ay b i 0) k 1)
def Dg (x:List (List L))(i k:Int):Bool:=decide (0<=ab (ay x i 0) k 0)
def MU (b x:List (List L))(i:Int):Bool:=bM (CO b i) (ay b i 0).length&&bM (Dg x i) (ay x i 0).length
def HT (b x:List (List L)):Nat->Int
 |0=>0
 |n+1=>HT b x n+((ay b n 0).length+(ay x n 0).length)
def mailOk (b x:List (List L)):Bool:=inR b.length 1 4&&(decide (x.length=b.length)&&(bM (MU b x) b.length&&decide (HT b x b.length<=30)))
structure uV (b x:List (List L)):Prop where
 bw:Rw [.sl [tI,tI]] b
 xw:Rw [.sl [tI]] x
 bl:b.length<=1099511627776
 xl:x.length<=1099511627776
 bn:∀ i:Int,(ay b i 0).length<=1099511627776
 xn:∀ i:Int,(ay x i 0).length<=1099511627776
theorem JM {b x:List (List L)}(h:uV b x):∀ n:Nat,0<=HT b x n/\HT b x n<=2199023255552*n
 |0=>⟨Int.le_refl _,Int.le_refl _⟩
 | n+1=>by
   have q:=JM h n;have p1:=h.bn n;have p2:=h.xn n;rw[HT];omega
structure GY (b x:List (List L))(i t:Int):Prop where
 ok:upto (MU b x) i
 t:t=HT b x i.toNat
theorem Ox {b x:List (List L)}:GY b x 0 0:=⟨aL,rfl⟩
theorem Oy {b x:List (List L)}{i t:Int}(N:uV b x)(h:GY b x i t)(i0:0<=i)(i1:i<=4):0<=t/\t<=8796093022208:=by
 have q:=JM N i.toNat;have e:=h.t;omega
theorem JK {b x:List (List L)}{i t k j:Int}(h:GY b x i t)(i0:0<=i)(hp:upto (CO b i) k)(k1:((ay b i 0).length:Int)<=k)(ha:upto (Dg x i) j)(j1:((ay x i 0).length:Int)<=j):GY b x (i+1) (t+((ay b i 0).length+(ay x i 0).length)):=by
 refine⟨ax h.ok ?_,?_⟩
 ·unfold MU;rw[aT hp k1,aT ha j1];rfl
 ·rw[show(i+1).toNat=i.toNat+1 from by omega,HT, <-h.t,Int.toNat_of_nonneg i0]
theorem E8 {b x:List (List L)}(h:inR b.length 1 4=false):mailOk b x=false:=by unfold mailOk;rw[h];rfl
theorem E9 {b x:List (List L)}(h:(x.length:Int)≠b.length):mailOk b x=false:=by
 unfold mailOk;rw[decide_eq_false (p:=x.length=b.length) (by omega)];simp
theorem JJ {b x:List (List L)}{i:Int}(i0:0<=i)(i1:i<b.length)(h:MU b x i=false):mailOk b x=false:=by
 unfold mailOk;rw[be i0 i1 h];simp
theorem wz {b x:List (List L)}{i k:Int}(i0:0<=i)(i1:i<b.length)(k0:0<=k)(k1:k<(ay b i 0).length)(h:CO b i k=false):mailOk b x=false:=
 JJ i0 i1 (by unfold MU;rw[be k0 k1 h];rfl)
theorem Fa {b x:List (List L)}{i k:Int}(i0:0<=i)(i1:i<b.length)(k0:0<=k)(k1:k<(ay x i 0).length)(h:Dg x i k=false):mailOk b x=false:=
 JJ i0 i1 (by unfold MU;rw[be k0 k1 h,Bool.and_false])
theorem E7 {b x:List (List L)}{i t:Int}(h:GY b x i t)(h1:inR b.length 1 4=true)(h2:(x.length:Int)=b.length)(i1:i<=b.length)(i2:(b.length:Int)<=i):mailOk b x=decide (t<=30):=by
 have e:i.toNat=b.length:=by omega
 have q:=h.t;rw[e]at q;unfold mailOk;rw[h1,decide_eq_true (p:=x.length=b.length) (by omega),aT h.ok i2, <-q];rfl
theorem J1 {b:List (List L)}{i k:Int}(h:inR (ab (ay b i 0) k 0) 0 ((b.length:Int)-1)=false):CO b i k=false:=by unfold CO;rw[h];rfl
theorem J2 {b:List (List L)}{i k:Int}(h:ab (ay b i 0) k 1<0):CO b i k=false:=by unfold CO;rw[decide_eq_false (by omega),Bool.and_false]
theorem J3 {b:List (List L)}{i k:Int}(h:inR (ab (ay b i 0) k 0) 0 ((b.length:Int)-1)=true)(g:0<=ab (ay b i 0) k 1):CO b i k=true:=by unfold CO;rw[h,decide_eq_true g];rfl
theorem M2 {x:List (List L)}{i k:Int}(h:ab (ay x i 0) k 0<0):Dg x i k=false:=by unfold Dg;rw[decide_eq_false (by omega)]
theorem IJ {x:List (List L)}{i k:Int}(h:0<=ab (ay x i 0) k 0):Dg x i k=true:=by unfold Dg;rw[decide_eq_true h]
end Go.V
namespace Go.V
def Jj (b:List (List L))(i:Int):Nat->List (List L)
 |0=>[]
 |n+1=>Jj b i n++[[.v (.int .i64 (ab (ay b i 0) n 1))]]
def D9 (b:List (List L)):Nat->List (List L)
 |0=>[]
 |n+1=>D9 b n++Jj b n (ay b n 0).length
def GO (x:List (List L)):Nat->List (List L)
 |0=>[]
 |n+1=>GO x n++ay x n 0
def ifL (b x:List (List L)):List (List L):=if mailOk b x then D9 b b.length++GO x x.length else[]
theorem HS {b x:List (List L)}(h:mailOk b x=true):b.length<=4/\x.length=b.length:=by
 unfold mailOk at h;simp only[Bool.and_eq_true,decide_eq_true_eq,bh]at h;omega
structure Iy (b:List (List L))(i:Int)(o:List (List L)):Prop where
 e:o=D9 b i.toNat
 l:o.length<=1099511627776*i.toNat
structure Iz (b:List (List L))(i k:Int)(o:List (List L)):Prop where
 e:o=D9 b i.toNat++Jj b i k.toNat
 l:o.length<=1099511627776*i.toNat+k.toNat
structure IA (b x:List (List L))(j:Int)(o:List (List L)):Prop where
 e:o=D9 b b.length++GO x j.toNat
 l:o.length<=1099511627776*b.length+1099511627776*j.toNat
theorem Nj {b:List (List L)}:Iy b 0 []:=⟨rfl,Nat.zero_le _⟩
theorem Np {b o:List (List L)}{i:Int}(h:Iy b i o):Iz b i 0 o:=⟨by rw[h.e];simp[Jj],by have:=h.l;omega⟩
theorem Ji {b o:List (List L)}{i k:Int}(h:Iz b i k o)(k0:0<=k):Iz b i (k+1) (o++[[.v (.int .i64 (ab (ay b i 0) k 1))]]):=by
 have l:=h.l;have e:=h.e;refine⟨?_,?_⟩
 ·rw[show(k+1).toNat=k.toNat+1 from by omega,Jj,Int.toNat_of_nonneg k0, <-List.append_assoc, <-e]
 ·rw[List.length_append,List.length_cons,List.length_nil];omega
theorem Ed {b o:List (List L)}{i k:Int}(h:Iz b i k o)(i0:0<=i)(hn:(ay b i 0).length<=1099511627776)(k1:k<=((ay b i 0).length:Int))(k2:((ay b i 0).length:Int)<=k):Iy b (i+1) o:=by
 have l:=h.l;have e:=h.e;have ek:k.toNat=(ay b i 0).length:=by omega
 refine⟨?_,by omega⟩;rw[show(i+1).toNat=i.toNat+1 from by omega,D9,Int.toNat_of_nonneg i0, <-ek];exact e
theorem Ns {b x o:List (List L)}{i:Int}(h:Iy b i o)(i1:i<=b.length)(i2:(b.length:Int)<=i):IA b x 0 o:=by
 have l:=h.l;have e:=h.e;have ei:i.toNat=b.length:=by omega
 rw[ei]at e l;exact⟨by rw[e];simp[GO],by omega⟩
theorem Jo {b x o:List (List L)}{j:Int}(h:IA b x j o)(j0:0<=j)(hn:(ay x j 0).length<=1099511627776):IA b x (j+1) (o++ay x j 0):=by
 have l:=h.l;have e:=h.e;refine⟨?_,?_⟩
 ·rw[show(j+1).toNat=j.toNat+1 from by omega,GO,Int.toNat_of_nonneg j0, <-List.append_assoc, <-e]
 ·rw[List.length_append];omega
theorem Ek {b x o:List (List L)}{j:Int}(h:IA b x j o)(hm:mailOk b x=true)(j1:j<=x.length)(j2:(x.length:Int)<=j):o=ifL b x:=by
 have e:=h.e;rw[show j.toNat=x.length from by omega]at e;unfold ifL;rw[if_pos hm];exact e
theorem NX {b x:List (List L)}(hm:mailOk b x=false):([]:List (List L))=ifL b x:=by unfold ifL;rw[hm];rfl
end Go.V
namespace Go.V
structure Rm (cs:List (List L)):Prop where
 w:Rw [.sl [.sl [tI]]] cs
 l:cs.length<=1099511627776
 n:∀ i:Int,0<=i->i<cs.length->Az (ay cs i 0)
end Go.V
namespace Go.V
theorem uX :∀ {fs:List Ty} {e:(List L)} {j:Nat},bS fs e->fs[j]?=some tI->∃ n,e[j]?=some (.v (.int .i64 n))/\ -9223372036854775808<=n/\n<=9223372036854775807
 |[],_,j,_,h=>by simp at h
 |_::_,[],j,h,_=>h.elim
 | t::ts,l::ls,0,h,e=>by
   simp at e;subst e;have h1:=h.1;cases l with
   | v x=>cases x with
     |int k n=>simp only[bX]at h1;exact⟨n,by simp[h1.1],cV h1.2⟩
     |_=>simp[bX]at h1
   |_=>simp[bX]at h1
 | t::ts,l::ls,j+1,h,e=>by
   simp at e;obtain⟨n,h1,h2⟩:=uX h.2 e;exact⟨n,by simpa using h1,h2⟩
theorem sH {fs:List Ty}{es:List (List L)}{i:Int}{j:Nat}(h:Rw fs es)(hj:fs[j]?=some tI)(h1:i.toNat<es.length): -9223372036854775808<=ab es i j/\ab es i j<=9223372036854775807:=by
 obtain⟨n,e,b⟩:=uX (h.at h1) hj;unfold ab;rw[List.getD_eq_getElem?_getD (l:=es.getD i.toNat []),e];exact b
theorem Pz {x:Int}(h: -9223372036854775808<=x/\x<=9223372036854775807):Rw [tI] [[.v (.int .i64 x)]]:=Rw.one (fs:=[tI]) ⟨⟨rfl,h⟩,trivial⟩
def MR (os:List (List L))(f:Nat):Nat->List (List L)
 |0=>[]
 |n+1=>MR os f n++[[.v (.int .i64 (ab os n f))]]
def Qf (ls:List (List L)):Nat->List (List L)
 |0=>[]
 |n+1=>Qf ls n++ay ls n 0
def P3 (cs:List (List L)):Nat->List (List L)
 |0=>[]
 |n+1=>P3 cs n++Qf (ay cs n 0) (ay cs n 0).length
theorem sJ {es:List (List L)}{n j:Nat}(h:n<es.length):aj (ay es n j)<=bR (es.getD n []):=by
 unfold ay;rw[Int.toNat_natCast];generalize es.getD n []=r;cases e:r[j]? with
 |none=>rw[List.getD_eq_getElem?_getD,e];exact Nat.zero_le _
 | some l=>
   rw[List.getD_eq_getElem?_getD,e];have q:=AU e;cases l with
   |s sz es=>exact q
   |_=>exact Nat.zero_le _
theorem iH {es:List (List L)}{n:Nat}(h:n<es.length):aH (es.take (n+1))=aH (es.take n)+bR (es.getD n []):=by
 rw[dM (d:=[]) h,dV];simp[aH]
theorem xM {es:List (List L)}{n:Nat}:aH (es.take n)<=aH es:=by
 conv=>rhs;rw[<-List.take_append_drop n es,dV]
 omega
theorem mA {b:List (List L)}{i:Int}:∀ n,(Jj b i n).length=n
 |0=>rfl
 |n+1=>by rw[Jj,List.length_append,mA n];rfl
theorem Fi {b x:List (List L)}:∀ n:Nat,(((D9 b n).length+(GO x n).length:Nat):Int)=HT b x n
 |0=>rfl
 | n+1=>by
   have q:=Fi (b:=b) (x:=x) n;rw[HT,D9,GO,List.length_append,List.length_append,mA, <-q];omega
theorem sO {b x:List (List L)}:(ifL b x).length<=30:=by
 unfold ifL;by_cases c:mailOk b x=true
 ·rw[if_pos c,List.length_append];have t:=HS c;unfold mailOk at c;simp only[Bool.and_eq_true,decide_eq_true_eq]at c;have q:=Fi (b:=b) (x:=x) b.length;rw[t.2];omega
 ·rw[if_neg c];exact Nat.zero_le _
theorem Ee {b x:List (List L)}{i:Int}(h:uV b x)(i0:0<=i)(i1:i<b.length):∀ n,n<=(ay b i 0).length->Rw [tI] (Jj b i n)
 |0,_=>Rw.nil
 | n+1,hn=>Rw.append (Ee h i0 i1 n (by omega)) (Pz (sH (fs:=[tI,tI]) (Rw.sub (fs:=[.sl [tI,tI]]) h.bw (by omega) rfl) rfl (by omega))) (by
    have:=h.bn i;rw[mA];unfold maxLen;simp only[List.length_cons,List.length_nil];omega)
theorem Ea {b x:List (List L)}(h:uV b x)(hb:b.length<=4):∀ n,n<=b.length->Rw [tI] (D9 b n)/\(D9 b n).length<=n*1099511627776
 |0,_=>⟨Rw.nil,Nat.zero_le _⟩
 | n+1,hn=>by
   obtain⟨q1,q2⟩:=Ea h hb n (by omega);have l:=h.bn n;refine⟨Rw.append q1 (Ee h (by omega) (by omega) _ (Nat.le_refl _)) (by rw[mA];unfold maxLen;omega),?_⟩;rw[D9,List.length_append,mA];omega
theorem Ej {b x:List (List L)}(h:uV b x)(hb:x.length<=4):∀ n,n<=x.length->Rw [tI] (GO x n)/\(GO x n).length<=n*1099511627776
 |0,_=>⟨Rw.nil,Nat.zero_le _⟩
 | n+1,hn=>by
   obtain⟨q1,q2⟩:=Ej h hb n (by omega);have l:=h.xn n;refine⟨Rw.append q1 (Rw.sub (fs:=[.sl [tI]]) h.xw (by omega) rfl) (by unfold maxLen;omega),?_⟩;rw[GO,List.length_append];omega
theorem xX {b x:List (List L)}(h:uV b x):Rw [tI] (ifL b x):=by
 unfold ifL;by_cases c:mailOk b x=true
 ·rw[if_pos c];have t:=HS c;obtain⟨q1,l1⟩:=Ea h t.1 b.length (Nat.le_refl _);obtain⟨q2,l2⟩:=Ej h (by omega) x.length (Nat.le_refl _);exact Rw.append q1 q2 (by unfold maxLen;omega)
 ·rw[if_neg c];exact Rw.nil
structure vG (sp lg os cs b x qs:List (List L)):Prop where
 sw:Rw [tI,tI,tI] sp
 lw:Rw [tI,tI,tI] lg
 ow:Rw [tI,tI,tI,tI] os
 cw:Rw [.sl [.sl [tI]]] cs
 qw:Rw [tI,tI,tI] qs
 m:uV b x
 c:Rm cs
 sl:sp.length<=1073741824
 ll:lg.length<=1073741824
 ol:os.length<=1073741824
 ql:qs.length<=1073741824
 cl:aj cs<=1073741824
structure RL (os:List (List L))(i:Int)(o:List (List L)):Prop where
 e:o=MR os 1 i.toNat
structure RN (os cs:List (List L))(i:Int)(o:List (List L)):Prop where
 e:o=MR os 1 os.length++P3 cs i.toNat
structure RO (os cs:List (List L))(i k:Int)(o:List (List L)):Prop where
 e:o=MR os 1 os.length++P3 cs i.toNat++Qf (ay cs i 0) k.toNat
structure RP (os cs qs:List (List L))(j:Int)(o:List (List L)):Prop where
 e:o=MR os 1 os.length++P3 cs cs.length++MR qs 0 j.toNat
section
variable {sp lg os cs b x qs o : List (List L)} {i k j : Int}
end
def Hw (e:(List L)):Int:=QE (e.getD 0 .g)
theorem sL {l:List (List L)}{a:Int}:hasB l a=true↔a∈l.map Hw:=by
 rw[jt,List.mem_map]
 constructor
 ·rintro⟨k,hk,e⟩;refine⟨l[k],List.getElem_mem _,?_⟩;rw[<-e];unfold ab Hw;rw[Int.toNat_natCast,List.getD_eq_getElem?_getD (l:=l),List.getElem?_eq_getElem hk];rfl
 ·rintro⟨e,he,q⟩;obtain⟨k,hk,rfl⟩:=List.mem_iff_getElem.1 he;refine⟨k,hk,?_⟩;rw[<-q];unfold ab Hw;rw[Int.toNat_natCast,List.getD_eq_getElem?_getD (l:=l),List.getElem?_eq_getElem hk];rfl
theorem A2 {l m:List (List L)}{a:Int}:hasB (l++m) a=(hasB l a||hasB m a):=by
 refine dJ ?_;rw[Bool.or_eq_true,sL,sL,sL,List.map_append,List.mem_append]
theorem A3 {x a:Int}:hasB [[.v (.int .i64 x)]] a=true↔x=a:=by
 rw[sL];show a∈[x]↔x=a;rw[List.mem_singleton];exact⟨Eq.symm,Eq.symm⟩
theorem nY {p:Int->Bool}{n:Nat}:0<=cF p n↔∃ k:Nat,k<n/\p k=true:=by
 constructor
 ·intro h;obtain⟨h1,h2⟩:=dt h;obtain⟨k,e⟩:=Int.eq_ofNat_of_zero_le h;rw[e]at h1 h2;exact⟨k,by omega,h2⟩
 ·rintro⟨k,h1,h2⟩;exact gz h1 h2
def Rs (p:Int->Bool)(l:List (List L)):Nat->List (List L)
 |0=>[]
 |n+1=>Rs p l n++(if p (ab l n 0)then[[.v (.int .i64 (ab l n 0))]]else[])
structure RG (p:Int->Bool)(l:List (List L))(i:Int)(o:List (List L)):Prop where
 e:o=Rs p l i.toNat
 l:o.length<=i.toNat
section
variable {p : Int -> Bool} {l o : List (List L)} {i : Int}
end
theorem EH {sp lg:List (List L)}:(laL sp lg).length<=512:=by
 have k:∀ n,(GP sp lg n).length<=n:=by
  intro n
  induction n with
  |zero=>exact Nat.le_refl _
  |succ n ih=>rw[GP,List.length_append];split<;>simp<;>omega
 unfold laL;split
 ·exact k 512
 ·exact Nat.zero_le _
theorem N4 {sp lg:List (List L)}:Rw [tI] (laL sp lg):=by
 unfold laL;by_cases c:layOk sp lg=true
 ·rw[if_pos c,sS];refine oz (fun x hx=>?_) ?_
  ·have:=mG.1 hx;omega
  ·have q:=EH (sp:=sp) (lg:=lg);unfold laL at q;rw[if_pos c,sS,bO]at q;omega
 ·rw[if_neg c];exact Rw.nil
theorem kZ {l:List (List L)}{i:Int}(h:Rw [tI] l)(h0:0<=i)(h1:i<l.length):∃ rec o,bL (L.s 1 l) [(i.toNat,0)]=some (rec,o)/\o+[L.v (Value.int IntKind.i64 0)].length<=rec.length/\List.take [L.v (Value.int IntKind.i64 0)].length (List.drop o rec)=jZ af (L.s 1 l) [(i.toNat,0)] 0 [L.v (Value.int IntKind.i64 0)]:=
 yo (z0:=[.v (.int .i64 0)]) (z:=[.v (.int .i64 0)]) h.wf (by omega) rfl (by decide)
theorem wd {es:List (List L)}{i:Int}{j:Nat}:aj (ay es i j)<=aj es:=by
 by_cases c:i.toNat<es.length
 ·have q:=sJ (j:=j) c;rw[show ay es (i.toNat:Nat) j=ay es i j from by unfold ay;rw[Int.toNat_natCast]]at q;have d:=iH c;have e:=xM (es:=es) (n:=i.toNat+1);unfold aj at q ⊢;omega
 ·have e:ay es i j=[]:=by
   unfold ay;rw[List.getD_eq_getElem?_getD (l:=es),List.getElem?_eq_none (by omega)];simp[tV]
  rw[e];exact Nat.zero_le _
theorem LZ {ls:List (List L)}(h:Rw [.sl [tI]] ls)(hc:aj ls<=1073741824):Az ls:=by
 refine⟨h,by unfold aj at hc;omega,fun i=>?_⟩;have:=wd (es:=ls) (i:=i) (j:=0);unfold aj at this hc;omega
theorem LX {cs:List (List L)}(h:Rw [.sl [.sl [tI]]] cs)(hc:aj cs<=1073741824):Rm cs:=by
 refine⟨h,by unfold aj at hc;omega,fun i i0 i1=>LZ (Rw.sub (fs:=[.sl [.sl [tI]]]) h (by omega) rfl) ?_⟩;exact Nat.le_trans wd hc
theorem L0 {b x:List (List L)}(hb:Rw [.sl [tI,tI]] b)(hx:Rw [.sl [tI]] x)(cb:aj b<=1073741824)(cx:aj x<=1073741824):uV b x:=by
 refine⟨hb,hx,by unfold aj at cb;omega,by unfold aj at cx;omega,fun i=>?_,fun i=>?_⟩
 ·have:=wd (es:=b) (i:=i) (j:=0);unfold aj at this cb;omega
 ·have:=wd (es:=x) (i:=i) (j:=0);unfold aj at this cx;omega
theorem LY {sp lg os cs b x qs:List (List L)}(hs:Rw [tI,tI,tI] sp)(hl:Rw [tI,tI,tI] lg)(ho:Rw [tI,tI,tI,tI] os)(hc:Rw [.sl [.sl [tI]]] cs)(hb:Rw [.sl [tI,tI]] b)(hx:Rw [.sl [tI]] x)(hq:Rw [tI,tI,tI] qs) 
 (cs1:aj sp<=1048576) (cl:aj lg<=1048576) (co:aj os<=1048576) (cc:aj cs<=1048576) (cb:aj b<=1048576) (cx:aj x<=1048576) (cq:aj qs<=1048576):vG sp lg os cs b x qs:=
 ⟨hs,hl,ho,hc,hq,L0 hb hx (by omega) (by omega),LX hc (by omega),by unfold aj at cs1;omega,by unfold aj at cl;omega,by unfold aj at co;omega,by unfold aj at cq;omega,by omega⟩
end Go.V
namespace Go.V
theorem tF {i:Int}(h:0<=i)(h1:i<=9223372036854775807):aV .sub .i64 i 1=i-1:=cH (by omega)
theorem tG {es:List (List L)}{i:Int}:CU es (Int.toNat 0) (Qi i 0)=es.take i.toNat:=by simp[CU,Qi]
theorem cmp_eq {a b:Int}:b8 .eql a b=decide (a=b):=by unfold b8;by_cases c:a=b<;>simp[c]
theorem v5 {a b:Int}:b8 .neq a b=decide (a≠b):=by unfold b8;by_cases c:a=b<;>simp[c]
def rngIn (n a l:Int):Bool:=inR l 1 n&&inR a 0 (n-l)
def qF (n:Int)(rs:List (List L))(i:Int):Bool:=rngIn n (ab rs i 0) (ab rs i 1)&& !(decide (0<i)&&decide (ab rs i 0<=aV .add .i64 (ab rs (i-1) 0) (ab rs (i-1) 1)))
def rgOk (n:Int)(rs:List (List L)):Bool:=bM (qF n rs) rs.length&&inR n 1 32
section
variable {n i : Int} {rs : List (List L)}
theorem F9 (i0:0<=i)(i1:i<rs.length)(h:rngIn n (ab rs i 0) (ab rs i 1)=false):rgOk n rs=false:=by
 unfold rgOk;rw[be i0 i1 (by unfold qF;rw[h];rfl)];rfl
theorem Ga (i0:0<=i)(i1:i<rs.length)(h:0<i)(g:ab rs i 0<=aV .add .i64 (ab rs (i-1) 0) (ab rs (i-1) 1)):rgOk n rs=false:=by
 unfold rgOk;rw[be i0 i1 (by unfold qF;rw[decide_eq_true h,decide_eq_true g];simp)];rfl
theorem BZ (h:rngIn n (ab rs i 0) (ab rs i 1)=true)(g:i<=0):qF n rs i=true:=by
 unfold qF;rw[h,decide_eq_false (by omega)];rfl
theorem B5 (h:rngIn n (ab rs i 0) (ab rs i 1)=true)(g:aV .add .i64 (ab rs (i-1) 0) (ab rs (i-1) 1)<ab rs i 0):qF n rs i=true:=by
 unfold qF;rw[h,decide_eq_false (p:=ab rs i 0<=_) (by omega)];simp
theorem F8 (h:upto (qF n rs) i)(g:(rs.length:Int)<=i):inR n 1 32=rgOk n rs:=by unfold rgOk;rw[aT h g];rfl
end
def mC (rs:List (List L))(p j:Int):Bool:=decide (ab rs j 0<=p)&&decide (p<aV .add .i64 (ab rs j 0) (ab rs j 1))
def rhI (rs:List (List L))(p:Int):Int:=cF (mC rs p) rs.length
def rhB (rs:List (List L))(p:Int):Bool:=decide (0<=rhI rs p)
def rh1 (a l p:Int):Bool:=decide (a<=p)&&decide (p<aV .add .i64 a l)
theorem Me {rs:List (List L)}{p i:Int}(h:upto (bV (mC rs p)) i)(h0:0<=i)(h1:i<rs.length)(a:ab rs i 0<=p)(b:p<aV .add .i64 (ab rs i 0) (ab rs i 1)):rhB rs p=true:=by
 unfold rhB rhI;rw[dm h h0 h1 (by unfold mC;rw[decide_eq_true a,decide_eq_true b];rfl)];exact decide_eq_true h0
theorem Pv {rs:List (List L)}{p i:Int}(h:upto (bV (mC rs p)) i)(h1:(rs.length:Int)<=i):rhB rs p=false:=by
 unfold rhB rhI;rw[dn h h1];rfl
theorem Ps {rs:List (List L)}{p i:Int}(a:p<ab rs i 0):bV (mC rs p) i=true:=by unfold bV mC;rw[decide_eq_false (by omega)];rfl
theorem Pu {rs:List (List L)}{p i:Int}(b:aV .add .i64 (ab rs i 0) (ab rs i 1)<=p):bV (mC rs p) i=true:=by unfold bV mC;rw[decide_eq_false (p:=p<_) (by omega)];simp
def mshB (p1 k1 b1 p2 k2 b2:Int):Bool:=spOk p1 k1 b1&&(spOk p2 k2 b2&&(decide (k1=k2)&&(decide (p1≠p2)&&decide (aV .and .i64 b1 b2=0))))
def Mb (qs:List (List L)):Nat->Int
 |0=>0
 |n+1=>Mb qs n+clsSz (ab qs n 1)
def qcI (qs:List (List L)):Int:=Mb qs qs.length
theorem AR {k:Int}:0<=clsSz k/\clsSz k<=8:=by
 unfold clsSz;repeat' split
 all_goals omega
theorem Kj {qs:List (List L)}:∀ n:Nat,0<=Mb qs n/\Mb qs n<=8*n
 |0=>⟨Int.le_refl _,Int.le_refl _⟩
 |n+1=>by have q:=Kj (qs:=qs) n;have c:=AR (k:=ab qs n 1);rw[Mb];omega
structure GZ (qs:List (List L))(i t:Int):Prop where
 e:t=Mb qs i.toNat
theorem Pi {qs:List (List L)}:GZ qs 0 0:=⟨rfl⟩
theorem QU {qs:List (List L)}{i t:Int}(h:GZ qs i t)(i0:0<=i):0<=t/\t<=8*i:=by have q:=Kj (qs:=qs) i.toNat;rw[<-h.e]at q;omega
theorem Kk {qs:List (List L)}{i t:Int}(h:GZ qs i t)(i0:0<=i)(i1:i<=1099511627776):GZ qs (i+1) (aV .add .i64 t (clsSz (ab qs i 1))):=by
 have b:=QU h i0;have c:=AR (k:=ab qs i 1);refine⟨?_⟩;rw[show aV .add .i64 t (clsSz (ab qs i 1))=t+clsSz (ab qs i 1)from aB (by omega),show(i+1).toNat=i.toNat+1 from by omega,Mb, <-h.e,Int.toNat_of_nonneg i0]
theorem FU {qs:List (List L)}{i t:Int}(h:GZ qs i t)(i1:i<=qs.length)(i2:(qs.length:Int)<=i):t=qcI qs:=by unfold qcI;rw[h.e,show i.toNat=qs.length from by omega]
def stlOk (b:List (List L))(a c s:Int):Bool:=inR c 0 3&&(decide (0<=a)&&(decide (0<=s)&&(!qtB b a&&(decide (b.length=0)||decide (ab b (b.length-1:Int) 2<=s)))))
def yj (qs:List (List L))(i:Int):Bool:=stlOk (qs.take i.toNat) (ab qs i 0) (ab qs i 1) (ab qs i 2)
def quarOk (rm:Int)(qs:List (List L)):Bool:=bM (yj qs) qs.length&&(inR rm 0 500&&decide (qcI qs<=rm))
def staB (a c s:Int):Bool:=inR c 0 3&&(decide (0<=a)&&decide (0<=s))
theorem qQ {es:List (List L)}{n:Nat}{i:Int}{j:Nat}(h:i.toNat<n):ab (es.take n) i j=ab es i j:=by
 unfold ab;rw[List.getD_eq_getElem?_getD (l:=es.take n),List.getElem?_take,if_pos h,List.getD_eq_getElem?_getD (l:=es)]
section
variable {rm i : Int} {qs : List (List L)}
theorem BR (i0:0<=i)(i1:i<qs.length)(h:yj qs i=false):quarOk rm qs=false:=by unfold quarOk;rw[be i0 i1 h];rfl
theorem FV (h:upto (yj qs) i)(g:(qs.length:Int)<=i):quarOk rm qs=(inR rm 0 500&&decide (qcI qs<=rm)):=by unfold quarOk;rw[aT h g];rfl
theorem Pd (h:staB (ab qs i 0) (ab qs i 1) (ab qs i 2)=false):yj qs i=false:=by
 unfold yj stlOk;unfold staB at h
 revert h
 cases inR (ab qs i 1) 0 3<;>cases decide (0<=ab qs i 0)<;>cases decide (0<=ab qs i 2)<;>simp
theorem BQ (i0:0<i)(i1:i<qs.length):(decide ((qs.take i.toNat).length=0)||decide (ab (qs.take i.toNat) ((qs.take i.toNat).length-1:Int) 2<=ab qs i 2))=decide (ab qs (i-1) 2<=ab qs i 2):=by
 have e:(qs.take i.toNat).length=i.toNat:=by rw[List.length_take];omega
 rw[e,qQ (by omega),decide_eq_false (p:=i.toNat=0) (by omega),show((i.toNat:Nat):Int)-1=i-1 from by omega];rfl
theorem Pe (i0:0<i)(i1:i<qs.length)(h:ab qs i 2<ab qs (i-1) 2):yj qs i=false:=by
 unfold yj stlOk;rw[BQ i0 i1,decide_eq_false (p:=ab qs (i-1) 2<=ab qs i 2) (by omega)];simp
theorem Pf (h:qtB (qs.take i.toNat) (ab qs i 0)=true):yj qs i=false:=by unfold yj stlOk;rw[h];simp
theorem Pg (h:staB (ab qs i 0) (ab qs i 1) (ab qs i 2)=true)(g:qtB (qs.take i.toNat) (ab qs i 0)=false)(i0:0<=i)(z:i<=0):yj qs i=true:=by
 unfold yj stlOk;unfold staB at h;simp only[Bool.and_eq_true]at h;have e:i=0:=by omega
 subst e;rw[h.1,h.2.1,h.2.2,g];rfl
theorem Ph (h:staB (ab qs i 0) (ab qs i 1) (ab qs i 2)=true)(g:qtB (qs.take i.toNat) (ab qs i 0)=false)(i0:0<i)(i1:i<qs.length)(z:ab qs (i-1) 2<=ab qs i 2):yj qs i=true:=by
 unfold yj stlOk;unfold staB at h;simp only[Bool.and_eq_true]at h;rw[BQ i0 i1,h.1,h.2.1,h.2.2,g,decide_eq_true z];rfl
end
def qM (ls:List (List L))(i:Int):Nat->List Int
 |0=>[]
 |n+1=>qM ls i n++[ab (ay ls i 0) n 0]
def qO (ls:List (List L)):Nat->List Int
 |0=>[]
 |n+1=>qO ls n++qM ls n (ay ls n 0).length
def IR (ls:List (List L))(i k:Int):Bool:=inR (ab (ay ls i 0) k 0) 0 511&&decide (aV .rem .i64 (ab (ay ls i 0) k 0) (clsSz i)=0)
def IQ (ls:List (List L))(i:Int):Bool:=decide ((ay ls i 0).length<=8)&&bM (IR ls i) (ay ls i 0).length
def caOk (ls:List (List L)):Bool:=decide (ls.length=4)&&(bM (IQ ls) 4&&decide ((qO ls 4).Nodup))
theorem qN {ls:List (List L)}{i:Int}:∀ n,(qM ls i n).length=n
 |0=>rfl
 |n+1=>by rw[qM,List.length_append,qN n];rfl
theorem AM {ls:List (List L)}{i:Int}:∀ (m n:Nat),n<=m->∃ r,qM ls i m=qM ls i n++r
 |0,n,h=>⟨[],by rw[show n=0 from by omega];rfl⟩
 | m+1,n,h=>by
   by_cases c:n=m+1
   ·subst c;exact⟨[],by simp⟩
   ·obtain⟨r,e⟩:=AM (ls:=ls) (i:=i) m n (by omega);exact⟨r++[ab (ay ls i 0) m 0],by rw[qM,e,List.append_assoc]⟩
theorem AN {ls:List (List L)}:∀ (m n:Nat),n<=m->∃ r,qO ls m=qO ls n++r
 |0,n,h=>⟨[],by rw[show n=0 from by omega];rfl⟩
 | m+1,n,h=>by
   by_cases c:n=m+1
   ·subst c;exact⟨[],by simp⟩
   ·obtain⟨r,e⟩:=AN (ls:=ls) m n (by omega);exact⟨r++qM ls m (ay ls m 0).length,by rw[qO,e,List.append_assoc]⟩
theorem sr {ls:List (List L)}{i k:Int}(h:0<=k):qM ls i (k+1).toNat=qM ls i k.toNat++[ab (ay ls i 0) k 0]:=by
 rw[show(k+1).toNat=k.toNat+1 from by omega,qM,Int.toNat_of_nonneg h]
theorem su {ls:List (List L)}{i:Int}(h:0<=i):qO ls (i+1).toNat=qO ls i.toNat++qM ls i (ay ls i 0).length:=by
 rw[show(i+1).toNat=i.toNat+1 from by omega,qO,Int.toNat_of_nonneg h]
structure Kz (ls:List (List L))(i:Int):Prop where
 ok:upto (IQ ls) i
 nd:(qO ls i.toNat).Nodup
 l:i<=4
 b:∀ x∈qO ls i.toNat,0<=x/\x<=511
 n:(qO ls i.toNat).length<=8*i.toNat
structure Mz (ls:List (List L))(i k:Int):Prop where
 ok:upto (IQ ls) i
 nd:(qO ls i.toNat++qM ls i k.toNat).Nodup
 l:i<=3
 s:(ay ls i 0).length<=8
 bk:upto (IR ls i) k
 b:∀ x∈qO ls i.toNat++qM ls i k.toNat,0<=x/\x<=511
 n:(qO ls i.toNat).length<=8*i.toNat
section
variable {ls : List (List L)} {i k : Int}
theorem M7 :Kz ls 0:=⟨aL,List.nodup_nil,by omega,(fun x hx=>by cases hx),Nat.zero_le _⟩
theorem M9 (h:Kz ls i)(i0:0<=i)(c:inR i 0 3=true)(s:(ay ls i 0).length<=8):Mz ls i 0:=
 ⟨h.ok,by simpa[qM]using h.nd,(bh.1 c).2,s,aL,by simpa[qM]using h.b,h.n⟩
theorem IY (h:Mz ls i k)(k0:0<=k)(h1:inR (ab (ay ls i 0) k 0) 0 511=true)(h2:aV .rem .i64 (ab (ay ls i 0) k 0) (clsSz i)=0)(h3:ab (ay ls i 0) k 0∉qO ls i.toNat++qM ls i k.toNat):Mz ls i (k+1):=by
 refine⟨h.ok,?_,h.l,h.s,ax h.bk (by unfold IR;rw[h1,decide_eq_true h2];rfl),?_,h.n⟩
 ·rw[sr k0, <-List.append_assoc];exact gS h.nd h3
 ·rw[sr k0, <-List.append_assoc];intro x hx;rcases List.mem_append.1 hx with q|q
  ·exact h.b x q
  ·simp at q;subst q;exact bh.1 h1
theorem IV (h:Mz ls i k)(i0:0<=i)(k1:k<=((ay ls i 0).length:Int))(k2:((ay ls i 0).length:Int)<=k):Kz ls (i+1):=by
 have e:k.toNat=(ay ls i 0).length:=by omega
 have nd:=h.nd;have b:=h.b;have n:=h.n;have s:=h.s;have l:=h.l;rw[e, <-su i0]at nd b;refine⟨ax h.ok (by unfold IQ;rw[decide_eq_true h.s,aT h.bk k2];rfl),nd,by omega,b,?_⟩;rw[su i0,List.length_append,qN];omega
theorem vV (h:(ls.length:Int)≠4):caOk ls=false:=by unfold caOk;rw[decide_eq_false (by omega)];rfl
theorem IU (i0:0<=i)(l:i<=3)(h:IQ ls i=false):caOk ls=false:=by unfold caOk;rw[be (n:=4) i0 (by omega) h];simp
theorem DC (i0:0<=i)(h:8<(ay ls i 0).length)(l:i<=3):caOk ls=false:=IU i0 l (by unfold IQ;rw[decide_eq_false (by omega)];rfl)
theorem vW (i0:0<=i)(l:i<=3)(k0:0<=k)(k1:k<(ay ls i 0).length)(h:IR ls i k=false):caOk ls=false:=IU i0 l (by unfold IQ;rw[be k0 k1 h,Bool.and_false])
theorem IW (h:inR (ab (ay ls i 0) k 0) 0 511=false):IR ls i k=false:=by unfold IR;rw[h];rfl
theorem IX (h:aV .rem .i64 (ab (ay ls i 0) k 0) (clsSz i)≠0):IR ls i k=false:=by unfold IR;rw[decide_eq_false h,Bool.and_false]
theorem Dz (i0:0<=i)(l:i<=3)(k0:0<=k)(k1:k<(ay ls i 0).length)(h:ab (ay ls i 0) k 0∈qO ls i.toNat++qM ls i k.toNat):caOk ls=false:=by
 obtain⟨r,e⟩:=AN (ls:=ls) 4 (i+1).toNat (by omega);obtain⟨r2,e2⟩:=AM (ls:=ls) (i:=i) (ay ls i 0).length (k+1).toNat (by omega);rw[su i0,e2,sr k0]at e;have:¬ (qO ls 4).Nodup:=dup (a:=qO ls i.toNat++qM ls i k.toNat) (b:=r2++r) (x:=ab (ay ls i 0) k 0) (by rw[e];simp only[List.append_assoc];rfl) h;unfold caOk;rw[decide_eq_false this];simp
theorem DD (h:Kz ls i)(h1:(ls.length:Int)=4)(i2:4<=i):caOk ls=true:=by
 have l:=h.l;have e:i=4:=by omega
 subst e;unfold caOk;rw[decide_eq_true (by omega),aT h.ok (by omega),decide_eq_true (p:=(qO ls 4).Nodup) h.nd];rfl
theorem KU (h:Kz ls i)(i1:i<=ls.length)(i2:(ls.length:Int)<=i):decide ((ls.length:Int)=4)=caOk ls:=by
 by_cases c:(ls.length:Int)=4
 ·rw[DD h c (by omega)];exact decide_eq_true c
 ·rw[vV c];exact decide_eq_false c
end
structure M1 (ls:List (List L))(i:Int)(o:List (List L)):Prop where
 p:Kz ls i
 e:o=fB (qO ls i.toNat)
structure II (ls:List (List L))(i k:Int)(o:List (List L)):Prop where
 p:Mz ls i k
 e:o=fB (qO ls i.toNat++qM ls i k.toNat)
structure yV (ls:List (List L))(i:Int)(es:List (List L)):Prop where
 p:Kz ls i
 s:kV es (qO ls i.toNat)
structure yW (ls:List (List L))(i k:Int)(es:List (List L)):Prop where
 p:Mz ls i k
 s:kV es (qO ls i.toNat++qM ls i k.toNat)
section
variable {ls o es : List (List L)} {i k : Int}
theorem Rj :M1 ls 0 []:=⟨M7,rfl⟩
theorem Rk (h:M1 ls i o)(i0:0<=i)(i1:i<4)(s:(ay ls i 0).length<=8):II ls i 0 o:=⟨M9 h.p i0 (bh.2 (by omega)) s,by rw[h.e];simp[qM]⟩
theorem PQ (h:II ls i k o)(k0:0<=k)(h1:inR (ab (ay ls i 0) k 0) 0 511=true)(h2:aV .rem .i64 (ab (ay ls i 0) k 0) (clsSz i)=0)(h3:hasB o (ab (ay ls i 0) k 0)=false):II ls i (k+1) (o++[[.v (.int .i64 (ab (ay ls i 0) k 0))]]):=by
 have e:=h.e;rw[e]at h3;refine⟨IY h.p k0 h1 h2 (qR h3),?_⟩;rw[sr k0, <-List.append_assoc,eg, <-e];rfl
theorem PP (h:II ls i k o)(i0:0<=i)(k1:k<=((ay ls i 0).length:Int))(k2:((ay ls i 0).length:Int)<=k):M1 ls (i+1) o:=
 ⟨IV h.p i0 k1 k2,by rw[su i0,h.e,show k.toNat=(ay ls i 0).length from by omega]⟩
theorem Mn (h:II ls i k o)(i0:0<=i)(k0:0<=k)(k1:k<(ay ls i 0).length)(h3:hasB o (ab (ay ls i 0) k 0)=true):caOk ls=false:=by
 rw[h.e,kC]at h3;exact Dz i0 h.p.l k0 k1 h3
theorem Mo (h:II ls i k o)(k0:0<=k):o.length<=40+k.toNat/\Rw [tI] o:=by
 have n:=h.p.n;have l:=h.p.l;have s:=h.p.s;have q:o.length<=40+k.toNat:=by rw[h.e,bO,List.length_append,qN];omega
 refine⟨q,?_⟩;rw[h.e];have nd:=h.p.nd;refine oz (fun x hx=>by have:=h.p.b x hx;omega) ?_;rw[<-bO, <-h.e];have bd:k.toNat<=512\/512<k.toNat:=by omega
 rcases bd with bd|bd
 ·omega
 ·exfalso;have c:=List.Nodup.length_le_of_subset (l₁:=qO ls i.toNat++qM ls i k.toNat) (l₂:=(List.range 512).map fun j:Nat=>(j:Int)) nd (fun x hx=>by
   have b:=h.p.b x hx;rw[List.mem_map];exact⟨x.toNat,List.mem_range.2 (by omega),by omega⟩)
  rw[List.length_append,qN,List.length_map,List.length_range]at c;omega
theorem NV :yV ls 0 []:=⟨M7,Ae⟩
theorem NW (h:yV ls i es)(i0:0<=i)(c:inR i 0 3=true)(s:(ay ls i 0).length<=8):yW ls i 0 es:=⟨M9 h.p i0 c s,by simpa[qM]using h.s⟩
theorem Lo (h:yW ls i k es)(k0:0<=k)(h1:inR (ab (ay ls i 0) k 0) 0 511=true)(h2:aV .rem .i64 (ab (ay ls i 0) k 0) (clsSz i)=0)(h3:mgbI es (ab (ay ls i 0) k 0)=false):yW ls i (k+1) (iB es (ab (ay ls i 0) k 0) (.v (.bool true))):=by
 refine⟨IY h.p k0 h1 h2 (fun m=>by rw[(h.s.at_ _).2 m]at h3;cases h3),?_⟩;rw[sr k0, <-List.append_assoc];exact ra h.s
theorem Ln (h:yW ls i k es)(i0:0<=i)(k1:k<=((ay ls i 0).length:Int))(k2:((ay ls i 0).length:Int)<=k):yV ls (i+1) es:=
 ⟨IV h.p i0 k1 k2,by have s:=h.s;rw[show k.toNat=(ay ls i 0).length from by omega]at s;rw[su i0];exact s⟩
theorem HB (h:yW ls i k es)(i0:0<=i)(k0:0<=k)(k1:k<(ay ls i 0).length)(h3:mgbI es (ab (ay ls i 0) k 0)=true):caOk ls=false:=Dz i0 h.p.l k0 k1 ((h.s.at_ _).1 h3)
theorem Hz (h:yV ls i es)(i0:0<=i)(s:8<(ay ls i 0).length)(i1:i<ls.length):caOk ls=false:=by
 by_cases c:(ls.length:Int)=4
 ·exact DC i0 s (by omega)
 ·exact vV c
theorem HA (h:yV ls i es)(i0:0<=i)(c:inR i 0 3=false)(i1:i<ls.length):caOk ls=false:=by
 have:=kY.1 c;exact vV (by omega)
end
def Dc (cs:List (List L))(i:Int):Bool:=inR (ab cs i 0) 0 15&& !(decide (0<i)&&decide (ab cs i 0<=ab cs (i-1) 0))
def plOk (k m:Int)(cs:List (List L)):Bool:=bM (Dc cs) cs.length&&(inR k 0 31&&(inR m 0 31&&decide (k≠m)))
def jbOk (k m:Int)(cs:List (List L))(ph nx:Int):Bool:=plOk k m cs&&(inR ph 0 5&&inR nx 0 cs.length)
section
variable {k m i : Int} {cs : List (List L)}
theorem FN (i0:0<=i)(i1:i<cs.length)(h:inR (ab cs i 0) 0 15=false):plOk k m cs=false:=by
 unfold plOk;rw[be i0 i1 (by unfold Dc;rw[h];rfl)];rfl
theorem FO (i0:0<=i)(i1:i<cs.length)(h:0<i)(g:ab cs i 0<=ab cs (i-1) 0):plOk k m cs=false:=by
 unfold plOk;rw[be i0 i1 (by unfold Dc;rw[decide_eq_true h,decide_eq_true g];simp)];rfl
theorem BL (h:inR (ab cs i 0) 0 15=true)(g:i<=0):Dc cs i=true:=by unfold Dc;rw[h,decide_eq_false (by omega)];rfl
theorem BM (h:inR (ab cs i 0) 0 15=true)(g:ab cs (i-1) 0<ab cs i 0):Dc cs i=true:=by
 unfold Dc;rw[h,decide_eq_false (p:=ab cs i 0<=_) (by omega)];simp
theorem wH (h:upto (Dc cs) i)(g:(cs.length:Int)<=i):plOk k m cs=(inR k 0 31&&(inR m 0 31&&decide (k≠m))):=by unfold plOk;rw[aT h g];rfl
end
end Go.V
namespace Go.V
theorem Ja {sp lg:List (List L)}{a:Int}(h:layOk sp lg=true):dzK sp lg a=dnK sp lg a:=by unfold dzK;rw[if_pos h]
theorem Jb {sp lg:List (List L)}{a:Int}(h:layOk sp lg=true):dzI sp lg a=dnI sp lg a:=by unfold dzI;rw[if_pos h]
theorem Jc {sp lg:List (List L)}{a:Int}(h:layOk sp lg=true):dzO sp lg a=dnO sp lg a:=by unfold dzO;rw[if_pos h]
theorem xO {sp lg:List (List L)}{a:Int}(h:dnK sp lg a=1):0<=dnI sp lg a/\dnI sp lg a<sp.length:=by
 unfold dnK at h;by_cases c:0<=eS sp a
 ·unfold dnI;rw[if_pos c];rcases mz (p:=tX sp a) (n:=sp.length)with q|q
  ·have:eS sp a= -1:=q;omega
  ·exact q
 ·rw[if_neg c]at h;by_cases d:0<=j4 lg a
  ·rw[if_pos d]at h;omega
  ·rw[if_neg d]at h;omega
theorem I9 {sp lg:List (List L)}{a:Int}(h:dnK sp lg a=3):0<=dnI sp lg a/\dnI sp lg a<lg.length:=by
 unfold dnK at h;by_cases c:0<=eS sp a
 ·rw[if_pos c]at h;split at h<;>omega
 ·rw[if_neg c]at h;by_cases d:0<=j4 lg a
  ·unfold dnI;rw[if_neg c,if_pos d];rcases mz (p:=uL lg a) (n:=lg.length)with q|q
   ·have:j4 lg a= -1:=q;omega
   ·exact q
  ·rw[if_neg d]at h;omega
def jB (os:List (List L))(x j:Int):Bool:=eqB (ab os j 0) x
def oiI (os:List (List L))(x:Int):Int:=cF (jB os x) os.length
def oiB (os:List (List L))(x:Int):Bool:=decide (0<=oiI os x)
def okO (sp lg:List (List L))(a s:Int):Bool:=decide (dnO sp lg a=0)&&((decide (dnK sp lg a=1)&&decide (ab sp (dnI sp lg a) 1=clsOf s))||(decide (dnK sp lg a=3)&&decide (ab lg (dnI sp lg a) 2=s)))
def s7 (sp lg os cs:List (List L))(nx i:Int):Bool:=
 !(decide (0<i)&&decide (ab os i 1<=ab os (i-1) 1))&&(inR (ab os i 0) 1 (aV .sub .i64 nx 1)&&(inR (ab os i 3) 0 (cs.length-1:Int)&&(!oiB (os.take i.toNat) (ab os i 0)&&okO sp lg (ab os i 1) (ab os i 2))))
def objOk (sp lg os cs:List (List L))(nx:Int):Bool:=bM (s7 sp lg os cs nx) os.length
section
variable {sp lg os cs : List (List L)} {nx i k : Int}
theorem jv (i0:0<=i)(i1:i<os.length)(h:s7 sp lg os cs nx i=false):objOk sp lg os cs nx=false:=be i0 i1 h
theorem Ft (h:upto (s7 sp lg os cs nx) i)(g:(os.length:Int)<=i):objOk sp lg os cs nx=true:=aT h g
theorem JN (h:0<i)(g:ab os i 1<=ab os (i-1) 1):s7 sp lg os cs nx i=false:=by unfold s7;rw[decide_eq_true h,decide_eq_true g];rfl
theorem JO (h:inR (ab os i 0) 1 (aV .sub .i64 nx 1)=false):s7 sp lg os cs nx i=false:=by unfold s7;rw[h];simp
theorem JP (h:inR (ab os i 3) 0 (cs.length-1:Int)=false):s7 sp lg os cs nx i=false:=by unfold s7;rw[h];simp
theorem JQ (h:oiB (os.take i.toNat) (ab os i 0)=true):s7 sp lg os cs nx i=false:=by unfold s7;rw[h];simp
theorem BA (h:okO sp lg (ab os i 1) (ab os i 2)=false):s7 sp lg os cs nx i=false:=by unfold s7;rw[h];simp
theorem HY (h1:i<=0\/ab os (i-1) 1<ab os i 1)(h2:inR (ab os i 0) 1 (aV .sub .i64 nx 1)=true)(h3:inR (ab os i 3) 0 (cs.length-1:Int)=true)(h4:oiB (os.take i.toNat) (ab os i 0)=false)(h5:okO sp lg (ab os i 1) (ab os i 2)=true):s7 sp lg os cs nx i=true:=by
 unfold s7;rw[h2,h3,h4,h5];rcases h1 with h|h
 ·rw[decide_eq_false (p:=0<i) (by omega)];rfl
 ·rw[decide_eq_false (p:=ab os i 1<=ab os (i-1) 1) (by omega)];simp
theorem JW {a s:Int}(h:dnO sp lg a≠0):okO sp lg a s=false:=by unfold okO;rw[decide_eq_false h];rfl
theorem OS {a s:Int}(h1:dnK sp lg a≠1\/ab sp (dnI sp lg a) 1≠clsOf s)(h2:dnK sp lg a≠3\/ab lg (dnI sp lg a) 2≠s):okO sp lg a s=false:=by
 unfold okO;rcases h1 with h|h<;>rcases h2 with g|g<;>simp[h,g]
theorem JX {a s:Int}(h0:dnO sp lg a=0)(h1:dnK sp lg a=1)(h2:ab sp (dnI sp lg a) 1=clsOf s):okO sp lg a s=true:=by unfold okO;rw[decide_eq_true h0,decide_eq_true h1,decide_eq_true h2];rfl
theorem JY {a s:Int}(h0:dnO sp lg a=0)(h1:dnK sp lg a=3)(h2:ab lg (dnI sp lg a) 2=s):okO sp lg a s=true:=by unfold okO;rw[decide_eq_true h0,decide_eq_true h1,decide_eq_true h2];simp
theorem L4 (k0:0<=k)(k1:k<i)(i1:i<os.length)(h:ab os k 0=ab os i 0):oiB (os.take i.toNat) (ab os i 0)=true:=by
 unfold oiB oiI;rw[decide_eq_true_eq,nY];refine⟨k.toNat,by rw[List.length_take];omega,?_⟩;unfold jB;rw[Int.toNat_of_nonneg k0,qQ (by omega)];exact js h
theorem OQ {x:Int}(h:upto (fun j=> !eqB (ab os j 0) x) k)(k1:i<=k)(i0:0<=i):oiB (os.take i.toNat) x=false:=by
 unfold oiB oiI;refine decide_eq_false (fun c=>?_);obtain⟨m,m1,m2⟩:=nY.1 c;rw[List.length_take]at m1;have q:=h m (by omega) (by omega);unfold jB at m2;rw[qQ (by omega)]at m2;simp only at q;rw[m2]at q;cases q
end
end Go.V
namespace Go.V
def P1 (es:List (List L)):Prop:=∀ e∈es,∃ k b:Int,e=[.v (.int .i64 k),.v (.int .i64 b)]
theorem oX {k b:Int}{es:List (List L)}{n:Int}:cY ([.v (.int .i64 k),.v (.int .i64 b)]::es) n=if k=n then some (0,.int .i64 b)else(cY es n).map fun p=>(p.1+1,p.2):=rfl
theorem j9 {k b:Int}{es:List (List L)}{n:Int}:fb ([.v (.int .i64 k),.v (.int .i64 b)]::es) n=if k=n then b else fb es n:=by
 unfold fb;rw[oX];by_cases c:k=n
 ·rw[if_pos c,if_pos c]
 ·rw[if_neg c,if_neg c];cases cY es n with
  |none=>rfl
  |some p=>obtain⟨j,v⟩:=p;cases v<;>rfl
theorem Fj {k b x:Int}{es:List (List L)}{n:Int}:iB ([.v (.int .i64 k),.v (.int .i64 b)]::es) n (.v (.int .i64 x))=if k=n then[.v (.int .i64 n),.v (.int .i64 x)]::es else[.v (.int .i64 k),.v (.int .i64 b)]::iB es n (.v (.int .i64 x)):=by
 unfold iB;rw[oX];by_cases c:k=n
 ·rw[if_pos c,if_pos c];rfl
 ·rw[if_neg c,if_neg c];cases cY es n with
  |none=>rfl
  |some p=>rfl
theorem OG {x n:Int}:∀ {es:List (List L)},P1 es->P1 (iB es n (.v (.int .i64 x)))/\∀ m,fb (iB es n (.v (.int .i64 x))) m=if m=n then x else fb es m
 | [],_=>by
   refine⟨fun e he=>?_,fun m=>?_⟩
   ·have:e=[.v (.int .i64 n),.v (.int .i64 x)]:=by simpa[iB,cY]using he
    exact⟨n,x,this⟩
   ·show fb [[.v (.int .i64 n),.v (.int .i64 x)]] m=_;rw[j9];by_cases c:m=n
    ·rw[if_pos c.symm,if_pos c]
    ·rw[if_neg (fun e=>c e.symm),if_neg c]
 | e::es,h=>by
   obtain⟨k,b,rfl⟩:=h e (by simp);have h':P1 es:=fun e he=>h e (by simp[he])
   obtain⟨a1,a2⟩:=OG (x:=x) (n:=n) h';rw[Fj];by_cases c:k=n
   ·rw[if_pos c];refine⟨fun e he=>?_,fun m=>?_⟩
    ·rcases List.mem_cons.1 he with rfl|he
     ·exact⟨n,x,rfl⟩
     ·exact h' e he
    ·rw[j9,j9];by_cases d:m=n
     ·rw[if_pos d.symm,if_pos d]
     ·rw[if_neg (fun e=>d e.symm),if_neg d,if_neg (fun e=>d (by rw[<-e,c]))]
   ·rw[if_neg c];refine⟨fun e he=>?_,fun m=>?_⟩
    ·rcases List.mem_cons.1 he with rfl|he
     ·exact⟨k,b,rfl⟩
     ·exact a1 e he
    ·rw[j9,j9,a2 m];by_cases d:k=m
     ·rw[if_pos d,if_pos d,if_neg (fun e=>c (d.trans e))]
     ·rw[if_neg d,if_neg d]
def huI (es:List (List L))(a:Int):List (List L):=iB es a (.v (.int .i64 (aV .add .i64 (fb es a) 1)))
structure vE (es:List (List L))(l:List Int):Prop where
 wf:P1 es
 c:∀ m,fb es m=(l.count m:Int)
theorem Qg :vE [] []:=⟨(fun e he=>by cases he),fun m=>rfl⟩
theorem AS {es:List (List L)}{l:List Int}{a:Int}(h:vE es l)(hl:l.length<=1099511627776):vE (huI es a) (l++[a]):=by
 have q:=OG (x:=aV .add .i64 (fb es a) 1) (n:=a) h.wf;refine⟨q.1,fun m=>?_⟩;show fb (iB es a _) m=_;have b:l.count a<=l.length:=List.count_le_length;have e:=h.c a;rw[q.2 m,List.count_append,show aV .add .i64 (fb es a) 1=fb es a+1 from aB (by omega)];by_cases c:m=a
 ·subst c;rw[if_pos rfl,e];simp
 ·rw[if_neg c,h.c m];have:[a].count m=0:=List.count_eq_zero.2 (by simpa using c);rw[this];rfl
def gB (l:List (List L))(f:Nat):Nat->List Int
 |0=>[]
 |n+1=>gB l f n++[ab l n f]
def uH (ls:List (List L)):Nat->List Int
 |0=>[]
 |n+1=>uH ls n++gB (ay ls n 0) 0 (ay ls n 0).length
def m9 (cs:List (List L)):Nat->List Int
 |0=>[]
 |n+1=>m9 cs n++uH (ay cs n 0) (ay cs n 0).length
theorem cG {l:List (List L)}{f:Nat}:∀ n,(gB l f n).length=n
 |0=>rfl
 |n+1=>by rw[gB,List.length_append,cG n];rfl
theorem j7 {l:List (List L)}{f:Nat}{i:Int}(h:0<=i):gB l f (i+1).toNat=gB l f i.toNat++[ab l i f]:=by
 rw[show(i+1).toNat=i.toNat+1 from by omega,gB,Int.toNat_of_nonneg h]
theorem DL {l:List (List L)}{i:Int}(h:0<=i):uH l (i+1).toNat=uH l i.toNat++gB (ay l i 0) 0 (ay l i 0).length:=by
 rw[show(i+1).toNat=i.toNat+1 from by omega,uH,Int.toNat_of_nonneg h]
theorem DG {l:List (List L)}{i:Int}(h:0<=i):m9 l (i+1).toNat=m9 l i.toNat++uH (ay l i 0) (ay l i 0).length:=by
 rw[show(i+1).toNat=i.toNat+1 from by omega,m9,Int.toNat_of_nonneg h]
theorem kF {l:List (List L)}{f:Nat}{x:Int}:∀ {n},x∈gB l f n↔∃ k:Nat,k<n/\x=ab l k f
 |0=>⟨(fun h=>by cases h),fun⟨k,h,_⟩=>absurd h (Nat.not_lt_zero _)⟩
 | n+1=>by
   rw[gB,List.mem_append,kF,List.mem_singleton]
   constructor
   ·rintro(⟨k,h,e⟩|e)
    ·exact⟨k,by omega,e⟩
    ·exact⟨n,by omega,e⟩
   ·rintro⟨k,h,e⟩;by_cases c:k=n
    ·subst c;exact .inr e
    ·exact .inl ⟨k,by omega,e⟩
theorem wv {ls:List (List L)}{x:Int}:∀ {n},x∈uH ls n↔∃ k:Nat,k<n/\x∈gB (ay ls k 0) 0 (ay ls k 0).length
 |0=>⟨(fun h=>by cases h),fun⟨k,h,_⟩=>absurd h (Nat.not_lt_zero _)⟩
 | n+1=>by
   rw[uH,List.mem_append,wv]
   constructor
   ·rintro(⟨k,h,e⟩|e)
    ·exact⟨k,by omega,e⟩
    ·exact⟨n,by omega,e⟩
   ·rintro⟨k,h,e⟩;by_cases c:k=n
    ·subst c;exact .inr e
    ·exact .inl ⟨k,by omega,e⟩
theorem wu {cs:List (List L)}{x:Int}:∀ {n},x∈m9 cs n↔∃ k:Nat,k<n/\x∈uH (ay cs k 0) (ay cs k 0).length
 |0=>⟨(fun h=>by cases h),fun⟨k,h,_⟩=>absurd h (Nat.not_lt_zero _)⟩
 | n+1=>by
   rw[m9,List.mem_append,wu]
   constructor
   ·rintro(⟨k,h,e⟩|e)
    ·exact⟨k,by omega,e⟩
    ·exact⟨n,by omega,e⟩
   ·rintro⟨k,h,e⟩;by_cases c:k=n
    ·subst c;exact .inr e
    ·exact .inl ⟨k,by omega,e⟩
theorem vY {ls:List (List L)}:∀ n,n<=ls.length->(uH ls n).length<=aH (ls.take n)
 |0,_=>Nat.zero_le _
 | n+1,h=>by
   have q:=vY n (by omega:n<=ls.length);have c:=sJ (es:=ls) (n:=n) (j:=0) (by omega);unfold aj at c;rw[uH,List.length_append,cG,iH (by omega)];omega
theorem gO {cs:List (List L)}:∀ n,n<=cs.length->(m9 cs n).length<=aH (cs.take n)
 |0,_=>Nat.zero_le _
 | n+1,h=>by
   have q:=gO n (by omega:n<=cs.length);have c:=sJ (es:=cs) (n:=n) (j:=0) (by omega);have d:=vY (ls:=ay cs n 0) (ay cs n 0).length (Nat.le_refl _);rw[List.take_length]at d;unfold aj at c;rw[m9,List.length_append,iH (by omega)];omega
theorem Hi {cs:List (List L)}{i k:Int}(i0:0<=i)(i1:i<cs.length)(k1:k<=(ay cs i 0).length):(m9 cs i.toNat++uH (ay cs i 0) k.toNat).length+aH ((ay cs i 0).drop k.toNat)<=aH cs:=by
 have q:=gO (cs:=cs) i.toNat (by omega);have c:=xM (es:=cs) (n:=i.toNat+1);have d:=iH (es:=cs) (n:=i.toNat) (by omega);have e:=sJ (es:=cs) (n:=i.toNat) (j:=0) (by omega);rw[Int.toNat_of_nonneg i0]at e;have f:=vY (ls:=ay cs i 0) k.toNat (by omega);have g:aH (ay cs i 0)=aH ((ay cs i 0).take k.toNat)+aH ((ay cs i 0).drop k.toNat):=by rw[<-dV,List.take_append_drop]
 rw[List.length_append];unfold aj at e;omega
theorem AO {cs:List (List L)}{i k j:Int}(i0:0<=i)(i1:i<cs.length)(k0:0<=k)(k1:k<(ay cs i 0).length)(j0:0<=j)(j1:j<=(ay (ay cs i 0) k 0).length):(m9 cs i.toNat++uH (ay cs i 0) k.toNat++gB (ay (ay cs i 0) k 0) 0 j.toNat).length<=aH cs:=by
 have q:=Hi i0 i1 (by omega:k<=(ay cs i 0).length);have e:=sJ (es:=ay cs i 0) (n:=k.toNat) (j:=0) (by omega);rw[Int.toNat_of_nonneg k0]at e;have d:bR ((ay cs i 0).getD k.toNat [])<=aH ((ay cs i 0).drop k.toNat):=by
  rw[List.drop_eq_getElem_cons (by omega)];rw[List.getD_eq_getElem?_getD,List.getElem?_eq_getElem (by omega)];simp[aH]
 rw[List.length_append,cG];unfold aj at e;omega
def hlB (sp lg:List (List L))(a k:Int):Bool:=decide (dnK sp lg a=1)&&(decide (dnO sp lg a=0)&&(decide (k<0)||decide (ab sp (dnI sp lg a) 1=k)))
def jA (sp lg l:List (List L))(k j:Int):Bool:=hlB sp lg (ab l j 0) k
def kA (sp lg ls:List (List L))(k:Int):Bool:=bM (jA sp lg (ay ls k 0) k) (ay ls k 0).length
def iA (sp lg cs:List (List L))(i:Int):Bool:=bM (kA sp lg (ay cs i 0)) (ay cs i 0).length
def qA (sp lg qs:List (List L))(i:Int):Bool:=hlB sp lg (ab qs i 0) (ab qs i 1)
def sA (qs:List (List L))(c i:Int):Bool:=decide (ab qs i 2<=c)
def BS (sp lg qs:List (List L))(c i:Int):Bool:=qA sp lg qs i&&sA qs c i
def Hy (os cs qs fl:List (List L)):List Int:=m9 cs cs.length++gB qs 0 qs.length++gB fl 0 fl.length++gB os 1 os.length
def zw (os cs qs fl:List (List L)):List Int:=gB os 1 os.length++m9 cs cs.length++gB qs 0 qs.length++gB fl 0 fl.length
def IP (l:List Int)(lv:List (List L))(i:Int):Bool:=decide (l.count (ab lv i 0)=1)
def hoI (sp lg os cs b x qs:List (List L))(c:Int):Bool:=bM (iA sp lg cs) cs.length&&(bM (BS sp lg qs c) qs.length&&(bM (jA sp lg (ifL b x) (-1)) (ifL b x).length&&bM (IP (Hy os cs qs (ifL b x)) (laL sp lg)) (laL sp lg).length))
def hoS (sp lg os cs b x qs:List (List L)):Bool:=bM (iA sp lg cs) cs.length&&(bM (qA sp lg qs) qs.length&&(bM (jA sp lg (ifL b x) (-1)) (ifL b x).length&&(decide ((zw os cs qs (ifL b x)).Nodup)&&decide ((zw os cs qs (ifL b x)).length=(laL sp lg).length))))
section
variable {sp lg os cs b x qs fl es : List (List L)} {i k j c : Int}
theorem NQ (k0:0<=k)(k1:k<(ay cs i 0).length)(j0:0<=j)(j1:j<(ay (ay cs i 0) k 0).length)(h:hlB sp lg (ab (ay (ay cs i 0) k 0) j 0) k=false):iA sp lg cs i=false:=
 be k0 k1 (be (p:=jA sp lg (ay (ay cs i 0) k 0) k) j0 j1 h)
theorem K8 (i0:0<=i)(i1:i<cs.length)(h:iA sp lg cs i=false):hoI sp lg os cs b x qs c=false:=by unfold hoI;rw[be i0 i1 h];rfl
theorem En (i0:0<=i)(i1:i<qs.length)(h:BS sp lg qs c i=false):hoI sp lg os cs b x qs c=false:=by unfold hoI;rw[be i0 i1 h];simp
theorem K9 (i0:0<=i)(i1:i<(ifL b x).length)(h:hlB sp lg (ab (ifL b x) i 0) (-1)=false):hoI sp lg os cs b x qs c=false:=by unfold hoI;rw[be (p:=jA sp lg (ifL b x) (-1)) i0 i1 h];simp
theorem La (i0:0<=i)(i1:i<(laL sp lg).length)(h:IP (Hy os cs qs (ifL b x)) (laL sp lg) i=false):hoI sp lg os cs b x qs c=false:=by unfold hoI;rw[be i0 i1 h];simp
theorem Lb (i0:0<=i)(i1:i<cs.length)(h:iA sp lg cs i=false):hoS sp lg os cs b x qs=false:=by unfold hoS;rw[be i0 i1 h];rfl
theorem Lc (i0:0<=i)(i1:i<qs.length)(h:qA sp lg qs i=false):hoS sp lg os cs b x qs=false:=by unfold hoS;rw[be i0 i1 h];simp
theorem Ld (i0:0<=i)(i1:i<(ifL b x).length)(h:hlB sp lg (ab (ifL b x) i 0) (-1)=false):hoS sp lg os cs b x qs=false:=by unfold hoS;rw[be (p:=jA sp lg (ifL b x) (-1)) i0 i1 h];simp
theorem Pp (h:hlB sp lg (ab qs i 0) (ab qs i 1)=false):BS sp lg qs c i=false:=by unfold BS qA;rw[h];rfl
theorem Pq (h:c<ab qs i 2):BS sp lg qs c i=false:=by unfold BS sA;rw[decide_eq_false (by omega),Bool.and_false]
theorem Q2 (h:hlB sp lg (ab qs i 0) (ab qs i 1)=true)(g:ab qs i 2<=c):BS sp lg qs c i=true:=by unfold BS qA sA;rw[h,decide_eq_true g];rfl
structure MB (sp lg cs:List (List L))(i:Int)(es:List (List L)):Prop where
 ok:upto (iA sp lg cs) i
 c:vE es (m9 cs i.toNat)
structure MD (sp lg cs:List (List L))(i k:Int)(es:List (List L)):Prop where
 ok:upto (iA sp lg cs) i
 ok2:upto (kA sp lg (ay cs i 0)) k
 c:vE es (m9 cs i.toNat++uH (ay cs i 0) k.toNat)
structure MC (sp lg cs:List (List L))(i k j:Int)(es:List (List L)):Prop where
 ok:upto (iA sp lg cs) i
 ok2:upto (kA sp lg (ay cs i 0)) k
 ok3:upto (jA sp lg (ay (ay cs i 0) k 0) k) j
 c:vE es (m9 cs i.toNat++uH (ay cs i 0) k.toNat++gB (ay (ay cs i 0) k 0) 0 j.toNat)
structure ME (sp lg cs qs:List (List L))(t j:Int)(es:List (List L)):Prop where
 ok:bM (iA sp lg cs) cs.length=true
 ok2:upto (BS sp lg qs t) j
 c:vE es (m9 cs cs.length++gB qs 0 j.toNat)
structure MA (sp lg cs qs fl:List (List L))(t j:Int)(es:List (List L)):Prop where
 ok:bM (iA sp lg cs) cs.length=true
 ok2:bM (BS sp lg qs t) qs.length=true
 ok3:upto (jA sp lg fl (-1)) j
 c:vE es (m9 cs cs.length++gB qs 0 qs.length++gB fl 0 j.toNat)
structure KA (sp lg os cs qs fl:List (List L))(t j:Int)(es:List (List L)):Prop where
 ok:bM (iA sp lg cs) cs.length=true
 ok2:bM (BS sp lg qs t) qs.length=true
 ok3:bM (jA sp lg fl (-1)) fl.length=true
 c:vE es (m9 cs cs.length++gB qs 0 qs.length++gB fl 0 fl.length++gB os 1 j.toNat)
theorem Qm :MB sp lg cs 0 []:=⟨aL,Qg⟩
theorem Qo (h:MB sp lg cs i es):MD sp lg cs i 0 es:=⟨h.ok,aL,by simpa[uH]using h.c⟩
theorem Qn (h:MD sp lg cs i k es):MC sp lg cs i k 0 es:=⟨h.ok,h.ok2,aL,by simpa[gB]using h.c⟩
theorem Nv (h:MC sp lg cs i k j es)(i0:0<=i)(i1:i<cs.length)(k0:0<=k)(k1:k<(ay cs i 0).length)(j0:0<=j)(j1:j<(ay (ay cs i 0) k 0).length)(hc:aj cs<=1073741824)(hh:hlB sp lg (ab (ay (ay cs i 0) k 0) j 0) k=true):
 MC sp lg cs i k (j+1) (huI es (ab (ay (ay cs i 0) k 0) j 0)):=by
 have l:=AO (cs:=cs) i0 i1 k0 k1 j0 (by omega);unfold aj at hc;exact⟨h.ok,h.ok2,ax h.ok3 hh,by rw[j7 j0, <-List.append_assoc];exact AS h.c (by omega)⟩
theorem Nw (h:MC sp lg cs i k j es)(k0:0<=k)(j1:j<=((ay (ay cs i 0) k 0).length:Int))(j2:((ay (ay cs i 0) k 0).length:Int)<=j):MD sp lg cs i (k+1) es:=by
 refine⟨h.ok,ax h.ok2 (aT h.ok3 j2),?_⟩;have c:=h.c;rw[show j.toNat=(ay (ay cs i 0) k 0).length from by omega,List.append_assoc, <-DL k0]at c;exact c
theorem Nu (h:MD sp lg cs i k es)(i0:0<=i)(k1:k<=((ay cs i 0).length:Int))(k2:((ay cs i 0).length:Int)<=k):MB sp lg cs (i+1) es:=by
 refine⟨ax h.ok (aT h.ok2 k2),?_⟩;have c:=h.c;rw[show k.toNat=(ay cs i 0).length from by omega, <-DG i0]at c;exact c
theorem Qv (h:MB sp lg cs i es)(i1:i<=cs.length)(i2:(cs.length:Int)<=i):ME sp lg cs qs c 0 es:=
 ⟨aT h.ok i2,aL,by have c:=h.c;rw[show i.toNat=cs.length from by omega]at c;simpa[gB]using c⟩
theorem NO (h:ME sp lg cs qs c j es)(j0:0<=j)(j1:j<qs.length)(hc:aj cs<=1073741824)(hq:qs.length<=1073741824)(hh:BS sp lg qs c j=true):ME sp lg cs qs c (j+1) (huI es (ab qs j 0)):=by
 have l:=gO (cs:=cs) cs.length (Nat.le_refl _);rw[List.take_length]at l;unfold aj at hc;refine⟨h.ok,ax h.ok2 hh,?_⟩;rw[j7 j0, <-List.append_assoc];refine AS h.c ?_;rw[List.length_append,cG];omega
theorem Ql (h:ME sp lg cs qs c i es)(i1:i<=qs.length)(i2:(qs.length:Int)<=i):MA sp lg cs qs fl c 0 es:=
 ⟨h.ok,aT h.ok2 i2,aL,by have c:=h.c;rw[show i.toNat=qs.length from by omega]at c;simpa[gB]using c⟩
theorem Nt (h:MA sp lg cs qs fl c j es)(j0:0<=j)(j1:j<fl.length)(hc:aj cs<=1073741824)(hq:qs.length<=1073741824)(hf:fl.length<=30)(hh:hlB sp lg (ab fl j 0) (-1)=true):MA sp lg cs qs fl c (j+1) (huI es (ab fl j 0)):=by
 have l:=gO (cs:=cs) cs.length (Nat.le_refl _);rw[List.take_length]at l;unfold aj at hc;refine⟨h.ok,h.ok2,ax h.ok3 hh,?_⟩;rw[j7 j0, <-List.append_assoc];refine AS h.c ?_;rw[List.length_append,List.length_append,cG,cG];omega
theorem Qr (h:MA sp lg cs qs fl c i es)(i1:i<=fl.length)(i2:(fl.length:Int)<=i):KA sp lg os cs qs fl c 0 es:=
 ⟨h.ok,h.ok2,aT h.ok3 i2,by have c:=h.c;rw[show i.toNat=fl.length from by omega]at c;simpa[gB]using c⟩
theorem Nz (h:KA sp lg os cs qs fl c j es)(j0:0<=j)(j1:j<os.length)(hc:aj cs<=1073741824)(hq:qs.length<=1073741824)(ho:os.length<=1073741824)(hf:fl.length<=30):KA sp lg os cs qs fl c (j+1) (huI es (ab os j 1)):=by
 have l:=gO (cs:=cs) cs.length (Nat.le_refl _);rw[List.take_length]at l;unfold aj at hc;refine⟨h.ok,h.ok2,h.ok3,?_⟩;rw[j7 j0, <-List.append_assoc];refine AS h.c ?_;rw[List.length_append,List.length_append,List.length_append,cG,cG,cG];omega
structure IB (sp lg os cs qs fl:List (List L))(t i:Int)(es:List (List L)):Prop where
 p:KA sp lg os cs qs fl t os.length es
 ok:upto (IP (Hy os cs qs fl) (laL sp lg)) i
theorem Qp (h:KA sp lg os cs qs fl c i es)(i1:i<=os.length)(i2:(os.length:Int)<=i):IB sp lg os cs qs fl c 0 es:=⟨by rw[show(os.length:Int)=i from by omega];exact h,aL⟩
theorem Nx (h:IB sp lg os cs qs fl c i es)(m:Int):fb es m=((Hy os cs qs fl).count m:Int):=by
 have q:=h.p.c.c m;rw[Int.toNat_natCast]at q;exact q
theorem Ny (h:IB sp lg os cs qs fl c i es)(e:fb es (ab (laL sp lg) i 0)=1):IB sp lg os cs qs fl c (i+1) es:=
 ⟨h.p,ax h.ok (by unfold IP;rw[Nx h]at e;exact decide_eq_true (by omega))⟩
theorem Qq (h:IB sp lg os cs qs (ifL b x) c i es)(i0:0<=i)(i1:i<(laL sp lg).length)(e:fb es (ab (laL sp lg) i 0)≠1):hoI sp lg os cs b x qs c=false:=
 La i0 i1 (by unfold IP;rw[Nx h]at e;exact decide_eq_false (by omega))
theorem K7 (h:IB sp lg os cs qs (ifL b x) c i es)(i2:((laL sp lg).length:Int)<=i):hoI sp lg os cs b x qs c=true:=by
 unfold hoI;rw[h.p.ok,h.p.ok2,h.p.ok3,aT h.ok i2];rfl
end
end Go.V
namespace Go.V
structure KI (os:List (List L))(i:Int)(o:List (List L)):Prop where
 e:o=fB (gB os 1 i.toNat)
structure MN (sp lg os cs:List (List L))(i:Int)(o:List (List L)):Prop where
 ok:upto (iA sp lg cs) i
 e:o=fB (gB os 1 os.length++m9 cs i.toNat)
structure MO (sp lg os cs:List (List L))(i k:Int)(o:List (List L)):Prop where
 ok:upto (iA sp lg cs) i
 ok2:upto (kA sp lg (ay cs i 0)) k
 e:o=fB (gB os 1 os.length++(m9 cs i.toNat++uH (ay cs i 0) k.toNat))
structure KJ (sp lg os cs:List (List L))(i k j:Int)(o:List (List L)):Prop where
 ok:upto (iA sp lg cs) i
 ok2:upto (kA sp lg (ay cs i 0)) k
 ok3:upto (jA sp lg (ay (ay cs i 0) k 0) k) j
 e:o=fB (gB os 1 os.length++(m9 cs i.toNat++uH (ay cs i 0) k.toNat++gB (ay (ay cs i 0) k 0) 0 j.toNat))
structure KL (sp lg os cs qs:List (List L))(j:Int)(o:List (List L)):Prop where
 ok:bM (iA sp lg cs) cs.length=true
 ok2:upto (qA sp lg qs) j
 e:o=fB (gB os 1 os.length++m9 cs cs.length++gB qs 0 j.toNat)
structure KM (sp lg os cs qs fl:List (List L))(j:Int)(o:List (List L)):Prop where
 ok:bM (iA sp lg cs) cs.length=true
 ok2:bM (qA sp lg qs) qs.length=true
 ok3:upto (jA sp lg fl (-1)) j
 e:o=fB (gB os 1 os.length++m9 cs cs.length++gB qs 0 qs.length++gB fl 0 j.toNat)
structure G0 (sp lg os cs qs fl:List (List L))(j:Int)(o:List (List L)):Prop where
 ok:bM (iA sp lg cs) cs.length=true
 ok2:bM (qA sp lg qs) qs.length=true
 ok3:bM (jA sp lg fl (-1)) fl.length=true
 e:o=fB (zw os cs qs fl)
 nd:((zw os cs qs fl).take j.toNat).Nodup
section
variable {sp lg os cs b x qs fl o : List (List L)} {i k j : Int}
theorem Q4 :KI os 0 []:=⟨rfl⟩
theorem Q5 (h:KI os i o):o.length=i.toNat:=by rw[h.e,bO,cG]
theorem PC (h:KI os i o)(i0:0<=i):KI os (i+1) (o++[[.v (.int .i64 (ab os i 1))]]):=⟨by rw[j7 i0,eg, <-h.e];rfl⟩
theorem Q6 (h:KI os i o)(i1:i<=os.length)(i2:(os.length:Int)<=i):MN sp lg os cs 0 o:=⟨aL,by rw[h.e,show i.toNat=os.length from by omega];simp[m9]⟩
theorem Q7 (h:MN sp lg os cs i o):MO sp lg os cs i 0 o:=⟨h.ok,aL,by rw[h.e];simp[uH]⟩
theorem Q8 (h:MO sp lg os cs i k o):KJ sp lg os cs i k 0 o:=⟨h.ok,h.ok2,aL,by rw[h.e];simp[gB]⟩
theorem Q9 (h:KJ sp lg os cs i k j o)(i0:0<=i)(i1:i<cs.length)(k0:0<=k)(k1:k<(ay cs i 0).length)(j0:0<=j)(j1:j<=(ay (ay cs i 0) k 0).length)(hc:aj cs<=1073741824)(ho:os.length<=1073741824):o.length<=2147483648:=by
 have l:=AO (cs:=cs) i0 i1 k0 k1 j0 j1;unfold aj at hc;rw[h.e,bO,List.length_append,cG];omega
theorem PF (h:KJ sp lg os cs i k j o)(j0:0<=j)(hh:hlB sp lg (ab (ay (ay cs i 0) k 0) j 0) k=true):KJ sp lg os cs i k (j+1) (o++[[.v (.int .i64 (ab (ay (ay cs i 0) k 0) j 0))]]):=
 ⟨h.ok,h.ok2,ax h.ok3 hh,by rw[j7 j0, <-List.append_assoc (m9 cs i.toNat++uH (ay cs i 0) k.toNat), <-List.append_assoc (gB os 1 os.length),eg, <-h.e];rfl⟩
theorem PE (h:KJ sp lg os cs i k j o)(k0:0<=k)(j1:j<=((ay (ay cs i 0) k 0).length:Int))(j2:((ay (ay cs i 0) k 0).length:Int)<=j):MO sp lg os cs i (k+1) o:=by
 refine⟨h.ok,ax h.ok2 (aT h.ok3 j2),?_⟩;rw[h.e,show j.toNat=(ay (ay cs i 0) k 0).length from by omega,List.append_assoc (m9 cs i.toNat), <-DL k0]
theorem PD (h:MO sp lg os cs i k o)(i0:0<=i)(k1:k<=((ay cs i 0).length:Int))(k2:((ay cs i 0).length:Int)<=k):MN sp lg os cs (i+1) o:=by
 refine⟨ax h.ok (aT h.ok2 k2),?_⟩;rw[h.e,show k.toNat=(ay cs i 0).length from by omega, <-DG i0]
theorem Ra (h:MN sp lg os cs i o)(i1:i<=cs.length)(i2:(cs.length:Int)<=i):KL sp lg os cs qs 0 o:=⟨aT h.ok i2,aL,by rw[h.e,show i.toNat=cs.length from by omega];simp[gB]⟩
theorem Rb (h:KL sp lg os cs qs j o)(j1:j<=qs.length)(hc:aj cs<=1073741824)(ho:os.length<=1073741824)(hq:qs.length<=1073741824):o.length<=4294967296:=by
 have l:=gO (cs:=cs) cs.length (Nat.le_refl _);rw[List.take_length]at l;unfold aj at hc;rw[h.e,bO,List.length_append,List.length_append,cG,cG];omega
theorem PG (h:KL sp lg os cs qs j o)(j0:0<=j)(hh:hlB sp lg (ab qs j 0) (ab qs j 1)=true):KL sp lg os cs qs (j+1) (o++[[.v (.int .i64 (ab qs j 0))]]):=
 ⟨h.ok,ax h.ok2 hh,by rw[j7 j0, <-List.append_assoc,eg, <-h.e];rfl⟩
theorem Rc (h:KL sp lg os cs qs i o)(i1:i<=qs.length)(i2:(qs.length:Int)<=i):KM sp lg os cs qs fl 0 o:=⟨h.ok,aT h.ok2 i2,aL,by rw[h.e,show i.toNat=qs.length from by omega];simp[gB]⟩
theorem Re (h:KM sp lg os cs qs fl j o)(j1:j<=fl.length)(hc:aj cs<=1073741824)(ho:os.length<=1073741824)(hq:qs.length<=1073741824)(hf:fl.length<=30):o.length<=4294967400:=by
 have l:=gO (cs:=cs) cs.length (Nat.le_refl _);rw[List.take_length]at l;unfold aj at hc;rw[h.e,bO,List.length_append,List.length_append,List.length_append,cG,cG,cG];omega
theorem PH (h:KM sp lg os cs qs fl j o)(j0:0<=j)(hh:hlB sp lg (ab fl j 0) (-1)=true):KM sp lg os cs qs fl (j+1) (o++[[.v (.int .i64 (ab fl j 0))]]):=
 ⟨h.ok,h.ok2,ax h.ok3 hh,by rw[j7 j0, <-List.append_assoc,eg, <-h.e];rfl⟩
theorem Rf (h:KM sp lg os cs qs fl i o)(i1:i<=fl.length)(i2:(fl.length:Int)<=i):G0 sp lg os cs qs fl 0 o:=
 ⟨h.ok,h.ok2,aT h.ok3 i2,by rw[h.e,show i.toNat=fl.length from by omega];rfl,List.nodup_nil⟩
theorem PI (h:G0 sp lg os cs qs fl j o)(hc:aj cs<=1073741824)(ho:os.length<=1073741824)(hq:qs.length<=1073741824)(hf:fl.length<=30):o.length<=4294967400:=by
 have l:=gO (cs:=cs) cs.length (Nat.le_refl _);rw[List.take_length]at l;unfold aj at hc;rw[h.e,bO];unfold zw;rw[List.length_append,List.length_append,List.length_append,cG,cG,cG];omega
theorem yp {l:List Int}{n:Nat}:(fB l).take n=fB (l.take n):=by unfold fB;rw[List.map_take]
theorem wK {l:List Int}{i:Int}(h0:0<=i)(h:i<(fB l).length):∃ x,l[i.toNat]?=some x/\ab (fB l) i 0=x:=by
 rw[bO]at h;have q:=oy (l:=l) (k:=i.toNat) (by omega);rw[Int.toNat_of_nonneg h0]at q;exact⟨_,List.getElem?_eq_getElem (by omega),q⟩
theorem PM (h:G0 sp lg os cs qs fl j o)(j0:0<=j)(j1:j<o.length)(hh:hasB (o.take j.toNat) (ab o j 0)=false):G0 sp lg os cs qs fl (j+1) o:=by
 refine⟨h.ok,h.ok2,h.ok3,h.e,?_⟩;have e:=h.e;rw[e]at j1 hh;obtain⟨v,q1,q2⟩:=wK j0 j1;rw[yp,q2]at hh;have nm:=qR hh;rw[show(j+1).toNat=j.toNat+1 from by omega,List.take_succ,q1];exact gS h.nd nm
theorem Rh (h:G0 sp lg os cs qs (ifL b x) j o)(j0:0<=j)(j1:j<o.length)(hh:hasB (o.take j.toNat) (ab o j 0)=true):hoS sp lg os cs b x qs=false:=by
 have e:=h.e;rw[e]at j1 hh;obtain⟨v,q1,q2⟩:=wK j0 j1;rw[yp,q2,kC]at hh;have:¬ (zw os cs qs (ifL b x)).Nodup:=fun nd=>by
  have lt:j.toNat<(zw os cs qs (ifL b x)).length:=by rw[bO]at j1;omega
  have sp:=List.take_append_drop j.toNat (zw os cs qs (ifL b x));rw[List.drop_eq_getElem_cons lt]at sp;have gv:(zw os cs qs (ifL b x))[j.toNat]=v:=by rw[List.getElem?_eq_getElem lt]at q1;exact Option.some.inj q1
  rw[gv]at sp;exact dup sp.symm hh nd
 unfold hoS;rw[decide_eq_false this];simp
theorem Ml (h:G0 sp lg os cs qs (ifL b x) j o)(j2:(o.length:Int)<=j):decide ((o.length:Int)=(laL sp lg).length)=hoS sp lg os cs b x qs:=by
 have e:=h.e;have nd:=h.nd;have l:(zw os cs qs (ifL b x)).length=o.length:=by rw[e,bO]
 rw[List.take_of_length_le (by omega)]at nd;unfold hoS;rw[h.ok,h.ok2,h.ok3,decide_eq_true nd,l];simp only[Bool.true_and];exact dJ (by rw[decide_eq_true_eq,decide_eq_true_eq];omega)
def MQ (l:List Int):Prop:=∀ v∈l,-9223372036854775808<=v/\v<=9223372036854775807
theorem wl {l m:List Int}(h:MQ l)(g:MQ m):MQ (l++m):=fun v hv=>by
 rcases List.mem_append.1 hv with q|q
 ·exact h v q
 ·exact g v q
theorem wm {fs:List Ty}{l:List (List L)}{f:Nat}(h:Rw fs l)(hf:fs[f]?=some tI):MQ (gB l f l.length):=fun v hv=>by
 obtain⟨n,n1,rfl⟩:=kF.1 hv;exact sH h hf (by omega)
theorem Lt {ls:List (List L)}(h:Rw [.sl [tI]] ls):MQ (uH ls ls.length):=fun v hv=>by
 obtain⟨n,n1,q⟩:=wv.1 hv;exact wm (fs:=[tI]) (Rw.sub (fs:=[.sl [tI]]) h (by omega) rfl) rfl v q
theorem Ls {cs:List (List L)}(h:Rw [.sl [.sl [tI]]] cs):MQ (m9 cs cs.length):=fun v hv=>by
 obtain⟨n,n1,q⟩:=wu.1 hv;exact Lt (Rw.sub (fs:=[.sl [.sl [tI]]]) h (by omega) rfl) v q
theorem PL (N:vG sp lg os cs b x qs)(h:G0 sp lg os cs qs (ifL b x) j o)(n:Nat):Rw [tI] (o.take n):=by
 have l:=PI h N.cl N.ol N.ql sO;refine Rw.take ?_ n;rw[h.e]at l ⊢;rw[bO]at l;refine oz ?_ (by omega);unfold zw;exact wl (wl (wl (wm N.ow rfl) (Ls N.cw)) (wm N.qw rfl)) (wm (xX N.m) rfl)
theorem Em {a k:Int}(hl:layOk sp lg=true)(h:hlB sp lg a k=true):qC sp lg a=true:=by
 unfold hlB at h;simp only[Bool.and_eq_true,decide_eq_true_eq]at h;exact(Bj hl).2 ⟨h.2.1,.inl h.1⟩
theorem OU {a s:Int}(hl:layOk sp lg=true)(h:okO sp lg a s=true):qC sp lg a=true:=by
 unfold okO at h;simp only[Bool.and_eq_true,Bool.or_eq_true,decide_eq_true_eq]at h;exact(Bj hl).2 ⟨h.1,h.2.elim (fun q=>.inl q.1) (fun q=>.inr q.1)⟩
def LJ (sp lg:List (List L)):List Int:=JF sp lg 512
theorem N2 (hl:layOk sp lg=true):laL sp lg=fB (LJ sp lg):=by unfold laL LJ;rw[if_pos hl,sS]
theorem HP (hl:layOk sp lg=true){a:Int}:a∈LJ sp lg↔qC sp lg a=true:=by
 unfold LJ;rw[mG]
 constructor
 ·exact fun h=>h.2.2
 ·intro h;have F:=Bl hl;have v:=JG F hl h;have r:a∈Lh sp lg:=Br.2 v;refine⟨?_,?_,h⟩
  ·rcases v with⟨i,k,i1,k1,_,e⟩|⟨j,j1,e⟩
   ·have ae:=jI (s:=(k:Int)) (F.s i i1) (by omega) (by omega);have t:=fe (F.s i i1);omega
   ·have t:=fH (F.l j j1);omega
  ·rcases v with⟨i,k,i1,k1,_,e⟩|⟨j,j1,e⟩
   ·have ae:=jI (s:=(k:Int)) (F.s i i1) (by omega) (by omega);have t:=fe (F.s i i1);omega
   ·have t:=fH (F.l j j1);have b:=gK t.1;omega
theorem LV :(LJ sp lg).Nodup:=(zZ 512).imp (fun h=>by omega)
theorem BI :(Hy os cs qs fl).Perm (zw os cs qs fl):=by
 unfold Hy zw;have q:=List.perm_append_comm (l₁:=m9 cs cs.length++gB qs 0 qs.length++gB fl 0 fl.length) (l₂:=gB os 1 os.length);refine q.trans ?_;rw[List.append_assoc,List.append_assoc,List.append_assoc]
theorem Fs {l m:List Int}(hm:m.Nodup)(hs:∀ v∈l,v∈m):(∀ v∈m,l.count v=1)↔l.Nodup/\l.length=m.length:=by
 constructor
 ·intro h;have nd:l.Nodup:=List.nodup_iff_count.2 (fun v=>by
   by_cases c:v∈l
   ·rw[h v (hs v c)];exact Nat.le_refl _
   ·rw[List.count_eq_zero.2 c];omega)
  refine⟨nd,?_⟩;have p:l.Perm m:=by
   rw[List.perm_ext_iff_of_nodup nd hm];intro v;refine⟨hs v,fun hv=>?_⟩;have:=h v hv;exact List.count_pos_iff.1 (by omega)
  exact p.length_eq
 ·rintro⟨nd,len⟩ v hv;have hv':v∈l:=by
   by_cases c:v∈l
   ·exact c
   ·exfalso;have q:=List.Nodup.length_le_of_subset (l₁:=v::l) (l₂:=m) (List.nodup_cons.2 ⟨c,nd⟩) (fun y hy=>by
     rcases List.mem_cons.1 hy with rfl|hy
     ·exact hv
     ·exact hs y hy)
    rw[List.length_cons]at q;omega
  have p1:=List.nodup_iff_count.1 nd v;have p2:=List.count_pos_iff.2 hv';omega
theorem cg {p:Int->Bool}{n:Nat}(h:bM p n=true):∀ k:Nat,k<n->p k=true:=fun k hk=>cE.1 h k (by omega) (by omega)
theorem H5 {c:Int}:bM (BS sp lg qs c) qs.length=(bM (qA sp lg qs) qs.length&&bM (sA qs c) qs.length):=by
 refine dJ ?_;rw[Bool.and_eq_true,cE,cE,cE];unfold upto BS
 constructor
 ·intro h;refine⟨fun j h0 h1=>?_,fun j h0 h1=>?_⟩
  ·have:=h j h0 h1;rw[Bool.and_eq_true]at this;exact this.1
  ·have:=h j h0 h1;rw[Bool.and_eq_true]at this;exact this.2
 ·rintro⟨h,g⟩ j h0 h1;rw[h j h0 h1,g j h0 h1];rfl
theorem Eo {nx c:Int}(hl:layOk sp lg=true)(ho:objOk sp lg os cs nx=true):hoI sp lg os cs b x qs c=(hoS sp lg os cs b x qs&&bM (sA qs c) qs.length):=by
 unfold hoI hoS;rw[H5];by_cases h1:bM (iA sp lg cs) cs.length=true
 case neg=>rw[Bool.not_eq_true]at h1;rw[h1];rfl
 by_cases h2:bM (qA sp lg qs) qs.length=true
 case neg=>rw[Bool.not_eq_true]at h2;rw[h2];simp
 by_cases h3:bM (jA sp lg (ifL b x) (-1)) (ifL b x).length=true
 case neg=>rw[Bool.not_eq_true]at h3;rw[h3];simp
 have sub:∀ v∈Hy os cs qs (ifL b x),v∈LJ sp lg:=by
  intro v hv;rw[HP hl];unfold Hy at hv;rw[List.mem_append,List.mem_append,List.mem_append]at hv;rcases hv with((hv|hv)|hv)|hv
  ·obtain⟨i,i1,hv⟩:=wu.1 hv;obtain⟨k,k1,hv⟩:=wv.1 hv;obtain⟨j,j1,rfl⟩:=kF.1 hv;have q1:=cg h1 i i1;have q2:=cg q1 k k1;have q3:=cg q2 j j1;exact Em hl q3
  ·obtain⟨j,j1,rfl⟩:=kF.1 hv;exact Em hl (cg h2 j j1)
  ·obtain⟨j,j1,rfl⟩:=kF.1 hv;exact Em hl (cg h3 j j1)
  ·obtain⟨j,j1,rfl⟩:=kF.1 hv;have q:=cg ho j j1;unfold s7 at q;simp only[Bool.and_eq_true]at q;exact OU hl q.2.2.2.2
 have key:=Fs LV sub;have e1:bM (IP (Hy os cs qs (ifL b x)) (laL sp lg)) (laL sp lg).length=(decide (zw os cs qs (ifL b x)).Nodup&&decide ((zw os cs qs (ifL b x)).length=(laL sp lg).length)):=by
  refine dJ ?_;rw[Bool.and_eq_true,decide_eq_true_eq,decide_eq_true_eq, <-BI.nodup_iff, <-BI.length_eq,N2 hl,bO, <-key]
  constructor
  ·intro h v hv;obtain⟨n,n1,rfl⟩:=List.mem_iff_getElem.1 hv;have q:=cg h n n1;unfold IP at q;rw[oy n1,decide_eq_true_eq]at q;exact q
  ·intro h;rw[cE];intro j h0 h1;have n1:j.toNat<(LJ sp lg).length:=by omega
   have q:=oy n1;rw[Int.toNat_of_nonneg h0]at q;unfold IP;rw[q,decide_eq_true_eq];exact h _ (List.getElem_mem n1)
 rw[h1,h2,h3,e1];simp only[Bool.true_and];exact Bool.and_comm _ _
end
end Go.V
namespace Go.V
theorem Ba {n:Int}:∀ {es:List (List L)},MP es->∀ m,m∈iN (iB es n (.v (.bool true)))↔m∈iN es\/m=n
 | [],_,m=>by
   show m∈iN [[.v (.int .i64 n),.v (.bool true)]]↔_;simp[iN,P5]
 | e::es,h,m=>by
   obtain⟨k,b,rfl⟩:=h e (by simp);have h':MP es:=fun e he=>h e (by simp[he])
   have ih:=Ba (n:=n) h' m;rw[Bt];by_cases c:k=n
   ·rw[if_pos c];subst c;show m∈k::iN es↔m∈k::iN es\/m=k;simp only[List.mem_cons]
    constructor
    ·exact fun h=>.inl h
    ·rintro(h|h)
     ·exact h
     ·exact .inl h
   ·rw[if_neg c];show m∈k::iN (iB es n (.v (.bool true)))↔m∈k::iN es\/m=n;simp only[List.mem_cons,ih,or_assoc]
structure rf (es:List (List L))(l:List Int):Prop where
 s:kV es l
 k:∀ m,m∈iN es↔m∈l
theorem OV :rf [] []:=⟨Ae,fun m=>Iff.rfl⟩
theorem Fy {es:List (List L)}{l:List Int}{n:Int}(h:rf es l):rf (iB es n (.v (.bool true))) (l++[n]):=
 ⟨ra h.s,fun m=>by rw[Ba h.s.wf,h.k,List.mem_append,List.mem_singleton]⟩
def q9 (sp:List (List L))(i:Int):Bool:= !(decide (0<i)&&decide (ab sp i 0<=ab sp (i-1) 0))
def Jg (es:List (List L))(p:Int):Bool:=decide ((fpg es p).length=1)
def vh (es lg:List (List L))(i:Int):Bool:=q9 lg i&&bM (fun k=>Jg es (ab lg i 0+k)) (ab lg i 1).toNat
def ownB (sp lg:List (List L))(p:Int):Bool:=decide (p∈qX sp lg)
def mapB (es:List (List L))(p:Int):Bool:=decide (peM es p≠0)
def uI (es fr sp lg:List (List L))(p:Int):Bool:=(mapB es p==ownB sp lg p)&& !(rhB fr p==ownB sp lg p)
def Fp (es sp lg:List (List L)):Bool:=decide (∀ p∈qX sp lg,p<es.length)
def qD (sp:List (List L))(i j:Int):Bool:=mshB (ab sp i 0) (ab sp i 1) (ab sp i 2) (ab sp j 0) (ab sp j 1) (ab sp j 2)
def CJ (es sp:List (List L))(i j:Int):Bool:= !decide (peF es (ab sp i 0)=peF es (ab sp j 0))||qD sp i j
def E3 (es sp:List (List L))(i:Int):Bool:=bM (CJ es sp i) i.toNat
def EX (es sp:List (List L))(i k:Int):Bool:=decide (spI sp (ab (fpg es (ab sp i 0)) k 0)=i)||(decide (0<=spI sp (ab (fpg es (ab sp i 0)) k 0))&&qD sp i (spI sp (ab (fpg es (ab sp i 0)) k 0)))
def msA (es sp:List (List L))(i:Int):Bool:=bM (EX es sp i) (fpg es (ab sp i 0)).length
def pgI (es fr sp lg:List (List L)):Bool:=bM (q9 sp) sp.length&&(bM (vh es lg) lg.length&&(bM (uI es fr sp lg) es.length&&(Fp es sp lg&&bM (E3 es sp) sp.length)))
def pgS (es fr sp lg:List (List L)):Bool:=bM (q9 sp) sp.length&&(bM (vh es lg) lg.length&&(Fp es sp lg&&bM (uI es fr sp lg) es.length))
def smS (es sp:List (List L)):Bool:=bM (msA es sp) sp.length
section
variable {es fr sp lg m : List (List L)} {i j k p : Int} {vs : List Int}
theorem Cd (h:0<i)(g:ab sp i 0<=ab sp (i-1) 0):q9 sp i=false:=by unfold q9;rw[decide_eq_true h,decide_eq_true g];rfl
theorem Ce (h:i<=0):q9 sp i=true:=by unfold q9;rw[decide_eq_false (by omega)];rfl
theorem Cf (h:ab sp (i-1) 0<ab sp i 0):q9 sp i=true:=by unfold q9;rw[decide_eq_false (p:=ab sp i 0<=_) (by omega)];simp
theorem O0 (i0:0<=i)(i1:i<sp.length)(h:q9 sp i=false):pgI es fr sp lg=false:=by unfold pgI;rw[be i0 i1 h];rfl
theorem Kb (i0:0<=i)(i1:i<lg.length)(h:vh es lg i=false):pgI es fr sp lg=false:=by unfold pgI;rw[be i0 i1 h];simp
theorem Kc (i0:0<=i)(i1:i<es.length)(h:uI es fr sp lg i=false):pgI es fr sp lg=false:=by unfold pgI;rw[be i0 i1 h];simp
theorem O1 (h:Fp es sp lg=false):pgI es fr sp lg=false:=by unfold pgI;rw[h];simp
theorem O2 (i0:0<=i)(i1:i<sp.length)(h:E3 es sp i=false):pgI es fr sp lg=false:=by unfold pgI;rw[be i0 i1 h];simp
theorem QR {a b c d:Int}(h1:upto (q9 sp) a)(g1:(sp.length:Int)<=a)(h2:upto (vh es lg) b)(g2:(lg.length:Int)<=b)(h3:upto (uI es fr sp lg) c)(g3:(es.length:Int)<=c)(h4:Fp es sp lg=true)(h5:upto (E3 es sp) d)(g5:(sp.length:Int)<=d):pgI es fr sp lg=true:=by
 unfold pgI;rw[aT h1 g1,aT h2 g2,aT h3 g3,h4,aT h5 g5];rfl
theorem O9 (i0:0<=i)(i1:i<sp.length)(h:q9 sp i=false):pgS es fr sp lg=false:=by unfold pgS;rw[be i0 i1 h];rfl
theorem Kg (i0:0<=i)(i1:i<lg.length)(h:vh es lg i=false):pgS es fr sp lg=false:=by unfold pgS;rw[be i0 i1 h];simp
theorem Kh (i0:0<=i)(i1:i<es.length)(h:uI es fr sp lg i=false):pgS es fr sp lg=false:=by unfold pgS;rw[be i0 i1 h];simp
theorem Pb (h:Fp es sp lg=false):pgS es fr sp lg=false:=by unfold pgS;rw[h];simp
theorem QT {a b c:Int}(h1:upto (q9 sp) a)(g1:(sp.length:Int)<=a)(h2:upto (vh es lg) b)(g2:(lg.length:Int)<=b)(h3:upto (uI es fr sp lg) c)(g3:(es.length:Int)<=c)(h4:Fp es sp lg=true):pgS es fr sp lg=true:=by
 unfold pgS;rw[aT h1 g1,aT h2 g2,aT h3 g3,h4];rfl
theorem Jz (h:q9 lg i=false):vh es lg i=false:=by unfold vh;rw[h];rfl
theorem JA (k0:0<=k)(k1:k<ab lg i 1)(h:(fpg es (ab lg i 0+k)).length≠1):vh es lg i=false:=by
 unfold vh;rw[be (i:=k) (n:=(ab lg i 1).toNat) k0 (by omega) (show Jg es (ab lg i 0+k)=false from decide_eq_false h),Bool.and_false]
theorem N5 (h:q9 lg i=true)(g:upto (fun k=>Jg es (ab lg i 0+k)) k)(k1:ab lg i 1<=k)(n0:0<=ab lg i 1):vh es lg i=true:=by
 unfold vh;rw[h,aT g (by omega)];rfl
theorem Jh (g:upto (fun k=>Jg es (ab lg i 0+k)) k)(h:(fpg es (ab lg i 0+k)).length=1):upto (fun k=>Jg es (ab lg i 0+k)) (k+1):=ax g (decide_eq_true h)
structure MM (es sp lg:List (List L))(j:Int)(m:List (List L)):Prop where
 ok:upto (vh es lg) j
 o:rf m (hL sp sp.length++hK lg j.toNat)
structure ML (es sp lg:List (List L))(j k:Int)(m:List (List L)):Prop where
 ok:upto (vh es lg) j
 h:q9 lg j=true
 g:upto (fun k=>Jg es (ab lg j 0+k)) k
 o:rf m (hL sp sp.length++hK lg j.toNat++kI (ab lg j 0) k.toNat)
theorem QS (h:rf m (hL sp i.toNat))(i1:i<=sp.length)(i2:(sp.length:Int)<=i):MM es sp lg 0 m:=⟨aL,by rw[show i.toNat=sp.length from by omega]at h;simpa[hK]using h⟩
theorem O3 (h:MM es sp lg j m)(g:q9 lg j=true):ML es sp lg j (ab lg j 0-ab lg j 0) m:=by
 rw[Int.sub_self];exact⟨h.ok,g,aL,by simpa[kI]using h.o⟩
theorem O5 (h:ML es sp lg j (p-ab lg j 0) m)(p0:ab lg j 0<=p)(g:(fpg es p).length=1):ML es sp lg j (p+1-ab lg j 0) (iB m p (.v (.bool true))):=by
 have e:ab lg j 0+(p-ab lg j 0)=p:=by omega
 rw[show p+1-ab lg j 0=(p-ab lg j 0)+1 from by omega];refine⟨h.ok,h.h,Jh h.g (by rw[e];exact g),?_⟩;rw[tj (by omega),e, <-List.append_assoc];exact Fy h.o
theorem O4 (p0:ab lg j 0<=p)(p1:p<ab lg j 0+ab lg j 1)(h:(fpg es p).length≠1):vh es lg j=false:=
 JA (k:=p-ab lg j 0) (by omega) (by omega) (by rw[show ab lg j 0+(p-ab lg j 0)=p from by omega];exact h)
theorem O6 (h:ML es sp lg j (p-ab lg j 0) m)(j0:0<=j)(n0:0<=ab lg j 1)(p1:p<=ab lg j 0+ab lg j 1)(p2:ab lg j 0+ab lg j 1<=p):MM es sp lg (j+1) m:=by
 refine⟨ax h.ok (N5 h.h h.g (by omega) n0),?_⟩;have o:=h.o;rw[show(p-ab lg j 0).toNat=(ab lg j 1).toNat from by omega,List.append_assoc, <-lE j0]at o;exact o
theorem L8 (h:MM es sp lg j m)(j1:j<=lg.length)(j2:(lg.length:Int)<=j):rf m (qX sp lg):=by
 have o:=h.o;rw[show j.toNat=lg.length from by omega]at o;exact o
theorem OW (h:rf m (qX sp lg))(p:Int):mgbI m p=ownB sp lg p:=by
 refine dJ ?_;unfold ownB;rw[h.s.at_,decide_eq_true_eq]
theorem Jd (h:mapB es p≠ownB sp lg p):uI es fr sp lg p=false:=by unfold uI;rw[beq_eq_false_iff_ne.2 h];rfl
theorem Je (h:rhB fr p=ownB sp lg p):uI es fr sp lg p=false:=by unfold uI;rw[h];simp
theorem Ng (h:mapB es p=ownB sp lg p)(g:rhB fr p≠ownB sp lg p):uI es fr sp lg p=true:=by unfold uI;rw[h,beq_eq_false_iff_ne.2 g];simp
theorem K2 (h:mapB es p=rhB fr p)(g:mapB es p=ownB sp lg p):uI es fr sp lg p=false:=Je (by rw[<-h,g])
theorem Nh (h:mapB es p≠rhB fr p)(g:mapB es p=ownB sp lg p):uI es fr sp lg p=true:=Ng g (fun e=>h (by rw[g,e]))
theorem Om (p0:0<=p)(p1:p<es.length):b8 .neq (ab es p 0) 0=mapB es p:=by rw[v5];unfold mapB peM;rw[if_pos (by omega)]
theorem OP (h:p∈qX sp lg)(g:(es.length:Int)<=p):Fp es sp lg=false:=decide_eq_false (fun c=>by have:=c p h;omega)
theorem QN (o:rf m (qX sp lg))(h:∀ k∈vs,k<es.length)(g:∀ k∈iN m,k∈vs):Fp es sp lg=true:=decide_eq_true (fun p hp=>h p (g p ((o.k p).2 hp)))
theorem PZ {q:Int}(h:∀ k∈vs,k<(es.length:Int))(g:q<es.length):∀ k∈q::vs,k<(es.length:Int):=fun k hk=>by
 rcases List.mem_cons.1 hk with rfl|hk
 ·exact g
 ·exact h k hk
theorem QJ (j0:0<=j)(j1:j<i)(h:peF es (ab sp i 0)=peF es (ab sp j 0))(g:qD sp i j=false):E3 es sp i=false:=by
 unfold E3;exact be j0 (by omega) (by unfold CJ;rw[g,decide_eq_true h];rfl)
theorem Oh (h:peF es (ab sp i 0)≠peF es (ab sp j 0)):CJ es sp i j=true:=by unfold CJ;rw[decide_eq_false h];rfl
theorem Oi (h:qD sp i j=true):CJ es sp i j=true:=by unfold CJ;rw[h,Bool.or_true]
theorem QK (h:upto (CJ es sp i) j)(g:i<=j)(i0:0<=i):E3 es sp i=true:=by unfold E3;exact aT h (by omega)
structure GM (es sp lg:List (List L))(j:Int)(o:List (List L)):Prop where
 ok:upto (vh es lg) j
 e:o=fB (hL sp sp.length++hK lg j.toNat)
 l:(hK lg j.toNat).length<=64*j.toNat
structure KG (es sp lg:List (List L))(j k:Int)(o:List (List L)):Prop where
 ok:upto (vh es lg) j
 h:q9 lg j=true
 g:upto (fun k=>Jg es (ab lg j 0+k)) k
 e:o=fB (hL sp sp.length++hK lg j.toNat++kI (ab lg j 0) k.toNat)
 l:(hK lg j.toNat).length<=64*j.toNat
structure KH (sp:List (List L))(i:Int)(o:List (List L)):Prop where
 ok:upto (q9 sp) i
 e:o=fB (hL sp i.toNat)
variable {o : List (List L)}
theorem Q0 :KH sp 0 []:=⟨aL,rfl⟩
theorem Q1 (h:KH sp i o):o.length=i.toNat:=by rw[h.e,bO,kL]
theorem Kl (h:KH sp i o)(i0:0<=i)(g:q9 sp i=true):KH sp (i+1) (o++[[.v (.int .i64 (ab sp i 0))]]):=⟨ax h.ok g,by rw[ko i0,eg, <-h.e];rfl⟩
theorem QW (h:KH sp i o)(i1:i<=sp.length)(i2:(sp.length:Int)<=i):GM es sp lg 0 o:=⟨aL,by rw[h.e,show i.toNat=sp.length from by omega];simp[hK],Nat.zero_le _⟩
theorem Pj (h:GM es sp lg j o)(g:q9 lg j=true):KG es sp lg j 0 o:=⟨h.ok,g,aL,by rw[h.e];simp[kI],h.l⟩
theorem Pm (h:KG es sp lg j k o)(k0:0<=k)(g:(fpg es (ab lg j 0+k)).length=1):KG es sp lg j (k+1) (o++[[.v (.int .i64 (ab lg j 0+k))]]):=
 ⟨h.ok,h.h,Jh h.g g,by rw[tj k0, <-List.append_assoc,eg, <-h.e];rfl,h.l⟩
theorem Po (h:KG es sp lg j k o)(j0:0<=j)(n0:0<=ab lg j 1)(n1:ab lg j 1<=64)(k1:k<=ab lg j 1)(k2:ab lg j 1<=k):GM es sp lg (j+1) o:=by
 have l:=h.l;refine⟨ax h.ok (N5 h.h h.g k2 n0),?_,?_⟩
 ·rw[h.e,show k.toNat=(ab lg j 1).toNat from by omega,List.append_assoc, <-lE j0]
 ·rw[lE j0,List.length_append,mO];omega
theorem QV (h:KG es sp lg j k o)(k1:k<=64):o.length<=sp.length+64*j.toNat+64:=by
 have l:=h.l;rw[h.e,bO,List.length_append,List.length_append,kL,mO];omega
theorem H4 (h:GM es sp lg j o)(j1:j<=lg.length)(j2:(lg.length:Int)<=j):o=fB (qX sp lg):=by
 have e:=h.e;rw[show j.toNat=lg.length from by omega]at e;exact e
theorem J9 (hl:layOk sp lg=true){x:Int}(h:x∈qX sp lg):0<=x/\x<=31:=by
 have F:=Bl hl;unfold qX at h;rw[List.mem_append,gQ,iQ]at h;rcases h with⟨i,i1,e⟩|⟨j,j1,e1,e2⟩
 ·have t:=fe (F.s i i1);omega
 ·have t:=fH (F.l j j1);have b:=gK t.1;omega
theorem Pn (hl:layOk sp lg=true)(h:GM es sp lg j o)(j1:j<=lg.length)(j2:(lg.length:Int)<=j)(hs:sp.length<=1073741824)(hg:lg.length<=1073741824):Rw [tI] o:=by
 have l:=h.l;rw[H4 h j1 j2];refine oz (fun x hx=>by have:=J9 hl hx;omega) ?_;unfold qX;rw[List.length_append,kL];rw[show j.toNat=lg.length from by omega]at l;omega
theorem QX (h:GM es sp lg j o)(j1:j<=lg.length)(j2:(lg.length:Int)<=j)(i0:0<=i)(i1:i<o.length)(g:(es.length:Int)<=ab o i 0):Fp es sp lg=false:=by
 have e:=H4 h j1 j2;rw[e]at i1 g;obtain⟨v,q1,q2⟩:=wK i0 i1;rw[q2]at g;exact OP (List.mem_of_getElem? q1) g
theorem QZ (h:GM es sp lg j o)(j1:j<=lg.length)(j2:(lg.length:Int)<=j)(g:upto (fun t=>decide (ab o t 0<es.length)) i)(i2:(o.length:Int)<=i):Fp es sp lg=true:=by
 have e:=H4 h j1 j2;refine decide_eq_true (fun p hp=>?_);obtain⟨n,n1,rfl⟩:=List.mem_iff_getElem.1 hp;have n2:n<o.length:=by rw[e,bO];exact n1
 have q:=g n (by omega) (by omega);rw[decide_eq_true_eq,e,oy n1]at q;exact q
theorem QY (h:GM es sp lg j o)(j1:j<=lg.length)(j2:(lg.length:Int)<=j)(p:Int):hasB o p=ownB sp lg p:=by
 refine dJ ?_;rw[H4 h j1 j2,kC];unfold ownB;rw[decide_eq_true_eq]
theorem OB (k0:0<=k)(k1:k<(fpg es (ab sp i 0)).length)(h:spI sp (ab (fpg es (ab sp i 0)) k 0)≠i)(g:spI sp (ab (fpg es (ab sp i 0)) k 0)<0):msA es sp i=false:=by
 unfold msA;exact be k0 k1 (by unfold EX;rw[decide_eq_false h,decide_eq_false (by omega)];rfl)
theorem OD (k0:0<=k)(k1:k<(fpg es (ab sp i 0)).length)(h:spI sp (ab (fpg es (ab sp i 0)) k 0)≠i)(g:qD sp i (spI sp (ab (fpg es (ab sp i 0)) k 0))=false):msA es sp i=false:=by
 unfold msA;exact be k0 k1 (by unfold EX;rw[decide_eq_false h,g];simp)
theorem Oj (h:spI sp (ab (fpg es (ab sp i 0)) k 0)=i):EX es sp i k=true:=by unfold EX;rw[decide_eq_true h];rfl
theorem Ol (h:0<=spI sp (ab (fpg es (ab sp i 0)) k 0))(g:qD sp i (spI sp (ab (fpg es (ab sp i 0)) k 0))=true):EX es sp i k=true:=by unfold EX;rw[decide_eq_true h,g];simp
theorem Gq {p:Int}(h:0<=spI sp p):spI sp p<sp.length:=by
 obtain⟨b,_⟩:=dt h;exact b
theorem y7 {a b:Int}:aV .and .i64 a b=aV .and .i64 b a:=by
 show IntKind.wrap .i64 ((BitVec.ofInt _ a&&&BitVec.ofInt _ b).toNat)=IntKind.wrap .i64 ((BitVec.ofInt _ b&&&BitVec.ofInt _ a).toNat);rw[BitVec.and_comm]
theorem Fh :qD sp i j=qD sp j i:=by
 refine dJ ?_;unfold qD mshB;simp only[Bool.and_eq_true,decide_eq_true_eq];rw[y7 (a:=ab sp i 2)]
 constructor
 ·rintro⟨a,b,c,d,e⟩;exact⟨b,a,c.symm,fun h=>d h.symm,e⟩
 ·rintro⟨a,b,c,d,e⟩;exact⟨b,a,c.symm,fun h=>d h.symm,e⟩
theorem wF {es:List (List L)}{f:Int}:∀ {n:Nat} {x:Int},hasB (tW es f n) x=true↔∃ k:Nat,k<n/\x=k/\ab es k 0≠0/\ab es k 1=f
 |0,x=>⟨fun h=>absurd (sL.1 h) (List.not_mem_nil),fun⟨k,h,_⟩=>absurd h (Nat.not_lt_zero _)⟩
 | n+1,x=>by
   by_cases c:ab es n 0≠0/\ab es n 1=f
   ·rw[BK c.1 c.2,A2,Bool.or_eq_true,wF,A3]
    constructor
    ·rintro(⟨k,h,e⟩|e)
     ·exact⟨k,by omega,e⟩
     ·exact⟨n,by omega,e.symm,c⟩
    ·rintro⟨k,h,e,q⟩;by_cases d:k=n
     ·subst d;exact .inr e.symm
     ·exact .inl ⟨k,by omega,e,q⟩
   ·have c':ab es n 0=0\/ab es n 1≠f:=by
     by_cases z:ab es n 0=0
     ·exact .inl z
     ·exact .inr (fun e=>c ⟨z,e⟩)
    rw[FK c',wF]
    constructor
    ·rintro⟨k,h,e⟩;exact⟨k,by omega,e⟩
    ·rintro⟨k,h,e,q⟩;by_cases d:k=n
     ·subst d;exact absurd q c
     ·exact⟨k,by omega,e,q⟩
theorem ky {p x:Int}:hasB (fpg es p) x=true↔peM es p≠0/\0<=x/\x<es.length/\peM es x≠0/\peF es x=peF es p:=by
 by_cases c:peM es p=0
 ·rw[zq c];exact⟨fun h=>absurd (sL.1 h) (List.not_mem_nil),fun h=>absurd c h.1⟩
 ·rw[v8 c];unfold pagesOn;rw[wF]
  constructor
  ·rintro⟨k,h,rfl,q1,q2⟩;refine⟨c,by omega,by omega,?_,?_⟩
   ·unfold peM;rw[if_pos (by omega)];exact q1
   ·rw[show peF es k=ab es k 1 from by unfold peF;rw[if_pos (by omega)]];exact q2
  ·rintro⟨_,h0,h1,q1,q2⟩;refine⟨x.toNat,by omega,by omega,?_,?_⟩
   ·rw[Int.toNat_of_nonneg h0];unfold peM at q1;rw[if_pos (by omega)]at q1;exact q1
   ·rw[Int.toNat_of_nonneg h0];unfold peF at q2;rw[if_pos (c:=0<=x/\x<_) (by omega)]at q2;rw[q2];rfl
theorem wg {l:List (List L)}{x:Int}:hasB l x=true↔∃ k:Nat,k<l.length/\ab l k 0=x:=jt
theorem FL (hl:layOk sp lg=true):pgI es fr sp lg=(pgS es fr sp lg&&smS es sp):=by
 have F:=Bl hl;unfold pgI pgS;by_cases h1:bM (q9 sp) sp.length=true
 case neg=>rw[Bool.not_eq_true]at h1;rw[h1];rfl
 by_cases h2:bM (vh es lg) lg.length=true
 case neg=>rw[Bool.not_eq_true]at h2;rw[h2];simp
 by_cases h3:bM (uI es fr sp lg) es.length=true
 case neg=>rw[Bool.not_eq_true]at h3;rw[h3];simp
 by_cases h4:Fp es sp lg=true
 case neg=>rw[Bool.not_eq_true]at h4;rw[h4];simp
 rw[h1,h2,h3,h4];simp only[Bool.true_and];have h4':=of_decide_eq_true h4;have mp:∀ q:Int,0<=q->q<es.length->(peM es q≠0↔q∈qX sp lg):=by
  intro q q0 q1;have e:=cE.1 h3 q q0 q1;unfold uI at e;simp only[Bool.and_eq_true,beq_iff_eq]at e;have e:=e.1;unfold mapB ownB at e
  constructor
  ·intro h;rw[decide_eq_true h]at e;exact of_decide_eq_true e.symm
  ·intro h;rw[decide_eq_true h]at e;exact of_decide_eq_true e
 have spg:∀ n:Nat,n<sp.length->ab sp n 0∈qX sp lg:=fun n hn=>List.mem_append.2 (.inl (gQ.2 ⟨n,hn,rfl⟩))
 have spm:∀ n:Nat,n<sp.length->0<=ab sp n 0/\ab sp n 0<es.length/\peM es (ab sp n 0)≠0:=by
  intro n hn;have b:=J9 hl (spg n hn);have c:=h4' _ (spg n hn);exact⟨b.1,c,(mp _ b.1 c).2 (spg n hn)⟩
 have sat:∀ n:Nat,n<sp.length->spI sp (ab sp n 0)=n:=by
  intro n hn;have q:=gz (p:=isSp sp (ab sp n 0)) hn (js rfl);obtain⟨q1,q2⟩:=dt q;obtain⟨m,e⟩:=Int.eq_ofNat_of_zero_le q;have e':spI sp (ab sp n 0)=m:=e;rw[e]at q1 q2;have:=F.ss m n (by omega) hn (of_decide_eq_true q2);rw[e',this]
 refine dJ ?_;unfold smS;rw[cE,cE]
 constructor
 ·intro h i i0 i1;unfold msA;rw[cE];intro k k0 k1;obtain⟨ii,rfl⟩:=Int.eq_ofNat_of_zero_le i0;obtain⟨kk,rfl⟩:=Int.eq_ofNat_of_zero_le k0;have hx:hasB (fpg es (ab sp ii 0)) (ab (fpg es (ab sp ii 0)) kk 0)=true:=wg.2 ⟨kk,by omega,rfl⟩;generalize hX:ab (fpg es (ab sp ii 0)) kk 0=x at hx;obtain⟨c1,c2,c3,c4,c5⟩:=ky.1 hx;have hp:=(mp x c2 c3).1 c4;unfold qX at hp;rw[List.mem_append,gQ,iQ]at hp;unfold EX;rw[hX];rcases hp with⟨n,n1,rfl⟩|⟨j,j1,e1,e2⟩
  ·rw[sat n n1];rcases Nat.lt_trichotomy n ii with c|c|c
   ·have q:=cE.1 (h ii (by omega) i1) n (by omega) (by omega);unfold CJ at q;rw[c5,decide_eq_true rfl]at q;rw[show qD sp ii n=true from by simpa using q,decide_eq_true (p:=(0:Int)<=n) (by omega)];simp
   ·rw[c,decide_eq_true rfl];rfl
   ·have q:=cE.1 (h n (by omega) (by omega)) ii (by omega) (by omega);unfold CJ at q;rw[c5,decide_eq_true rfl]at q;have q':qD sp n ii=true:=by simpa using q
    rw[Fh,q',decide_eq_true (p:=(0:Int)<=n) (by omega)];simp
  ·exfalso;have t:=fH (F.l j j1);have b:=gK t.1;have q:=cg h2 j j1;unfold vh at q;simp only[Bool.and_eq_true]at q;have q2:=cE.1 q.2 (x-ab lg j 0) (by omega) (by omega);rw[show ab lg j 0+(x-ab lg j 0)=x from by omega]at q2;have q3:=of_decide_eq_true q2;have s1:=spm ii (by omega);have a1:hasB (fpg es x) x=true:=ky.2 ⟨c4,c2,c3,c4,rfl⟩;have a2:hasB (fpg es x) (ab sp ii 0)=true:=ky.2 ⟨c4,s1.1,s1.2.1,s1.2.2,c5.symm⟩;obtain⟨u,u1,u2⟩:=wg.1 a1;obtain⟨v,v1,v2⟩:=wg.1 a2;have:u=v:=by omega
   subst this;rw[u2]at v2;exact F.sl ii j (by omega) j1 (by omega) (by omega)
 ·intro h i i0 i1;unfold E3;rw[cE];intro j j0 j1;obtain⟨ii,rfl⟩:=Int.eq_ofNat_of_zero_le i0;obtain⟨jj,rfl⟩:=Int.eq_ofNat_of_zero_le j0;unfold CJ;by_cases c:peF es (ab sp ii 0)=peF es (ab sp jj 0)
  case neg=>rw[decide_eq_false c];rfl
  have s1:=spm ii (by omega);have s2:=spm jj (by omega);have a:hasB (fpg es (ab sp ii 0)) (ab sp jj 0)=true:=ky.2 ⟨s1.2.2,s2.1,s2.2.1,s2.2.2,c.symm⟩;obtain⟨k,k1,k2⟩:=wg.1 a;have q:=h ii (by omega) i1;unfold msA at q;have q:=cg q k k1;unfold EX at q;rw[k2,sat jj (by omega),decide_eq_false (p:=(jj:Int)=ii) (by omega)]at q;simp only[Bool.false_or,Bool.and_eq_true]at q;rw[q.2,Bool.or_true]
end
end Go.V
namespace Go.V
def jobZ (k m:Int)(cs:List (List L))(ph nx:Int):Bool:=decide (ph=0)&&(decide (nx=0)&&(decide (k=0)&&(decide (m=0)&&decide (cs.length=0))))
def sR (sp:List (List L))(me:Bool)(k m:Int)(cs:List (List L))(ph nx:Int):Bool:=
 bif me then(jbOk k m cs ph nx&&(decide (0<=spI sp k)&&decide (0<=spI sp m)))else jobZ k m cs ph nx
def IZ (cs:List (List L))(i:Int):Bool:=caOk (ay cs i 0)
def hpI (a0 a1 a2:List (List L))(a3:Int)(a4 a5 a6 a7 a8 a9 a10 a11:List (List L))(a12:Int)(a13:List (List L))(a14 a15 a16 a17:Int)(a18:Bool)(a19 a20:Int)(a21:List (List L))(a22 a23:Int):Bool:=
 kerOk a0 a1 a2 a3 a4&&(rgOk a2.length a5&&(layOk a6 a7&&(pgI a2 a5 a6 a7&&(mailOk a10 a11&&(decide (a9.length=a10.length)&&(quarOk a12 a13&&(bM (IZ a9) a9.length&&
  (objOk a6 a7 a8 a9 a17&&(hoI a6 a7 a8 a9 a10 a11 a13 a15&&(inR a14 0 1073741823&&(inR a15 0 1000000&&(inR a16 0 1000&&(inR a17 1 1000000&&sR a6 a18 a19 a20 a21 a22 a23)))))))))))))
structure jC (a0 a1 a2 a4 a5 a6 a7 a8 a9 a10 a11 a13 a21:List (List L)):Prop where
 n:vG a6 a7 a8 a9 a10 a11 a13
 c:Rw [.sl [tI]] a0
 u:Rw [tB] a1
 e:Rw [tI,tI] a2
 el:a2.length<=1073741824
 r:Rw [tI] a4
 f:Rw [tI,tI] a5
 fl:a5.length<=1073741824
 j:Rw [tI] a21
 jl:a21.length<=1073741824
section
variable {a0 a1 a2 : List (List L)} {a3 : Int} {a4 a5 a6 a7 a8 a9 a10 a11 : List (List L)} {a12 : Int} {a13 : List (List L)} {a14 a15 a16 a17 : Int} {a18 : Bool} {a19 a20 : Int} {a21 : List (List L)} {a22 a23 : Int} {i : Int}
theorem NB (h:kerOk a0 a1 a2 a3 a4=false):hpI a0 a1 a2 a3 a4 a5 a6 a7 a8 a9 a10 a11 a12 a13 a14 a15 a16 a17 a18 a19 a20 a21 a22 a23=false:=by unfold hpI;rw[h];simp
theorem NH (h:rgOk a2.length a5=false):hpI a0 a1 a2 a3 a4 a5 a6 a7 a8 a9 a10 a11 a12 a13 a14 a15 a16 a17 a18 a19 a20 a21 a22 a23=false:=by unfold hpI;rw[h];simp
theorem NC (h:layOk a6 a7=false):hpI a0 a1 a2 a3 a4 a5 a6 a7 a8 a9 a10 a11 a12 a13 a14 a15 a16 a17 a18 a19 a20 a21 a22 a23=false:=by unfold hpI;rw[h];simp
theorem Lg (h:pgI a2 a5 a6 a7=false):hpI a0 a1 a2 a3 a4 a5 a6 a7 a8 a9 a10 a11 a12 a13 a14 a15 a16 a17 a18 a19 a20 a21 a22 a23=false:=by unfold hpI;rw[h];simp
theorem ND (h:mailOk a10 a11=false):hpI a0 a1 a2 a3 a4 a5 a6 a7 a8 a9 a10 a11 a12 a13 a14 a15 a16 a17 a18 a19 a20 a21 a22 a23=false:=by unfold hpI;rw[h];simp
theorem Qu (h:decide (a9.length=a10.length)=false):hpI a0 a1 a2 a3 a4 a5 a6 a7 a8 a9 a10 a11 a12 a13 a14 a15 a16 a17 a18 a19 a20 a21 a22 a23=false:=by unfold hpI;rw[h];simp
theorem NG (h:quarOk a12 a13=false):hpI a0 a1 a2 a3 a4 a5 a6 a7 a8 a9 a10 a11 a12 a13 a14 a15 a16 a17 a18 a19 a20 a21 a22 a23=false:=by unfold hpI;rw[h];simp
theorem Qt (h:bM (IZ a9) a9.length=false):hpI a0 a1 a2 a3 a4 a5 a6 a7 a8 a9 a10 a11 a12 a13 a14 a15 a16 a17 a18 a19 a20 a21 a22 a23=false:=by unfold hpI;rw[h];simp
theorem Lf (h:objOk a6 a7 a8 a9 a17=false):hpI a0 a1 a2 a3 a4 a5 a6 a7 a8 a9 a10 a11 a12 a13 a14 a15 a16 a17 a18 a19 a20 a21 a22 a23=false:=by unfold hpI;rw[h];simp
theorem Le (h:hoI a6 a7 a8 a9 a10 a11 a13 a15=false):hpI a0 a1 a2 a3 a4 a5 a6 a7 a8 a9 a10 a11 a12 a13 a14 a15 a16 a17 a18 a19 a20 a21 a22 a23=false:=by unfold hpI;rw[h];simp
theorem NI (h:inR a14 0 1073741823=false):hpI a0 a1 a2 a3 a4 a5 a6 a7 a8 a9 a10 a11 a12 a13 a14 a15 a16 a17 a18 a19 a20 a21 a22 a23=false:=by unfold hpI;rw[h];simp
theorem NL (h:inR a15 0 1000000=false):hpI a0 a1 a2 a3 a4 a5 a6 a7 a8 a9 a10 a11 a12 a13 a14 a15 a16 a17 a18 a19 a20 a21 a22 a23=false:=by unfold hpI;rw[h];simp
theorem NM (h:inR a16 0 1000=false):hpI a0 a1 a2 a3 a4 a5 a6 a7 a8 a9 a10 a11 a12 a13 a14 a15 a16 a17 a18 a19 a20 a21 a22 a23=false:=by unfold hpI;rw[h];simp
theorem NN (h:inR a17 1 1000000=false):hpI a0 a1 a2 a3 a4 a5 a6 a7 a8 a9 a10 a11 a12 a13 a14 a15 a16 a17 a18 a19 a20 a21 a22 a23=false:=by unfold hpI;rw[h];simp
theorem Jr (h:(a9.length:Int)≠a10.length):hpI a0 a1 a2 a3 a4 a5 a6 a7 a8 a9 a10 a11 a12 a13 a14 a15 a16 a17 a18 a19 a20 a21 a22 a23=false:=Qu (decide_eq_false (by omega))
theorem Jq (i0:0<=i)(i1:i<a9.length)(h:caOk (ay a9 i 0)=false):hpI a0 a1 a2 a3 a4 a5 a6 a7 a8 a9 a10 a11 a12 a13 a14 a15 a16 a17 a18 a19 a20 a21 a22 a23=false:=Qt (be i0 i1 h)
theorem Er (hk:kerOk a0 a1 a2 a3 a4=true)(hr:rgOk a2.length a5=true)(hl:layOk a6 a7=true)(hp:pgI a2 a5 a6 a7=true)(hm:mailOk a10 a11=true)(hn:decide (a9.length=a10.length)=true)(hq:quarOk a12 a13=true)(hc:bM (IZ a9) a9.length=true)(ho:objOk a6 a7 a8 a9 a17=true)(hh:hoI a6 a7 a8 a9 a10 a11 a13 a15=true)(hs:inR a14 0 1073741823=true)(ht:inR a15 0 1000000=true)(hw:inR a16 0 1000=true)(hx:inR a17 1 1000000=true):hpI a0 a1 a2 a3 a4 a5 a6 a7 a8 a9 a10 a11 a12 a13 a14 a15 a16 a17 a18 a19 a20 a21 a22 a23=sR a6 a18 a19 a20 a21 a22 a23:=by unfold hpI;rw[hk,hr,hl,hp,hm,hn,hq,hc,ho,hh,hs,ht,hw,hx];rfl
structure RH (a0 a1 a2:List (List L))(a3:Int)(a4 a5 a6 a7 a8 a9 a10 a11:List (List L))(a12:Int)(a13:List (List L))(a14 a15 a16 a17:Int)(a18:Bool)(a19 a20:Int)(a21:List (List L))(a22 a23:Int):Prop where
 k:kerOk a0 a1 a2 a3 a4=true
 r:rgOk a2.length a5=true
 l:layOk a6 a7=true
 p:pgI a2 a5 a6 a7=true
 m:mailOk a10 a11=true
 n:decide (a9.length=a10.length)=true
 q:quarOk a12 a13=true
 c:bM (IZ a9) a9.length=true
 o:objOk a6 a7 a8 a9 a17=true
 h:hoI a6 a7 a8 a9 a10 a11 a13 a15=true
 s:inR a14 0 1073741823=true
 t:inR a15 0 1000000=true
 w:inR a16 0 1000=true
 x:inR a17 1 1000000=true
 j:sR a6 a18 a19 a20 a21 a22 a23=true
theorem oV (h:hpI a0 a1 a2 a3 a4 a5 a6 a7 a8 a9 a10 a11 a12 a13 a14 a15 a16 a17 a18 a19 a20 a21 a22 a23=true):RH a0 a1 a2 a3 a4 a5 a6 a7 a8 a9 a10 a11 a12 a13 a14 a15 a16 a17 a18 a19 a20 a21 a22 a23:=by
 unfold hpI at h;simp only[Bool.and_eq_true]at h;obtain⟨hk,hr,hl,hp,hm,hn,hq,hc,ho,hh,hs,ht,hw,hx,hj⟩:=h;exact⟨hk,hr,hl,hp,hm,hn,hq,hc,ho,hh,hs,ht,hw,hx,hj⟩
theorem Ju (h:jbOk a19 a20 a21 a22 a23=false):false=sR a6 true a19 a20 a21 a22 a23:=by unfold sR;rw[h];rfl
theorem Jv (h:spI a6 a19<0):false=sR a6 true a19 a20 a21 a22 a23:=by unfold sR;rw[decide_eq_false (p:=0<=spI a6 a19) (by omega)];simp
theorem Jw (h:jbOk a19 a20 a21 a22 a23=true)(g:0<=spI a6 a19):b8 .geq (spI a6 a20) 0=sR a6 true a19 a20 a21 a22 a23:=by unfold sR;rw[h,decide_eq_true g];rfl
theorem PU (h:bM (sA a13 a15) a13.length=false)(hl:layOk a6 a7=true)(ho:objOk a6 a7 a8 a9 a17=true):hoI a6 a7 a8 a9 a10 a11 a13 a15=false:=by rw[Eo hl ho,h,Bool.and_false]
theorem NJ (i0:0<=i)(i1:i<a13.length)(h:a15<ab a13 i 2)(hl:layOk a6 a7=true):hpI a0 a1 a2 a3 a4 a5 a6 a7 a8 a9 a10 a11 a12 a13 a14 a15 a16 a17 a18 a19 a20 a21 a22 a23=false:=by
 by_cases ho:objOk a6 a7 a8 a9 a17=true
 ·exact Le (PU (be i0 i1 (by unfold sA;exact decide_eq_false (by omega))) hl ho)
 ·exact Lf (by simpa using ho)
theorem NF (hl:layOk a6 a7=true)(h:pgS a2 a5 a6 a7=false):hpI a0 a1 a2 a3 a4 a5 a6 a7 a8 a9 a10 a11 a12 a13 a14 a15 a16 a17 a18 a19 a20 a21 a22 a23=false:=Lg (by rw[FL hl,h];rfl)
theorem NE (hl:layOk a6 a7=true)(h:smS a2 a6=false):hpI a0 a1 a2 a3 a4 a5 a6 a7 a8 a9 a10 a11 a12 a13 a14 a15 a16 a17 a18 a19 a20 a21 a22 a23=false:=Lg (by rw[FL hl,h,Bool.and_false])
theorem NA (hl:layOk a6 a7=true)(ho:objOk a6 a7 a8 a9 a17=true)(h:hoS a6 a7 a8 a9 a10 a11 a13=false):hpI a0 a1 a2 a3 a4 a5 a6 a7 a8 a9 a10 a11 a12 a13 a14 a15 a16 a17 a18 a19 a20 a21 a22 a23=false:=Le (by rw[Eo hl ho,h];rfl)
theorem QQ (hl:layOk a6 a7=true)(h:pgS a2 a5 a6 a7=true)(g:smS a2 a6=true):pgI a2 a5 a6 a7=true:=by rw[FL hl,h,g];rfl
theorem Qs (hl:layOk a6 a7=true)(ho:objOk a6 a7 a8 a9 a17=true)(h:hoS a6 a7 a8 a9 a10 a11 a13=true)(i2:(a13.length:Int)<=i)(g:upto (sA a13 a15) i):hoI a6 a7 a8 a9 a10 a11 a13 a15=true:=by rw[Eo hl ho,h,aT g i2];rfl
theorem Ri (h:ab a13 i 2<=a15):sA a13 a15 i=true:=decide_eq_true h
end
theorem wh {a0 a1 a2 a4 a5 a6 a7 a8 a9 a10 a11 a13 a21:List (List L)}(h0:Rw [.sl [tI]] a0)(h1:Rw [tB] a1)(h2:Rw [tI,tI] a2)(h4:Rw [tI] a4)(h5:Rw [tI,tI] a5)(h6:Rw [tI,tI,tI] a6)(h7:Rw [tI,tI,tI] a7)(h8:Rw [tI,tI,tI,tI] a8)(h9:Rw [.sl [.sl [tI]]] a9)(h10:Rw [.sl [tI,tI]] a10)(h11:Rw [.sl [tI]] a11)(h13:Rw [tI,tI,tI] a13)(h21:Rw [tI] a21) 
 (hs:aj a0<=1048576/\aj a1<=1048576/\aj a2<=1048576/\aj a4<=1048576/\aj a5<=1048576/\aj a6<=1048576/\aj a7<=1048576/\aj a8<=1048576/\aj a9<=1048576/\aj a10<=1048576/\aj a11<=1048576/\aj a13<=1048576/\aj a21<=1048576):jC a0 a1 a2 a4 a5 a6 a7 a8 a9 a10 a11 a13 a21:=by
 obtain⟨c0,c1,c2,c4,c5,c6,c7,c8,c9,c10,c11,c13,c21⟩:=hs;exact⟨LY h6 h7 h8 h9 h10 h11 h13 c6 c7 c8 c9 c10 c11 c13,h0,h1,h2,by unfold aj at c2;omega,h4,h5,by unfold aj at c5;omega,h21,by unfold aj at c21;omega⟩
end Go.V
namespace Go.V
theorem OR {sp lg:List (List L)}{a s:Int}(h:okO sp lg a s=true):0<=a/\a<=2000/\1<=s/\s<=1000:=by
 unfold okO at h;simp only[Bool.and_eq_true,Bool.or_eq_true,decide_eq_true_eq]at h;obtain⟨_,⟨k,c⟩|⟨k,c⟩⟩:=h
 ·have e:=xO k;have q:0<=eS sp a:=by
   unfold dnK at k;by_cases w:0<=eS sp a
   ·exact w
   ·rw[if_neg w]at k;split at k<;>omega
  have t:=(dt q).2;change tX sp a (eS sp a)=true at t;obtain⟨t1,t2,t3⟩:=oA.1 (vr.1 t);have hs:=fe t1;have hk:=bh.1 hs.2.2.1;have w:dnI sp lg a=eS sp a:=by unfold dnI;rw[if_pos q]
  rw[w]at c;have b:=I4 (s:=s) (by omega);omega
 ·have q:¬ 0<=eS sp a:=fun w=>by
   unfold dnK at k;rw[if_pos w]at k;split at k<;>omega
  have g:0<=j4 lg a:=by
   unfold dnK at k;rw[if_neg q]at k;by_cases w:0<=j4 lg a
   ·exact w
   ·rw[if_neg w]at k;omega
  have t:=(dt g).2;change uL lg a (j4 lg a)=true at t;have w:dnI sp lg a=j4 lg a:=by unfold dnI;rw[if_neg q,if_pos g]
  rw[w]at c;unfold uL lhB at t;rw[Bool.and_eq_true]at t;obtain⟨t1,t2,t3,t4⟩:=fH t.1;have u:=bh.1 t.2;have v:=bh.1 t1;have pf:0<=ab lg (j4 lg a) 1:=by rw[t2];unfold pfN;split<;>omega
  omega
theorem ON {sp lg os cs:List (List L)}{nx i:Int}(h:objOk sp lg os cs nx=true)(i0:0<=i)(i1:i<os.length):0<=ab os i 1/\ab os i 1<=2000/\1<=ab os i 2/\ab os i 2<=1000:=by
 have t:=cE.1 h i i0 i1;unfold s7 at t;simp only[Bool.and_eq_true]at t;exact OR t.2.2.2.2
structure MY (os:List (List L)):Prop where
 w:Rw [tI,tI,tI,tI] os
 l:os.length<=1099511627776
 b:∀ i:Int,0<=i->i<os.length->0<=ab os i 1/\ab os i 1<=2000/\1<=ab os i 2/\ab os i 2<=1000
theorem zO {a0 a1 a2:List (List L)}{a3:Int}{a4 a5 a6 a7 a8 a9 a10 a11:List (List L)}{a12:Int}{a13:List (List L)}{a14 a15 a16 a17:Int}{a18:Bool}{a19 a20:Int}{a21:List (List L)}{a22 a23:Int}(w:Rw [tI,tI,tI,tI] a8)(l:a8.length<=1099511627776)(h:hpI a0 a1 a2 a3 a4 a5 a6 a7 a8 a9 a10 a11 a12 a13 a14 a15 a16 a17 a18 a19 a20 a21 a22 a23=true):MY a8:=
 ⟨w,l,fun i i0 i1=>ON (oV h).o i0 i1⟩
end Go.V
namespace Go.V
def zG (es:List (List L)):Nat->Int
 |0=>0
 |n+1=>if ab es n 0=0 then zG es n else zG es n+1
def mpT (es:List (List L)):Int:=zG es es.length
theorem zH {es:List (List L)}:∀ {n:Nat},0<=zG es n/\zG es n<=n
 |0=>⟨Int.le_refl _,Int.le_refl _⟩
 | n+1=>by
   have:=zH (es:=es) (n:=n);unfold zG;split<;>omega
theorem Fc {es:List (List L)}{i:Int}(i1:i<=es.length)(i2:(es.length:Int)<=i):zG es i.toNat=mpT es:=by unfold mpT;rw[show i.toNat=es.length by omega]
theorem JL {es:List (List L)}{i:Int}(i0:0<=i)(h:ab es i 0=0):zG es (i+1).toNat=zG es i.toNat:=by
 obtain⟨k,rfl⟩:=Int.eq_ofNat_of_zero_le i0;rw[show((k:Int)+1).toNat=k+1 by omega,show(k:Int).toNat=k by omega];show(if ab es k 0=0 then _ else _)=_;rw[if_pos h]
theorem Fe {es:List (List L)}{i:Int}(i0:0<=i)(h:ab es i 0≠0):zG es (i+1).toNat=zG es i.toNat+1:=by
 obtain⟨k,rfl⟩:=Int.eq_ofNat_of_zero_le i0;rw[show((k:Int)+1).toNat=k+1 by omega,show(k:Int).toNat=k by omega];show(if ab es k 0=0 then _ else _)=_;rw[if_neg h]
end Go.V
namespace Go.V
def uN (us:List (List L)):Nat->Int
 |0=>0
 |n+1=>if jD us n 0=true then uN us n+1 else uN us n
theorem Ah {us:List (List L)}:∀ {n:Nat},0<=uN us n/\uN us n<=n
 |0=>by simp[uN]
 | n+1=>by
   have:=Ah (us:=us) (n:=n);unfold uN;split<;>omega
theorem Co {us:List (List L)}{i:Int}(hi:0<=i)(h:jD us i 0=true):uN us (i+1).toNat=uN us i.toNat+1:=by
 have e:((i.toNat:Nat):Int)=i:=Int.toNat_of_nonneg hi;rw[show(i+1).toNat=i.toNat+1 from by omega,uN,if_pos (by rw[e];exact h)]
theorem Gy {us:List (List L)}{i:Int}(hi:0<=i)(h:jD us i 0=false):uN us (i+1).toNat=uN us i.toNat:=by
 have e:((i.toNat:Nat):Int)=i:=Int.toNat_of_nonneg hi;rw[show(i+1).toNat=i.toNat+1 from by omega,uN,if_neg (by rw[e,h];decide)]
def ufN (cs us:List (List L)):Int:=if framesOk cs us=true then uN us us.length else 0
theorem Gx {cs us:List (List L)}{i:Int}(h:framesOk cs us=true)(h0:i<=us.length)(h1:(us.length:Int)<=i):ufN cs us=uN us i.toNat:=by
 unfold ufN;rw[if_pos h,show i.toNat=us.length by omega]
theorem Kx {cs us:List (List L)}(h:framesOk cs us=false):ufN cs us=0:=by unfold ufN;rw[h];rfl
theorem Mx {cs us:List (List L)}{i:Int}(h0:i<=us.length)(h1:(us.length:Int)<=i)(h:i=0\/framesOk cs us=true):ufN cs us=uN us i.toNat:=by
 rcases h with rfl|h
 ·unfold ufN;have:us.length=0:=by omega
  rw[this];simp[uN]
 ·exact Gx h h0 h1
theorem Mw {cs us:List (List L)}{i n:Int}(hn:n=uN us i.toNat)(h:i=0\/framesOk cs us=true)(hf:framesOk cs us=false):n=ufN cs us:=by
 rcases h with rfl|h
 ·rw[Kx hf,hn];rfl
 ·rw[hf]at h;cases h
end Go.V
namespace Go.V
theorem D3 {sp lg:List (List L)}{a:Int}(h:dnK sp lg a=1):dnI sp lg a=eS sp a/\0<=eS sp a/\eS sp a<sp.length/\yq (ab sp (eS sp a) 0) (ab sp (eS sp a) 1) (ab sp (eS sp a) 2) a=true:=by
 have q:0<=eS sp a:=by
  unfold dnK at h;by_cases w:0<=eS sp a
  ·exact w
  ·rw[if_neg w]at h;split at h<;>omega
 have t:=dt q;change eS sp a<sp.length/\tX sp a (eS sp a)=true at t;exact⟨by unfold dnI;rw[if_pos q],q,t.1,vr.1 t.2⟩
theorem PS {sp lg:List (List L)}{a:Int}(F:GK sp lg)(h:dnK sp lg a=1):spI sp (a/16)=dnI sp lg a:=by
 obtain⟨e,q,l,t⟩:=D3 h;obtain⟨t1,t2,t3⟩:=oA.1 t;have p:a/16=ab sp (eS sp a) 0:=by omega
 rw[e,p];refine dm (fun j j0 j1=>?_) q l (js rfl);refine hH ?_;cases c:isSp sp (ab sp (eS sp a) 0) j with
 |false=>rfl
 | true=>
   exfalso;have c':ab sp j 0=ab sp (eS sp a) 0:=of_decide_eq_true c;have:=F.ss j.toNat (eS sp a).toNat (by omega) (by omega) (by rw[Int.toNat_of_nonneg j0,Int.toNat_of_nonneg q];exact c');omega
end Go.V
namespace Go.V
theorem G4 {a b:Int}:aV .and .i64 a b=(np a&&&np b).toInt:=Cs _
theorem M3 {m:Nat}(h:m<65536):aV .and .i64 (m:Int) 1=((m%2:Nat):Int):=by
 rw[G4];have e:np (m:Int)&&&np 1=BitVec.ofNat 64 (m%2):=by
  apply BitVec.eq_of_toNat_eq;unfold np;rw[BitVec.toNat_and,BitVec.ofInt_natCast,BitVec.toNat_ofNat,BitVec.toNat_ofNat];show(m%18446744073709551616)&&&1=_;rw[Nat.and_one_is_mod];omega
 rw[e,BitVec.toInt_eq_toNat_of_lt (by rw[BitVec.toNat_ofNat];omega),BitVec.toNat_ofNat];omega
theorem PR {n t:Nat}(ht:t<=15):Mq .shr .i64 (n:Int) (t:Int)=((n/2^t:Nat):Int):=by
 show Int.fdiv (n:Int) (2^(min (t:Int).toNat 64))=_;rw[show min (t:Int).toNat 64=t by omega,Int.fdiv_eq_ediv_of_nonneg _ (Int.le_of_lt (Int.pow_pos (by omega)))];rw[Int.natCast_ediv,Int.natCast_pow];rfl
theorem zx {b:Int}{t:Nat}(hb:0<=b)(hb2:b<65536)(ht:t<=15):hsB b t=(np b).getLsbD t:=by
 obtain⟨n,rfl⟩:=Int.eq_ofNat_of_zero_le hb;have hs:slB (n:Int) (t:Int)=true:=Mr.2 ⟨by omega,by omega,by omega⟩;have hd:n/2^t<65536:=Nat.lt_of_le_of_lt (Nat.div_le_self _ _) (by omega);unfold hsB;rw[hs,PR ht,M3 hd];unfold np;rw[BitVec.ofInt_natCast,BitVec.getLsbD_ofNat,Nat.testBit_eq_decide_div_mod_eq];rw[decide_eq_true (show t<64 by omega)];simp only[Bool.true_and];by_cases c:n/2^t%2=1
 ·rw[decide_eq_true c,decide_eq_true (by omega)]
 ·rw[decide_eq_false c,decide_eq_false (by omega)]
theorem JZ {a b:Int}(a0:0<=a)(a1:a<65536)(b0:0<=b)(b1:b<65536):0<=aV .or .i64 a b/\aV .or .i64 a b<65536:=by
 obtain⟨n,rfl⟩:=Int.eq_ofNat_of_zero_le a0;obtain⟨m,rfl⟩:=Int.eq_ofNat_of_zero_le b0;rw[Fu];have e:np (n:Int)|||np (m:Int)=BitVec.ofNat 64 (n|||m):=by
  unfold np;rw[BitVec.ofInt_natCast,BitVec.ofInt_natCast,BitVec.ofNat_or]
 have h:n|||m<2^16:=Nat.or_lt_two_pow (by omega) (by omega);rw[e,BitVec.toInt_eq_toNat_of_lt (by rw[BitVec.toNat_ofNat];omega),BitVec.toNat_ofNat];omega
theorem NP {a b:Int}{t:Nat}(a0:0<=a)(a1:a<65536)(b0:0<=b)(b1:b<65536)(ht:t<=15):hsB (aV .or .i64 a b) t=(hsB a t||hsB b t):=by
 have o:=JZ a0 a1 b0 b1;rw[zx o.1 o.2 ht,zx a0 a1 ht,zx b0 b1 ht,zd]
theorem wP {p k b:Int}(h:spOk p k b=true):0<=b/\b<65536:=by
 have t:=(fe h).2.2.2;unfold bmOk at t;simp only[Bool.and_eq_true,bh]at t;obtain⟨⟨n0,n1⟩,b0,b1⟩:=t;have q:(2:Int)^(slN k).toNat<=2^16:=by
  have:=Nat.pow_le_pow_right (n:=2) (by omega) (show(slN k).toNat<=16 by omega)
  exact_mod_cast this
 have:(2:Int)^16=65536:=rfl;omega
theorem Cn {ss l:List (List L)}{b:Int}{t:Nat}(b0:0<=b)(b1:b<65536)(ht:t<=15)(hs:∀ j:Nat,j<ss.length->0<=ab ss j 2/\ab ss j 2<65536):∀ n:Nat,n<=ss.length->(0<=Cm ss l b n/\Cm ss l b n<65536)/\(hsB (Cm ss l b n) t=true↔hsB b t=true\/∃ j:Nat,j<n/\hasB l (ab ss j 0)=true/\hsB (ab ss j 2) t=true)
 |0,_=>⟨⟨b0,b1⟩,⟨.inl,fun h=>h.elim id (fun⟨j,q,_⟩=>absurd q (by omega))⟩⟩
 | n+1,hn=>by
   obtain⟨⟨u0,u1⟩,ih⟩:=Cn b0 b1 ht hs n (by omega);have g:=hs n (by omega);unfold Cm;by_cases c:hasB l (ab ss n 0)=true
   ·rw[if_pos c];refine⟨JZ u0 u1 g.1 g.2,?_⟩;rw[NP u0 u1 g.1 g.2 ht,Bool.or_eq_true,ih]
    constructor
    ·rintro((h|⟨j,q,r⟩)|h)
     ·exact .inl h
     ·exact .inr ⟨j,by omega,r⟩
     ·exact .inr ⟨n,by omega,c,h⟩
    ·rintro(h|⟨j,q,r,s⟩)
     ·exact .inl (.inl h)
     ·by_cases e:j=n
      ·subst e;exact .inr s
      ·exact .inl (.inr ⟨j,by omega,r,s⟩)
   ·rw[if_neg c];refine⟨⟨u0,u1⟩,?_⟩;rw[ih]
    constructor
    ·rintro(h|⟨j,q,r⟩)
     ·exact .inl h
     ·exact .inr ⟨j,by omega,r⟩
    ·rintro(h|⟨j,q,r,s⟩)
     ·exact .inl h
     ·by_cases e:j=n
      ·subst e;exact absurd r c
      ·exact .inr ⟨j,by omega,r,s⟩
end Go.V
namespace Go.V
def Ig (es sp lg:List (List L))(p k:Int):Prop:=(∃ j:Nat,j<sp.length/\hasB (fpg es p) (ab sp j 0)=true/\hsB (ab sp j 2) (k/clsSz (ab sp j 1))=true)\/∃ j:Nat,j<lg.length/\lhB (ab lg j 0) (ab lg j 1) (ab lg j 2) (p*16+k)=true
def JV (es sp lg:List (List L))(p k:Int):Prop:=(0<=spI sp p/\hsB (ubB es sp (spI sp p)) (k/clsSz (ab sp (spI sp p) 1))=true)\/(spI sp p<0/\dnK sp lg (p*16+k)=3)
structure RI (es fr sp lg:List (List L)):Prop where
 l:∀ j:Nat,j<lg.length->∀ q:Int,ab lg j 0<=q->q<ab lg j 0+ab lg j 1->(fpg es q).length=1
 m:∀ q:Int,0<=q->q<es.length->(peM es q≠0↔q∈qX sp lg)
 o:∀ q∈qX sp lg,q<es.length
 c:∀ i j:Nat,i<sp.length->j<sp.length->peF es (ab sp i 0)=peF es (ab sp j 0)->ab sp i 1=ab sp j 1
theorem RE {es fr sp lg:List (List L)}(h:pgI es fr sp lg=true):RI es fr sp lg:=by
 unfold pgI at h;simp only[Bool.and_eq_true]at h;obtain⟨h1,h2,h3,h4,h5⟩:=h;have half:∀ i j:Nat,i<sp.length->j<i->peF es (ab sp i 0)=peF es (ab sp j 0)->ab sp i 1=ab sp j 1:=fun i j hi hj e=>by
  have a:=cg h5 i hi;unfold E3 at a;have b:=cg a j (by omega);unfold CJ at b;rw[decide_eq_true e]at b;simp only[Bool.not_true,Bool.false_or]at b;unfold qD mshB at b;simp only[Bool.and_eq_true,decide_eq_true_eq]at b;exact b.2.2.1
 refine⟨fun j hj q q0 q1=>?_,fun q q0 q1=>?_,of_decide_eq_true h4,fun i j hi hj e=>?_⟩
 ·have a:=cg h2 j hj;unfold vh at a;rw[Bool.and_eq_true]at a;have b:=cg a.2 (q-ab lg j 0).toNat (by omega);unfold Jg at b;rw[show ab lg j 0+((q-ab lg j 0).toNat:Int)=q by omega]at b;exact of_decide_eq_true b
 ·have a:=cg h3 q.toNat (by omega);rw[Int.toNat_of_nonneg q0]at a;unfold uI at a;rw[Bool.and_eq_true]at a;have b:=eq_of_beq a.1;unfold mapB ownB at b;by_cases c:peM es q≠0
  ·rw[decide_eq_true c]at b;exact⟨fun _=>of_decide_eq_true b.symm,fun _=>c⟩
  ·rw[decide_eq_false c]at b;exact⟨fun x=>absurd x c,fun x=>absurd x (of_decide_eq_false b.symm)⟩
 ·by_cases c:i=j
  ·rw[c]
  ·by_cases d:j<i
   ·exact half i j hi d e
   ·exact(half j i hj (by omega) e.symm).symm
theorem J4 {es fr sp lg:List (List L)}{p k:Int}(hl:layOk sp lg=true)(hp:pgI es fr sp lg=true)(hm:peM es p≠0)(k0:0<=k)(k1:k<16):Ig es sp lg p k↔JV es sp lg p k:=by
 have F:=Bl hl;have T:=RE hp;have pr:0<=p/\p<es.length:=by
  by_cases c:0<=p/\p<es.length
  ·exact c
  ·exact absurd (tg c).1 hm
 have self:hasB (fpg es p) p=true:=ky.2 ⟨hm,pr.1,pr.2,hm,rfl⟩;have lgp:∀ j:Nat,j<lg.length->lhB (ab lg j 0) (ab lg j 1) (ab lg j 2) (p*16+k)=true->ab lg j 0<=p/\p<ab lg j 0+ab lg j 1:=fun j hj h=>by
  unfold lhB at h;rw[Bool.and_eq_true]at h;obtain⟨t1,t2,t3,t4⟩:=fH h.1;have u:=bh.1 h.2;have v:ab lg j 1=(ab lg j 2+15)/16:=by rw[t2];unfold pfN;rw[if_pos t1]
  omega
 unfold Ig JV;by_cases c:0<=spI sp p
 ·have f:=dt c;change spI sp p<sp.length/\isSp sp p (spI sp p)=true at f;have e:ab sp (spI sp p) 0=p:=of_decide_eq_true f.2;generalize hi:spI sp p=i at*;obtain⟨i,rfl⟩:=Int.eq_ofNat_of_zero_le c;have il:i<sp.length:=by omega
  have cl:=fE (fe (F.s i il)).2.2.1;have q0:0<=k/clsSz (ab sp i 1):=Int.ediv_nonneg k0 (by omega);have q1:k/clsSz (ab sp i 1)<=15:=by
   have:=Int.ediv_le_self (clsSz (ab sp i 1)) k0;omega
  have cls:∀ j:Nat,j<sp.length->hasB (fpg es p) (ab sp j 0)=true->ab sp j 1=ab sp i 1:=fun j hj h=>T.c j i hj il (by rw[e];exact(ky.1 h).2.2.2.2)
  obtain⟨t,ht⟩:=Int.eq_ofNat_of_zero_le q0;have ub:=(Cn (ss:=sp) (l:=fpg es p) (wP (F.s i il)).1 (wP (F.s i il)).2 (t:=t) (by omega) (fun j hj=>wP (F.s j hj)) sp.length (Nat.le_refl _)).2;rw[Gw (bh.2 ⟨c,by omega⟩),e,ht,ub]
  constructor
  ·rintro(⟨j,hj,h,b⟩|⟨j,hj,h⟩)
   ·refine .inl ⟨c,.inr ⟨j,hj,h,?_⟩⟩;rw[cls j hj h,ht]at b;exact b
   ·have:=lgp j hj h;exact(F.sl i j il hj (by omega) (by omega)).elim
  ·rintro(⟨_,h|⟨j,hj,h,b⟩⟩|⟨h,_⟩)
   ·exact .inl ⟨i,il,by rw[e];exact self,by rw[ht];exact h⟩
   ·exact .inl ⟨j,hj,h,by rw[cls j hj h,ht];exact b⟩
   ·omega
 ·have ns:∀ j:Nat,j<sp.length->ab sp j 0≠p:=fun j hj h=>c (gz hj (js h))
  have ow:=(T.m p pr.1 pr.2).1 hm;have one:(fpg es p).length=1:=by
   rcases List.mem_append.1 ow with h|h
   ·obtain⟨j,hj,e⟩:=gQ.1 h;exact absurd e (ns j hj)
   ·obtain⟨j,hj,h0,h1⟩:=iQ.1 h;exact T.l j hj p h0 (by omega)
  have nh:∀ j:Nat,j<sp.length->¬ hasB (fpg es p) (ab sp j 0)=true:=fun j hj h=>by
   obtain⟨a,ha,ea⟩:=jt.1 h;obtain⟨b,hb,eb⟩:=jt.1 self;have:a=b:=by omega
   subst this;exact ns j hj (ea.symm.trans eb)
  have fs:¬ 0<=eS sp (p*16+k):=fun h=>by
   have t:=dt h;change eS sp (p*16+k)<sp.length/\tX sp (p*16+k) (eS sp (p*16+k))=true at t;obtain⟨t1,t2,t3⟩:=oA.1 (vr.1 t.2);refine ns (eS sp (p*16+k)).toNat (by omega) ?_;rw[Int.toNat_of_nonneg h];omega
  have dk:dnK sp lg (p*16+k)=3↔∃ j:Nat,j<lg.length/\lhB (ab lg j 0) (ab lg j 1) (ab lg j 2) (p*16+k)=true:=by
   unfold dnK;rw[if_neg fs];have fi:0<=j4 lg (p*16+k)↔∃ j:Nat,j<lg.length/\lhB (ab lg j 0) (ab lg j 1) (ab lg j 2) (p*16+k)=true:=nY;rw[<-fi];split
   ·exact⟨fun _=>by assumption,fun _=>rfl⟩
   ·exact⟨fun h=>by omega,fun h=>absurd h (by assumption)⟩
  rw[dk]
  constructor
  ·rintro(⟨j,hj,h,_⟩|h)
   ·exact absurd h (nh j hj)
   ·exact .inr ⟨by omega,h⟩
  ·rintro(⟨h,_⟩|⟨_,h⟩)
   ·exact absurd h c
   ·exact .inr h
end Go.V
namespace Go.V
theorem Hr {sp lg os cs b x qs:List (List L)}{c:Int}(h:hoI sp lg os cs b x qs c=true){j:Int}(j0:0<=j)(j1:j<(ifL b x).length):dnK sp lg (ab (ifL b x) j 0)=1:=by
 unfold hoI at h;simp only[Bool.and_eq_true]at h;have t:=cE.1 h.2.2.1 j j0 j1;unfold jA hlB at t;simp only[Bool.and_eq_true,decide_eq_true_eq]at t;exact t.1
def Kd (sp lg fl:List (List L)):Nat->Int
 |0=>0
 |n+1=>Kd sp lg fl n+clsSz (ab sp (dnI sp lg (ab fl n 0)) 1)
theorem sv {k:Int}:0<=clsSz k/\clsSz k<=8:=by unfold clsSz;repeat' split<;>omega
theorem FP {sp lg fl:List (List L)}:∀ {n:Nat},0<=Kd sp lg fl n/\Kd sp lg fl n<=8*n
 |0=>⟨Int.le_refl _,by show(0:Int)<=_;omega⟩
 | n+1=>by
   have:=FP (sp:=sp) (lg:=lg) (fl:=fl) (n:=n);have k:=sv (k:=ab sp (dnI sp lg (ab fl n 0)) 1);unfold Kd;omega
theorem O7 {sp lg fl:List (List L)}{i:Int}(i0:0<=i):Kd sp lg fl (i+1).toNat=Kd sp lg fl i.toNat+clsSz (ab sp (dnI sp lg (ab fl i 0)) 1):=by
 obtain⟨k,rfl⟩:=Int.eq_ofNat_of_zero_le i0;rw[show((k:Int)+1).toNat=k+1 by omega,show(k:Int).toNat=k by omega];rfl
def JR (s:Int):Int:=if 0<=clsOf s then clsSz (clsOf s)else s
def Db (os:List (List L)):Nat->Int
 |0=>0
 |n+1=>Db os n+JR (ab os n 2)
theorem L2 {s:Int}(h:1<=s/\s<=1000):0<=JR s/\JR s<=1000:=by
 unfold JR;split
 ·have:=sv (k:=clsOf s);omega
 ·omega
theorem zP {os:List (List L)}(O:MY os):∀ {n:Nat},n<=os.length->0<=Db os n/\Db os n<=1000*n
 |0,_=>⟨Int.le_refl _,by show(0:Int)<=_;omega⟩
 | n+1,h=>by
   have:=zP O (n:=n) (by omega);have b:=O.b n (by omega) (by omega);have k:=L2 (s:=ab os n 2) (by omega);unfold Db;omega
theorem L3 {os:List (List L)}{i:Int}(i0:0<=i)(h:0<=clsOf (ab os i 2)):Db os (i+1).toNat=Db os i.toNat+clsSz (clsOf (ab os i 2)):=by
 obtain⟨k,rfl⟩:=Int.eq_ofNat_of_zero_le i0;rw[show((k:Int)+1).toNat=k+1 by omega,show(k:Int).toNat=k by omega];show Db os k+JR (ab os k 2)=_;unfold JR;rw[if_pos h]
theorem OO {os:List (List L)}{i:Int}(i0:0<=i)(h:¬ 0<=clsOf (ab os i 2)):Db os (i+1).toNat=Db os i.toNat+ab os i 2:=by
 obtain⟨k,rfl⟩:=Int.eq_ofNat_of_zero_le i0;rw[show((k:Int)+1).toNat=k+1 by omega,show(k:Int).toNat=k by omega];show Db os k+JR (ab os k 2)=_;unfold JR;rw[if_neg h]
end Go.V
namespace Go.V
theorem DW {k:Int}(h:inR k 0 3=true):clsSz k=1\/clsSz k=2\/clsSz k=4\/clsSz k=8:=by
 have:=bh.1 h;unfold clsSz;repeat' split<;>omega
theorem Hp {c d:Int}(hc:c=1\/c=2\/c=4\/c=8)(d0:0<=d)(d1:d<=15)(h:d%c=0):d+c<=16:=by
 rcases hc with rfl|rfl|rfl|rfl<;>omega
theorem L1 {es fr sp lg:List (List L)}{a s i:Int}(hl:layOk sp lg=true)(hp:pgI es fr sp lg=true)(h:okO sp lg a s=true)(i0:0<=i)(i1:i<s):0<=(a+i)/16/\(a+i)/16<es.length/\peM es ((a+i)/16)≠0:=by
 have F:=Bl hl;have T:=RE hp
 suffices h:0<=(a+i)/16/\(a+i)/16∈qX sp lg from⟨h.1,T.o _ h.2,(T.m _ h.1 (T.o _ h.2)).2 h.2⟩
 unfold okO at h;simp only[Bool.and_eq_true,Bool.or_eq_true,decide_eq_true_eq]at h;obtain⟨o,⟨k,c⟩|⟨k,c⟩⟩:=h
 ·obtain⟨e,q,l,t⟩:=D3 k;obtain⟨t1,t2,t3⟩:=oA.1 t;obtain⟨e1,e2⟩:=oB t;have hs:=fe t1;rw[e]at c;have b:=I4 (s:=s) (by have:=bh.1 hs.2.2.1;omega);rw[<-c]at b;have o':Kq sp a (eS sp a)=0:=by rw[<- (K1 (lg:=lg) q).2];exact o
  unfold Kq at o';rw[e2]at o';have fit:=Hp (DW hs.2.2.1) (by omega) (by omega) o';have p:(a+i)/16=ab sp (eS sp a) 0:=by omega
  rw[p];refine⟨hs.1,List.mem_append.2 (.inl (gQ.2 ⟨(eS sp a).toNat,by omega,?_⟩))⟩;rw[Int.toNat_of_nonneg q]
 ·have q:¬ 0<=eS sp a:=fun w=>by
   unfold dnK at k;rw[if_pos w]at k;split at k<;>omega
  have g:0<=j4 lg a:=by
   unfold dnK at k;rw[if_neg q]at k;by_cases w:0<=j4 lg a
   ·exact w
   ·rw[if_neg w]at k;omega
  have t:=dt g;change j4 lg a<lg.length/\uL lg a (j4 lg a)=true at t;have w:dnI sp lg a=j4 lg a:=by unfold dnI;rw[if_neg q,if_pos g]
  rw[w]at c;rw[(K0 q g).2]at o;obtain⟨tl,tt⟩:=t;unfold N9 loI at o;unfold uL at tt;rw[if_pos tt]at o;unfold lhB at tt;rw[Bool.and_eq_true]at tt;obtain⟨t1,t2,t3,t4⟩:=fH tt.1;have v:ab lg (j4 lg a) 1=(ab lg (j4 lg a) 2+15)/16:=by rw[t2];unfold pfN;rw[if_pos t1]
  refine⟨by omega,List.mem_append.2 (.inr (iQ.2 ⟨(j4 lg a).toNat,by omega,?_,?_⟩))⟩
  ·rw[Int.toNat_of_nonneg g];omega
  ·rw[Int.toNat_of_nonneg g];omega
end Go.V
namespace Go.V
def Rr (cs es:List (List L))(a:Int):Int:=ab (ay cs (peF es (a/16)) 0) (a%16) 0
def DO (cs es:List (List L))(a:Int):Nat->List (List L)
 |0=>[]
 |n+1=>DO cs es a n++[[.v (.int .i64 (Rr cs es (a+n)))]]
theorem vZ {cs es:List (List L)}{a:Int}:∀ n,(DO cs es a n).length=n
 |0=>rfl
 |n+1=>by rw[DO,List.length_append,vZ n];rfl
structure C7 (cs es:List (List L))(a i:Int)(o:List (List L)):Prop where
 e:o=DO cs es a i.toNat
theorem Na {cs es:List (List L)}{a:Int}:C7 cs es a 0 []:=⟨rfl⟩
theorem Nb {cs es o:List (List L)}{a i:Int}(h:C7 cs es a i o)(i0:0<=i):C7 cs es a (i+1) (o++[[.v (.int .i64 (Rr cs es (a+i)))]]):=⟨by
 rw[h.e,show(i+1).toNat=i.toNat+1 by omega,DO,Int.toNat_of_nonneg i0]⟩
theorem KW {cs es o:List (List L)}{a i s:Int}(h:C7 cs es a i o)(h0:i<=s\/i=0)(h1:s<=i):o=DO cs es a s.toNat:=by
 rw[h.e,show i.toNat=s.toNat by omega]
def ctsL (b:Bool)(os cs es:List (List L))(id:Int):List (List L):=if b=true/\0<=oiI os id then DO cs es (ab os (oiI os id) 1) (ab os (oiI os id) 2).toNat else[]
def ctsB (b:Bool)(os:List (List L))(id:Int):Bool:=b&&oiB os id
theorem AW {b:Bool}{os cs es:List (List L)}{id:Int}(h:b=false):ctsL b os cs es id=[]/\ctsB b os id=false:=by
 subst h;exact⟨if_neg (by simp),rfl⟩
theorem AX {b:Bool}{os cs es:List (List L)}{id:Int}(h:oiI os id<0):ctsL b os cs es id=[]/\ctsB b os id=false:=by
 refine⟨if_neg (by omega),?_⟩;unfold ctsB oiB;rw[decide_eq_false (by omega)];simp
theorem Hl {b:Bool}{os cs es:List (List L)}{id:Int}(h:b=true)(g:0<=oiI os id):ctsL b os cs es id=DO cs es (ab os (oiI os id) 1) (ab os (oiI os id) 2).toNat/\ctsB b os id=true:=by
 refine⟨if_pos ⟨h,g⟩,?_⟩;unfold ctsB oiB;rw[decide_eq_true g,h];rfl
structure Qb (cs es os:List (List L)):Prop where
 b:MY os
 f:∀ j:Int,0<=j->j<os.length->∀ i:Int,0<=i->i<ab os j 2->0<=peF es ((ab os j 1+i)/16)/\peF es ((ab os j 1+i)/16)<cs.length/\(ay cs (peF es ((ab os j 1+i)/16)) 0).length=16
theorem s8 {a0 a1 a2:List (List L)}{a3:Int}{a4 a5 a6 a7 a8 a9 a10 a11:List (List L)}{a12:Int}{a13:List (List L)}{a14 a15 a16 a17:Int}{a18:Bool}{a19 a20:Int}{a21:List (List L)}{a22 a23:Int}(w:Rw [tI,tI,tI,tI] a8)(l:a8.length<=1099511627776)(h:hpI a0 a1 a2 a3 a4 a5 a6 a7 a8 a9 a10 a11 a12 a13 a14 a15 a16 a17 a18 a19 a20 a21 a22 a23=true):Qb a0 a2 a8:=by
 have t:=oV h;have mk:machOk a0 a1 a2=true:=by have k:=t.k;unfold kerOk at k;simp only[Bool.and_eq_true]at k;first|exact k.1|exact k.1.1
 refine⟨zO w l h,fun j j0 j1 i i0 i1=>?_⟩;have o:=cE.1 t.o j j0 j1;unfold s7 at o;simp only[Bool.and_eq_true]at o;have m:=L1 t.l t.p o.2.2.2.2 i0 i1;have c:=Bq mk;have f:=BH c.2.1 m.2.2;exact⟨f.1,f.2.1,A1 c.1 f.1 f.2.1⟩
end Go.V
namespace Go.V
def K4 (a b:List (List L))(i:Int):Bool:=eqB (ab a i 0) (ab b i 0)
def eqR (a b:List (List L)):Bool:=decide (a.length=b.length)&&bM (K4 a b) a.length
theorem D6 {a b:List (List L)}(h:(a.length:Int)≠b.length):eqR a b=false:=by unfold eqR;rw[decide_eq_false (by omega)];rfl
theorem D7 {a b:List (List L)}{i:Int}(i0:0<=i)(i1:i<a.length)(h:ab a i 0≠ab b i 0):eqR a b=false:=by unfold eqR;rw[be (p:=K4 a b) i0 i1 (sD h)];simp
theorem D8 {a b:List (List L)}{i:Int}(h:(a.length:Int)=b.length)(u:upto (K4 a b) i)(g:(a.length:Int)<=i):eqR a b=true:=by unfold eqR;rw[decide_eq_true (by omega),aT u g];rfl
def CQ (E:Nat->Bool)(os:List (List L))(id:Int):Nat->Bool
 |0=>false
 |n+1=>if ab os n 0=id then E n else CQ E os id n
theorem Mh {E:Nat->Bool}{os:List (List L)}{id i:Int}(i0:0<=i)(h:ab os i 0=id):CQ E os id (i+1).toNat=E i.toNat:=by
 rw[show(i+1).toNat=i.toNat+1 by omega,CQ,Int.toNat_of_nonneg i0,if_pos h]
theorem Mi {E:Nat->Bool}{os:List (List L)}{id i:Int}(i0:0<=i)(h:ab os i 0≠id):CQ E os id (i+1).toNat=CQ E os id i.toNat:=by
 rw[show(i+1).toNat=i.toNat+1 by omega,CQ,Int.toNat_of_nonneg i0,if_neg h]
theorem B7 {E:Nat->Bool}{os:List (List L)}{id:Int}:∀ n:Nat,(∀ j:Nat,j<n->ab os j 0≠id)->CQ E os id n=false
 |0,_=>rfl
 |n+1,h=>by rw[CQ,if_neg (h n (by omega))];exact B7 n (fun j hj=>h j (by omega))
theorem Gc {E:Nat->Bool}{os:List (List L)}{id:Int}{i:Nat}(hi:ab os i 0=id):∀ n:Nat,i<n->(∀ j:Nat,i<j->j<n->ab os j 0≠id)->CQ E os id n=E i
 |0,h,_=>absurd h (by omega)
 | n+1,h,g=>by
   by_cases c:i=n
   ·subst c;rw[CQ,if_pos hi]
   ·rw[CQ,if_neg (g n (by omega) (by omega))];exact Gc hi n (by omega) (fun j j0 j1=>g j j0 (by omega))
theorem Mg {E:Nat->Bool}{sp lg os cs:List (List L)}{nx id:Int}(h:objOk sp lg os cs nx=true):CQ E os id os.length=(oiB os id&&E (oiI os id).toNat):=by
 have uniq:∀ i j:Nat,i<j->j<os.length->ab os i 0≠ab os j 0:=fun i j hi hj e=>by
  have t:=cg h j hj;unfold s7 at t;simp only[Bool.and_eq_true,Bool.not_eq_true']at t;have n:=t.2.2.2.1;unfold oiB at n;have n':=of_decide_eq_false n;have g:=gz (p:=jB (os.take (j:Int).toNat) (ab os j 0)) (n:=(os.take (j:Int).toNat).length) (i:=i) (by rw[List.length_take];omega) (by
   refine js ?_;rw[<-e];unfold ab;simp only[List.getD_eq_getElem?_getD,Int.toNat_natCast];rw[List.getElem?_take_of_lt hi])
  exact n' g
 unfold oiB;by_cases c:0<=oiI os id
 ·have f:=dt c;change oiI os id<os.length/\jB os id (oiI os id)=true at f;have e:ab os (oiI os id) 0=id:=of_decide_eq_true f.2;rw[decide_eq_true c,Bool.true_and];refine Gc (i:=(oiI os id).toNat) (by rw[Int.toNat_of_nonneg c];exact e) _ (by omega) (fun j j0 j1 q=>?_);refine uniq (oiI os id).toNat j j0 j1 ?_;rw[Int.toNat_of_nonneg c,e,q]
 ·rw[decide_eq_false c,Bool.false_and];exact B7 _ (fun j hj q=>c (gz hj (js q)))
end Go.V
namespace Go.V
def qI (k b:Int):Nat->List (List L)
 |0=>[]
 |n+1=>if hsB b ((n:Int)/clsSz k)=true then qI k b n++[[.v (.int .i64 n)]]else qI k b n
def sclL (p k b:Int):List (List L):=if spOk p k b=true then qI k b 16 else[]
theorem mU {k b:Int}:∀ n:Nat,(qI k b n).length<=n
 |0=>Nat.le_refl _
 | n+1=>by
   have:=mU (k:=k) (b:=b) n;unfold qI;split
   ·rw[List.length_append];show _+1<=_;omega
   ·omega
theorem tD {p k b:Int}:(sclL p k b).length<=16:=by unfold sclL;split;exact mU 16;exact Nat.zero_le _
structure pk (k b i:Int)(o:List (List L)):Prop where
 e:o=qI k b i.toNat
theorem Ge {k b:Int}:pk k b 0 []:=⟨rfl⟩
theorem yr {k b i:Int}{o:List (List L)}(h:pk k b i o)(i0:0<=i)(g:hsB b (i/clsSz k)=true):pk k b (i+1) (o++[[.v (.int .i64 i)]]):=⟨by
 rw[h.e,show(i+1).toNat=i.toNat+1 by omega,qI,Int.toNat_of_nonneg i0,if_pos g]⟩
theorem Cj {k b i:Int}{o:List (List L)}(h:pk k b i o)(i0:0<=i)(g:hsB b (i/clsSz k)=false):pk k b (i+1) o:=⟨by
 rw[h.e,show(i+1).toNat=i.toNat+1 by omega,qI,Int.toNat_of_nonneg i0,g];rfl⟩
theorem Ko {p k b:Int}(h:spOk p k b=false):sclL p k b=[]:=by unfold sclL;rw[h];rfl
theorem Cg {p k b i:Int}{o:List (List L)}(h:pk k b i o)(s:spOk p k b=true)(i0:i<=16)(i1:16<=i):o=sclL p k b:=by
 have:i=16:=by omega
 subst this;rw[h.e];unfold sclL;rw[if_pos s];rfl
theorem sW {k b c:Int}:∀ n:Nat,hasB (qI k b n) c=true↔0<=c/\c<n/\hsB b (c/clsSz k)=true
 |0=>⟨fun h=>absurd (sL.1 h) (List.not_mem_nil),fun h=>by omega⟩
 | n+1=>by
   have ih:=sW (k:=k) (b:=b) (c:=c) n;unfold qI;by_cases g:hsB b ((n:Int)/clsSz k)=true
   ·rw[if_pos g,A2,Bool.or_eq_true,ih,A3]
    constructor
    ·rintro(⟨a,b,q⟩|rfl)
     ·exact⟨a,by omega,q⟩
     ·exact⟨by omega,by omega,g⟩
    ·rintro⟨a,b,q⟩;by_cases e:(n:Int)=c
     ·exact .inr e
     ·exact .inl ⟨a,by omega,q⟩
   ·rw[if_neg g,ih]
    constructor
    ·rintro⟨a,b,q⟩;exact⟨a,by omega,q⟩
    ·rintro⟨a,b,q⟩;refine⟨a,?_,q⟩;by_cases e:(n:Int)=c
     ·subst e;exact absurd q g
     ·omega
def GR (sp:List (List L)):Nat->Int
 |0=>0
 |n+1=>GR sp n+(sclL (ab sp n 0) (ab sp n 1) (ab sp n 2)).length
def HI (lg:List (List L)):Nat->Int
 |0=>0
 |n+1=>HI lg n+ab lg n 2
def lcI (sp lg:List (List L)):Int:=if layOk sp lg=true then GR sp sp.length+HI lg lg.length else 0
theorem Ad {sp:List (List L)}:∀ n:Nat,0<=GR sp n/\GR sp n<=16*n
 |0=>⟨Int.le_refl _,by show(0:Int)<=_;omega⟩
 | n+1=>by
   have:=Ad (sp:=sp) n;have b:=tD (p:=ab sp n 0) (k:=ab sp n 1) (b:=ab sp n 2);unfold GR;omega
theorem EN {sp lg:List (List L)}(F:GK sp lg):∀ n:Nat,n<=lg.length->0<=HI lg n/\HI lg n<=1000*n
 |0,_=>⟨Int.le_refl _,by show(0:Int)<=_;omega⟩
 | n+1,h=>by
   have:=EN F n (by omega);have b:=bh.1 (fH (F.l n (by omega))).1;unfold HI;omega
theorem Mm {sp:List (List L)}{i:Int}(i0:0<=i):GR sp (i+1).toNat=GR sp i.toNat+(sclL (ab sp i 0) (ab sp i 1) (ab sp i 2)).length:=by
 rw[show(i+1).toNat=i.toNat+1 by omega,GR,Int.toNat_of_nonneg i0]
theorem LB {lg:List (List L)}{i:Int}(i0:0<=i):HI lg (i+1).toNat=HI lg i.toNat+ab lg i 2:=by
 rw[show(i+1).toNat=i.toNat+1 by omega,HI,Int.toNat_of_nonneg i0]
theorem Jy {sp lg:List (List L)}(h:layOk sp lg=false):lcI sp lg=0:=by unfold lcI;rw[h];rfl
def ze (ls:List (List L)):Nat->Int
 |0=>0
 |n+1=>ze ls n+(ay ls n 0).length*clsSz n
end Go.V
namespace Go.V
structure tZ (f:Int->Bool)(o:List (List L)):Prop where
 w:Rw [tB] o
 l:o.length=16
 v:∀ c:Int,0<=c->c<16->jD o c 0=f c
theorem mH {f g:Int->Bool}{o:List (List L)}(h:tZ f o)(e:∀ c:Int,0<=c->c<16->f c=g c):tZ g o:=⟨h.w,h.l,fun c c0 c1=>(h.v c c0 c1).trans (e c c0 c1)⟩
theorem Hs {es:List (List L)}{n i:Int}{r:(List L)}(h0:0<=n)(h1:n<es.length)(hi:0<=i):jD (es.set n.toNat r) i 0=if i=n then QD (r.getD 0 .g)else jD es i 0:=by
 unfold jD;simp only[List.getD_eq_getElem?_getD,List.getElem?_set];by_cases c:i=n
 ·subst c;rw[if_pos rfl,if_pos (by omega),if_pos rfl];rfl
 ·rw[if_neg (by omega),if_neg c]
theorem E6 {f:Int->Bool}{o:List (List L)}{n:Int}{b:Bool}(h:tZ f o)(h0:0<=n)(h1:n<16):tZ (fun c=>if c=n then b else f c) (o.set n.toNat [.v (.bool b)]):=by
 have l:=h.l;refine⟨⟨by rw[List.length_set];exact h.w.1,fun e he=>?_⟩,by rw[List.length_set,l],fun c c0 c1=>?_⟩
 ·rcases List.mem_or_eq_of_mem_set he with q|q
  ·exact h.w.2 e q
  ·subst q;exact⟨trivial,trivial⟩
 ·rw[Hs h0 (by omega) c0];by_cases q:c=n
  ·rw[if_pos q,if_pos q];rfl
  ·rw[if_neg q,if_neg q];exact h.v c c0 c1
def LO (f:Int->Bool)(x:List (List L))(i c:Int):Bool:=f c||hasB (x.take i.toNat) c
theorem Ou {f:Int->Bool}{x o:List (List L)}(h:tZ f o):tZ (LO f x 0) o:=mH h (fun c _ _=>by
 unfold LO;have:hasB (x.take (0:Int).toNat) c=false:=by
  cases q:hasB (x.take (0:Int).toNat) c with
  |false=>rfl
  |true=>obtain⟨k,hk,_⟩:=jt.1 q;simp at hk
 rw[this];simp)
theorem sM {x:List (List L)}{i c:Int}(i0:0<=i):hasB (x.take i.toNat) c=true↔∃ k:Nat,(k:Int)<i/\k<x.length/\ab x k 0=c:=by
 rw[jt];have g:∀ k:Nat,(k:Int)<i->ab (x.take i.toNat) k 0=ab x k 0:=fun k hk=>by
  unfold ab;simp only[List.getD_eq_getElem?_getD,Int.toNat_natCast];rw[List.getElem?_take_of_lt (by omega)]
 constructor
 ·rintro⟨k,hk,e⟩;rw[List.length_take]at hk;exact⟨k,by omega,by omega,by rw[<-g k (by omega)];exact e⟩
 ·rintro⟨k,hk,hl,e⟩;exact⟨k,by rw[List.length_take];omega,by rw[g k hk];exact e⟩
theorem LP {f:Int->Bool}{x o:List (List L)}{i:Int}(h:tZ (LO f x i) o)(i0:0<=i)(i1:i<x.length)(c0:0<=ab x i 0)(c1:ab x i 0<16):tZ (LO f x (i+1)) (o.set (ab x i 0).toNat [.v (.bool true)]):=mH (E6 h c0 c1) (fun c _ _=>by
 unfold LO;rw[Bool.eq_iff_iff];by_cases q:c=ab x i 0
 ·rw[if_pos q];have:hasB (x.take (i+1).toNat) c=true:=(sM (by omega)).2 ⟨i.toNat,by omega,by omega,by rw[Int.toNat_of_nonneg i0];exact q.symm⟩;rw[this];simp
 ·rw[if_neg q,Bool.or_eq_true,Bool.or_eq_true,sM i0,sM (by omega)]
  constructor
  ·rintro(a|⟨k,hk,r⟩)
   ·exact .inl a
   ·exact .inr ⟨k,by omega,r⟩
  ·rintro(a|⟨k,hk,hl,e⟩)
   ·exact .inl a
   ·by_cases z:(k:Int)=i
    ·rw[z]at e;exact absurd e.symm q
    ·exact .inr ⟨k,by omega,hl,e⟩)
def GQ (f g:Int->Bool)(i c:Int):Bool:=f c||(decide (c<i)&&g c)
theorem Ov {f g:Int->Bool}{o:List (List L)}(h:tZ f o):tZ (GQ f g 0) o:=mH h (fun c c0 _=>by unfold GQ;rw[decide_eq_false (by omega)];simp)
theorem Bs {f g:Int->Bool}{o:List (List L)}{i:Int}{b:Bool}(h:tZ (GQ f g i) o)(i0:0<=i)(i1:i<16)(e:b=(f i||g i)):tZ (GQ f g (i+1)) (o.set i.toNat [.v (.bool b)]):=mH (E6 h i0 i1) (fun c _ _=>by
 unfold GQ;by_cases q:c=i
 ·subst q;rw[if_pos rfl,e,decide_eq_true (by omega)];simp
 ·rw[if_neg q];by_cases z:c<i
  ·rw[decide_eq_true z,decide_eq_true (by omega)]
  ·rw[decide_eq_false z,decide_eq_false (by omega)])
theorem E5 {f g:Int->Bool}{o:List (List L)}{i:Int}(h:tZ (GQ f g i) o)(i0:0<=i)(i1:i<16):jD o i 0=f i:=by
 rw[h.v i i0 i1];unfold GQ;rw[decide_eq_false (by omega)];simp
theorem HR {f g:Int->Bool}{o:List (List L)}{i:Int}(h:tZ (GQ f g i) o)(i1:16<=i):tZ (fun c=>f c||g c) o:=mH h (fun c _ c1=>by unfold GQ;rw[decide_eq_true (by omega),Bool.true_and])
def HL (es sp:List (List L))(p:Int):Nat->Int->Bool
 |0,_=>false
 |n+1,c=>HL es sp p n c||(hasB (fpg es p) (ab sp n 0)&&hasB (sclL (ab sp n 0) (ab sp n 1) (ab sp n 2)) c)
def EZ (es sp lg:List (List L))(p:Int):Nat->Int->Bool
 |0,c=>HL es sp p sp.length c
 |n+1,c=>EZ es sp lg p n c||lhB (ab lg n 0) (ab lg n 1) (ab lg n 2) (p*16+c)
theorem Bo {es sp:List (List L)}{p c:Int}:∀ n:Nat,HL es sp p n c=true↔∃ j:Nat,j<n/\hasB (fpg es p) (ab sp j 0)=true/\hasB (sclL (ab sp j 0) (ab sp j 1) (ab sp j 2)) c=true
 |0=>⟨(fun h=>by cases h),fun⟨j,h,_⟩=>absurd h (by omega)⟩
 | n+1=>by
   rw[HL,Bool.or_eq_true,Bo n,Bool.and_eq_true]
   constructor
   ·rintro(⟨j,h,q⟩|h)
    ·exact⟨j,by omega,q⟩
    ·exact⟨n,by omega,h⟩
   ·rintro⟨j,h,q⟩;by_cases e:j=n
    ·subst e;exact .inr q
    ·exact .inl ⟨j,by omega,q⟩
theorem Bn {es sp lg:List (List L)}{p c:Int}:∀ n:Nat,EZ es sp lg p n c=true↔HL es sp p sp.length c=true\/∃ j:Nat,j<n/\lhB (ab lg j 0) (ab lg j 1) (ab lg j 2) (p*16+c)=true
 |0=>⟨.inl,fun h=>h.elim id (fun⟨j,h,_⟩=>absurd h (by omega))⟩
 | n+1=>by
   rw[EZ,Bool.or_eq_true,Bn n]
   constructor
   ·rintro((h|⟨j,h,q⟩)|h)
    ·exact .inl h
    ·exact .inr ⟨j,by omega,q⟩
    ·exact .inr ⟨n,by omega,h⟩
   ·rintro(h|⟨j,h,q⟩)
    ·exact .inl (.inl h)
    ·by_cases e:j=n
     ·subst e;exact .inr q
     ·exact .inl (.inr ⟨j,by omega,q⟩)
theorem E0 {es sp lg:List (List L)}{p c:Int}(hl:layOk sp lg=true)(c0:0<=c)(c1:c<16):EZ es sp lg p lg.length c=true↔Ig es sp lg p c:=by
 rw[Bn,Bo];unfold Ig;have F:=Bl hl;have e:∀ j:Nat,j<sp.length->(hasB (sclL (ab sp j 0) (ab sp j 1) (ab sp j 2)) c=true↔hsB (ab sp j 2) (c/clsSz (ab sp j 1))=true):=fun j hj=>by
  unfold sclL;rw[if_pos (F.s j hj),sW];exact⟨fun h=>h.2.2,fun h=>⟨c0,by omega,h⟩⟩
 constructor
 ·rintro(⟨j,hj,h,q⟩|h)
  ·exact .inl ⟨j,hj,h,(e j hj).1 q⟩
  ·exact .inr h
 ·rintro(⟨j,hj,h,q⟩|h)
  ·exact .inl ⟨j,hj,h,(e j hj).2 q⟩
  ·exact .inr h
end Go.V
namespace Go.V
theorem Hh {ls:List (List L)}(h:caOk ls=true):ls.length=4/\∀ n:Nat,n<4->(ay ls n 0).length<=8:=by
 unfold caOk at h;simp only[Bool.and_eq_true,decide_eq_true_eq]at h;refine⟨h.1,fun n hn=>?_⟩;have t:=cE.1 h.2.1 n (by omega) (by omega);unfold IQ at t;simp only[Bool.and_eq_true,decide_eq_true_eq]at t;exact t.1
def ceC (ls:List (List L)):Int:=if caOk ls=true then ze ls ls.length else 0
theorem DI {ls:List (List L)}(h:caOk ls=true){n:Nat}(hn:n<4):0<=((ay ls n 0).length:Int)*clsSz n/\((ay ls n 0).length:Int)*clsSz n<=64:=by
 have l:=(Hh h).2 n hn;have k:=sv (k:=(n:Int));have m:((ay ls n 0).length:Int)*clsSz n<=8*8:=Int.mul_le_mul (by omega) k.2 k.1 (by omega);exact⟨Int.mul_nonneg (by omega) k.1,m⟩
theorem zf {ls:List (List L)}(h:caOk ls=true):∀ n:Nat,n<=4->0<=ze ls n/\ze ls n<=64*n
 |0,_=>⟨Int.le_refl _,by show(0:Int)<=_;omega⟩
 | n+1,hn=>by
   have:=zf h n (by omega);have m:=DI h (n:=n) (by omega);unfold ze;omega
structure vD (ls:List (List L))(i t:Int):Prop where
 e:t=ze ls i.toNat
theorem I1 {ls:List (List L)}:vD ls 0 0:=⟨rfl⟩
theorem DJ {ls:List (List L)}{i t:Int}(h:vD ls i t)(c:caOk ls=true)(i0:0<=i)(i1:i<ls.length):vD ls (i+1) (aV .add .i64 t (aV .mul .i64 (ay ls i 0).length (clsSz i))):=by
 obtain⟨k,rfl⟩:=Int.eq_ofNat_of_zero_le i0;have l:=(Hh c).1;have b:=zf c k (by omega);have m:=DI c (n:=k) (by omega);have e:=h.e;rw[show(k:Int).toNat=k by omega]at e;refine⟨?_⟩;rw[show aV .mul .i64 ((ay ls k 0).length:Int) (clsSz k)=((ay ls k 0).length:Int)*clsSz k from IntWalk.i64_in _ (by omega),aB (by omega),show((k:Int)+1).toNat=k+1 by omega,ze,e]
theorem AK {ls:List (List L)}{i t:Int}(h:vD ls i t)(c:caOk ls=true)(i1:i<=ls.length)(i2:(ls.length:Int)<=i):t=ceC ls:=by
 rw[h.e];unfold ceC;rw[if_pos c,show i.toNat=ls.length by omega]
theorem I0 {ls:List (List L)}(c:caOk ls=false):ceC ls=0:=by unfold ceC;rw[c];rfl
theorem AL {ls:List (List L)}{i t:Int}(h:vD ls i t)(g:i=0\/caOk ls=true)(i1:i<=ls.length)(x:(ls.length:Int)<=i\/caOk ls=false):t=ceC ls:=by
 rcases g with rfl|g
 ·have z:t=0:=h.e;cases c:caOk ls with
  |false=>rw[z,I0 c]
  | true=>
    have l:=(Hh c).1;rcases x with x|x
    ·omega
    ·rw[c]at x;cases x
 ·rcases x with x|x
  ·exact AK h g i1 x
  ·rw[g]at x;cases x
theorem DK {ls:List (List L)}:0<=ceC ls/\ceC ls<=256:=by
 unfold ceC;split
 ·rename_i c;have l:=(Hh c).1;have b:=zf c ls.length (by omega);omega
 ·omega
def KQ (cs:List (List L)):Nat->Int
 |0=>0
 |n+1=>KQ cs n+ceC (ay cs n 0)
def acT (cs:List (List L)):Int:=KQ cs cs.length
theorem Dh {cs:List (List L)}:∀ n:Nat,0<=KQ cs n/\KQ cs n<=256*n
 |0=>⟨Int.le_refl _,by show(0:Int)<=_;omega⟩
 | n+1=>by
   have:=Dh (cs:=cs) n;have b:=DK (ls:=ay cs n 0);unfold KQ;omega
structure Iw (cs:List (List L))(i t:Int):Prop where
 e:t=KQ cs i.toNat
theorem IL {cs:List (List L)}:Iw cs 0 0:=⟨rfl⟩
theorem Di {cs:List (List L)}{i t:Int}(h:Iw cs i t)(i0:0<=i)(i1:i<=1099511627776):Iw cs (i+1) (aV .add .i64 t (ceC (ay cs i 0))):=by
 obtain⟨k,rfl⟩:=Int.eq_ofNat_of_zero_le i0;have b:=Dh (cs:=cs) k;have m:=DK (ls:=ay cs k 0);have e:=h.e;rw[show(k:Int).toNat=k by omega]at e;refine⟨?_⟩;rw[aB (by omega),show((k:Int)+1).toNat=k+1 by omega,KQ,e]
theorem AD {cs:List (List L)}{i t:Int}(h:Iw cs i t)(i1:i<=cs.length)(i2:(cs.length:Int)<=i):t=acT cs:=by
 rw[h.e];unfold acT;rw[show i.toNat=cs.length by omega]
def ocT (os:List (List L)):Int:=Db os os.length
structure GL (os:List (List L))(i t:Int):Prop where
 e:t=Db os i.toNat
theorem JS {os:List (List L)}:GL os 0 0:=⟨rfl⟩
theorem BC {os:List (List L)}{i t:Int}(O:MY os)(l:os.length<=1073741824)(h:GL os i t)(i0:0<=i)(i1:i<os.length)(g:0<=clsOf (ab os i 2)):GL os (i+1) (aV .add .i64 t (clsSz (clsOf (ab os i 2)))):=by
 have b:=zP O (n:=i.toNat) (by omega);have k:=sv (k:=clsOf (ab os i 2));have e:=h.e;refine⟨?_⟩;rw[aB (by omega),L3 i0 g,e]
theorem Fo {os:List (List L)}{i t:Int}(O:MY os)(l:os.length<=1073741824)(h:GL os i t)(i0:0<=i)(i1:i<os.length)(g:¬ 0<=clsOf (ab os i 2)):GL os (i+1) (aV .add .i64 t (ab os i 2)):=by
 have b:=zP O (n:=i.toNat) (by omega);have k:=O.b i i0 i1;have e:=h.e;refine⟨?_⟩;rw[aB (by omega),OO i0 g,e]
theorem BB {os:List (List L)}{i t:Int}(h:GL os i t)(i1:i<=os.length)(i2:(os.length:Int)<=i):t=ocT os:=by
 rw[h.e];unfold ocT;rw[show i.toNat=os.length by omega]
def poT (sp lg b x:List (List L)):Int:=Kd sp lg (ifL b x) (ifL b x).length
structure IF (sp lg fl:List (List L))(i t:Int):Prop where
 e:t=Kd sp lg fl i.toNat
theorem Kf {sp lg fl:List (List L)}:IF sp lg fl 0 0:=⟨rfl⟩
theorem FQ {sp lg fl:List (List L)}{i t:Int}(h:IF sp lg fl i t)(i0:0<=i)(i1:i<=30):IF sp lg fl (i+1) (aV .add .i64 t (clsSz (ab sp (dnI sp lg (ab fl i 0)) 1))):=by
 have b:=FP (sp:=sp) (lg:=lg) (fl:=fl) (n:=i.toNat);have k:=sv (k:=ab sp (dnI sp lg (ab fl i 0)) 1);have e:=h.e;refine⟨?_⟩;rw[aB (by omega),O7 i0,e]
theorem BN {sp lg b x:List (List L)}{i t:Int}(h:IF sp lg (ifL b x) i t)(i1:i<=(ifL b x).length)(i2:((ifL b x).length:Int)<=i):t=poT sp lg b x:=by
 rw[h.e];unfold poT;rw[show i.toNat=(ifL b x).length by omega]
theorem Ke {sp lg os cs b x qs:List (List L)}{c:Int}(F:GK sp lg)(h:hoI sp lg os cs b x qs c=true){j:Int}(j0:0<=j)(j1:j<(ifL b x).length):
 0<=dnI sp lg (ab (ifL b x) j 0)/\dnI sp lg (ab (ifL b x) j 0)<sp.length/\spI sp (aV .quo .i64 (ab (ifL b x) j 0) 16)=dnI sp lg (ab (ifL b x) j 0)/\
  -9223372036854775808<=ab (ifL b x) j 0/\ab (ifL b x) j 0<=9223372036854775807:=by
 have t:=Hr h j0 j1;obtain⟨e,q,l,s⟩:=D3 t;obtain⟨s1,s2,s3⟩:=oA.1 s;have r:=fe s1;rw[show aV .quo .i64 (ab (ifL b x) j 0) 16=ab (ifL b x) j 0/16 from k8 (by omega) (by omega) (by omega),PS F t];exact⟨by omega,by omega,rfl,by omega,by omega⟩
theorem Ch {k b i:Int}{o:List (List L)}(h:pk k b i o)(i0:0<=i):(o.length:Int)<=i:=by
 rw[h.e];have:=mU (k:=k) (b:=b) i.toNat;omega
theorem Ci {p k b i:Int}{o:List (List L)}(h:pk k b i o)(g:i=0\/spOk p k b=true)(i1:i<=16)(x:16<=i\/spOk p k b=false):o=sclL p k b:=by
 cases c:spOk p k b with
 | true=>
   rcases x with x|x
   ·exact Cg h c i1 x
   ·rw[c]at x;cases x
 | false=>
   rcases g with rfl|g
   ·rw[Ko c];exact h.e
   ·rw[c]at g;cases g
structure xF (sp:List (List L))(i t:Int):Prop where
 e:t=GR sp i.toNat
theorem Kp {sp:List (List L)}:xF sp 0 0:=⟨rfl⟩
theorem Gf {sp:List (List L)}{i t:Int}(h:xF sp i t)(i0:0<=i)(i1:i<=1099511627776):xF sp (i+1) (aV .add .i64 t ((sclL (ab sp i 0) (ab sp i 1) (ab sp i 2)).length:Int)):=by
 have b:=Ad (sp:=sp) i.toNat;have l:=tD (p:=ab sp i 0) (k:=ab sp i 1) (b:=ab sp i 2);have e:=h.e;refine⟨?_⟩;rw[aB (by omega),Mm i0,e]
structure xD (sp lg:List (List L))(i t:Int):Prop where
 e:t=GR sp sp.length+HI lg i.toNat
theorem JC {sp lg:List (List L)}{i t:Int}(h:xF sp i t)(i1:i<=sp.length)(i2:(sp.length:Int)<=i):xD sp lg 0 t:=⟨by
 rw[h.e,show i.toNat=sp.length by omega];show _=_+(0:Int);omega⟩
theorem ES {sp lg:List (List L)}{i t:Int}(h:xD sp lg i t)(F:GK sp lg)(i0:0<=i)(i1:i<lg.length)(ns:sp.length<=1073741824)(nl:lg.length<=1073741824):xD sp lg (i+1) (aV .add .i64 t (ab lg i 2)):=by
 have b:=Ad (sp:=sp) sp.length;have c:=EN F i.toNat (by omega);have d:=bh.1 (fH (F.l i.toNat (by omega))).1;rw[Int.toNat_of_nonneg i0]at d;have e:=h.e;refine⟨?_⟩;rw[aB (by omega),LB i0,e];omega
theorem Bi {sp lg:List (List L)}{i t:Int}(h:xD sp lg i t)(c:layOk sp lg=true)(i1:i<=lg.length)(i2:(lg.length:Int)<=i):t=lcI sp lg:=by
 rw[h.e];unfold lcI;rw[if_pos c,show i.toNat=lg.length by omega]
def ifZ (b:Bool)(x:Int):Int:=if b=true then x else 0
def zlI (es:List (List L)):Int:=es.length
theorem fS {b:Bool}{x:Int}(h:b=true):ifZ b x=x:=by unfold ifZ;rw[if_pos h]
theorem fR {b:Bool}{x:Int}(h:b=false):ifZ b x=0:=by subst h;rfl
theorem AC {a b c d e f g h a' b' c' d' e' f' g' h':Int}(q1:a=a')(q2:b=b')(q3:c=c')(q4:d=d')(q5:e=e')(q6:f=f')(q7:g=g')(q8:h=h'):
 [DV.agg [.v (.int .i64 a),.v (.int .i64 b),.v (.int .i64 c),.v (.int .i64 d),.v (.int .i64 e),.v (.int .i64 f),.v (.int .i64 g),.v (.int .i64 h)]]=
  [DV.agg [.v (.int .i64 a'),.v (.int .i64 b'),.v (.int .i64 c'),.v (.int .i64 d'),.v (.int .i64 e'),.v (.int .i64 f'),.v (.int .i64 g'),.v (.int .i64 h')]]:=by
 rw[q1,q2,q3,q4,q5,q6,q7,q8]
end Go.V
namespace Go.V
def clL (cs es:List (List L))(a n:Int):List (List L):=DO cs es a n.toNat
structure Ix (cs es:List (List L))(a n:Int):Prop where
 b:0<=a/\a<=2000/\1<=n/\n<=1000
 f:∀ i:Int,0<=i->i<n->0<=peF es ((a+i)/16)/\peF es ((a+i)/16)<cs.length/\(ay cs (peF es ((a+i)/16)) 0).length=16
theorem vX {cs es os:List (List L)}(O:Qb cs es os){j:Int}(j0:0<=j)(j1:j<os.length):Ix cs es (ab os j 1) (ab os j 2):=
 ⟨by have:=O.b.b j j0 j1;omega,O.f j j0 j1⟩
theorem I2 {cs es:List (List L)}{a n i:Int}(C:Ix cs es a n)(i0:0<=i)(i1:i<n):aV .add .i64 a i=a+i/\aV .quo .i64 (aV .add .i64 a i) 16=(a+i)/16/\aV .rem .i64 (aV .add .i64 a i) 16=(a+i)%16/\
 0<=(a+i)%16/\(a+i)%16<16/\0<=a+i/\a+i<=3000:=by
 have b:=C.b;have e:aV .add .i64 a i=a+i:=aB (by omega);rw[e];exact⟨rfl,k8 (by omega) (by omega) (by omega),BV (by omega),by omega,by omega,by omega,by omega⟩
theorem DR {cs es o:List (List L)}{a i:Int}(h:C7 cs es a i o)(i0:0<=i):C7 cs es a (i+1) (o++[[.v (.int .i64 (ab (ay cs (peF es ((a+i)/16)) 0) ((a+i)%16) 0))]]):=Nb h i0
theorem AQ {cs es o:List (List L)}{a i:Int}(h:C7 cs es a i o)(i0:0<=i):(o.length:Int)=i:=by rw[h.e,vZ];omega
theorem AP {cs es o:List (List L)}{a i n:Int}(h:C7 cs es a i o)(i0:i<=n)(i1:n<=i):o=clL cs es a n:=KW h (.inl i0) i1
theorem DN {cs es:List (List L)}{a n:Int}(hw:Rw [.sl [tI]] cs)(C:Ix cs es a n):Rw [tI] (clL cs es a n)/\(clL cs es a n).length<=1000:=by
 have b:=C.b;have l:(clL cs es a n).length<=1000:=by unfold clL;rw[vZ];omega
 refine⟨⟨by unfold maxLen;omega,?_⟩,l⟩;have q:∀ m:Nat,(m:Int)<=n->∀ e∈DO cs es a m,bS [tI] e:=by
  intro m
  induction m with
  |zero=>intro _ e h;cases h
  | succ m ih=>
    intro hm e h;rw[DO,List.mem_append]at h;rcases h with h|h
    ·exact ih (by omega) e h
    ·simp only[List.mem_singleton]at h;subst h;have f:=C.f m (by omega) (by omega);have g:=sH (j:=0) (i:=(a+m)%16) (Rw.sub (fs:=[.sl [tI]]) (j:=0) hw (i:=peF es ((a+m)/16)) (by omega) rfl) rfl (by omega);exact⟨⟨rfl,g⟩,trivial⟩
 exact q _ (by omega)
theorem nW {a a':List (List L)}{b b':Bool}(h:a=a')(h':b=b'):[DV.one (.s 1 a),DV.one (.v (.bool b))]=[DV.one (.s 1 a'),DV.one (.v (.bool b'))]:=by rw[h,h']
theorem Fq {os:List (List L)}{id i:Int}(u:upto (bV (jB os id)) i)(i0:0<=i)(i1:i<os.length)(h:ab os i 0=id):oiI os id=i:=dm u i0 i1 (js h)
theorem HZ {os:List (List L)}{id i:Int}(u:upto (bV (jB os id)) i)(i1:(os.length:Int)<=i):oiI os id<0:=by
 have q:oiI os id= -1:=dn u (by omega);omega
theorem JU {os:List (List L)}{id:Int}(h:0<=oiI os id):oiI os id<os.length:=(dt (p:=jB os id) h).1
theorem zm {os cs es:List (List L)}{id:Int}(g:0<=oiI os id):clL cs es (ab os (oiI os id) 1) (ab os (oiI os id) 2)=ctsL true os cs es id/\true=ctsB true os id:=
 have q:=Hl (b:=true) (os:=os) (cs:=cs) (es:=es) rfl g
 ⟨q.1.symm,q.2.symm⟩
theorem D2 {b:Bool}{os cs es:List (List L)}{id:Int}(hw:Rw [.sl [tI]] cs)(O:b=true->Qb cs es os):Rw [tI] (ctsL b os cs es id)/\(ctsL b os cs es id).length<=1000:=by
 unfold ctsL;split
 ·rename_i h;exact DN hw (vX (O h.1) h.2 (JU h.2))
 ·exact⟨Rw.nil,Nat.zero_le _⟩
def Ac (b:Bool)(os cs es ros:List (List L))(i:Int):Bool:=ctsB b os (ab ros i 0)&&eqR (ctsL b os cs es (ab ros i 0)) (ay ros i 1)
def rsI (b:Bool)(nx rn:Int)(os cs es ros:List (List L)):Bool:=b&&(decide (nx=rn)&&(decide (os.length=ros.length)&&bM (Ac b os cs es ros) ros.length))
section
variable {b : Bool} {nx rn : Int} {os cs es ros : List (List L)}
theorem B8 (h:b=false):rsI b nx rn os cs es ros=false:=by subst h;rfl
theorem B9 (h:nx≠rn):rsI b nx rn os cs es ros=false:=by unfold rsI;rw[decide_eq_false h];simp
theorem Ca (h:(os.length:Int)≠ros.length):rsI b nx rn os cs es ros=false:=by unfold rsI;rw[decide_eq_false (p:=os.length=ros.length) (by omega)];simp
theorem wJ {i:Int}(i0:0<=i)(i1:i<ros.length)(h:Ac b os cs es ros i=false):rsI b nx rn os cs es ros=false:=by unfold rsI;rw[be i0 i1 h];simp
theorem Cb {i:Int}(h:b=true)(h2:nx=rn)(h3:(os.length:Int)=ros.length)(u:upto (Ac b os cs es ros) i)(g:(ros.length:Int)<=i):rsI b nx rn os cs es ros=true:=by
 unfold rsI;rw[aT u g,h,decide_eq_true h2,decide_eq_true (p:=os.length=ros.length) (by omega)];rfl
theorem Mj {i:Int}(h:ctsB b os (ab ros i 0)=false):Ac b os cs es ros i=false:=by unfold Ac;rw[h];rfl
theorem Mk {i:Int}(h:eqR (ctsL b os cs es (ab ros i 0)) (ay ros i 1)=false):Ac b os cs es ros i=false:=by unfold Ac;rw[h,Bool.and_false]
theorem Px {i:Int}(h1:ctsB b os (ab ros i 0)=true)(h2:eqR (ctsL b os cs es (ab ros i 0)) (ay ros i 1)=true):Ac b os cs es ros i=true:=by unfold Ac;rw[h1,h2];rfl
def Q3 (os cs es ros:List (List L))(i:Int)(k:Nat):Bool:=eqR (clL cs es (ab os k 1) (ab os k 2)) (ay ros i 1)
structure IH (os cs es ros:List (List L))(i k:Int)(ok:Bool):Prop where
 e:ok=CQ (Q3 os cs es ros i) os (ab ros i 0) k.toNat
theorem Py {i:Int}:IH os cs es ros i 0 false:=⟨rfl⟩
theorem H9 {i k:Int}{ok:Bool}(_:IH os cs es ros i k ok)(k0:0<=k)(g:ab os k 0=ab ros i 0):IH os cs es ros i (k+1) (eqR (clL cs es (ab os k 1) (ab os k 2)) (ay ros i 1)):=⟨by
 rw[Mh k0 g];unfold Q3;rw[Int.toNat_of_nonneg k0]⟩
theorem Ia {i k:Int}{ok:Bool}(h:IH os cs es ros i k ok)(k0:0<=k)(g:ab os k 0≠ab ros i 0):IH os cs es ros i (k+1) ok:=⟨by
 rw[Mi k0 g];exact h.e⟩
theorem Cc {sp lg cc:List (List L)}{i k:Int}{ok:Bool}(o:objOk sp lg os cc nx=true)(h:IH os cs es ros i k ok)(k0:k<=os.length)(k1:(os.length:Int)<=k):ok=Ac true os cs es ros i:=by
 rw[h.e,show k.toNat=os.length by omega,Mg o];unfold Ac ctsB;rw[Bool.true_and];cases c:oiB os (ab ros i 0)with
 |false=>rfl
 | true=>
   have g:0<=oiI os (ab ros i 0):=of_decide_eq_true c;rw[Bool.true_and,Bool.true_and];unfold Q3;rw[Int.toNat_of_nonneg g,(zm g).1]
end
end Go.V
namespace Go.V
def LQ (f:Int->Bool):List (List L):=(List.range 16).map fun(c:Nat)=>[.v (.bool (f c))]
theorem wx {f:Int->Bool}:(LQ f).length=16:=by simp[LQ]
theorem Ow {f:Int->Bool}{o:List (List L)}(h:tZ f o):o=LQ f:=by
 refine List.ext_getElem (by rw[h.l,wx]) fun n h1 h2=>?_
 have c:=h.w.2 _ (List.getElem_mem h1);have v:=h.v n (by omega) (by rw[h.l]at h1;omega);unfold jD at v;rw[Int.toNat_natCast,List.getD_eq_getElem?_getD (l:=o),List.getElem?_eq_getElem h1,Option.getD_some]at v;simp only[LQ,List.getElem_map,List.getElem_range];generalize o[n]=r at c v
 match r,c,v with
 | [.v (.bool b)],_,v=>
   have v:b=f n:=v;rw[v]
 |[.v (.int _ _)],c,_=>exact c.1.elim
 |[.v (.string _)],c,_=>exact c.1.elim
 |_::_::_,c,_=>exact c.2.elim
theorem wy {f:Int->Bool}:tZ f (LQ f):=by
 refine⟨⟨by rw[wx];unfold maxLen;omega,fun e he=>?_⟩,wx,fun c c0 c1=>?_⟩
 ·obtain⟨n,_,rfl⟩:=List.mem_map.1 he;exact⟨trivial,trivial⟩
 ·obtain⟨n,rfl⟩:=Int.eq_ofNat_of_zero_le c0;unfold jD LQ;rw[Int.toNat_natCast,List.getD_eq_getElem?_getD (l:=List.map _ _),List.getElem?_map,List.getElem?_range (by omega)];rfl
def txL (cs es:List (List L))(p:Int):List (List L):=ay cs (peF es p) 0
def mbL (es sp lg:List (List L))(p:Int):List (List L):=LQ (EZ es sp lg p lg.length)
def yh (cs es sp lg:List (List L))(p k:Int):Bool:=decide (ab (ay cs (peF es p) 0) k 0=0)||EZ es sp lg p lg.length k
def pcB (ok:Bool)(cs es sp lg:List (List L))(p:Int):Bool:=ok&&(decide (peM es p≠0)&&bM (yh cs es sp lg p) 16)
theorem J6 {ok:Bool}{cs es sp lg:List (List L)}{p:Int}(h:ok=false):pcB ok cs es sp lg p=false:=by unfold pcB;rw[h];rfl
theorem J7 {ok:Bool}{cs es sp lg:List (List L)}{p:Int}(h:peM es p=0):pcB ok cs es sp lg p=false:=by unfold pcB;rw[decide_eq_false (by omega)];simp
theorem zW {ok:Bool}{cs es sp lg:List (List L)}{p i:Int}(i0:0<=i)(i1:i<16)(h:yh cs es sp lg p i=false):pcB ok cs es sp lg p=false:=by
 unfold pcB;rw[be (n:=16) i0 (by omega) h];simp
theorem BG {ok:Bool}{cs es sp lg:List (List L)}{p i:Int}(h:ok=true)(m:peM es p≠0)(u:upto (yh cs es sp lg p) i)(i1:16<=i):pcB ok cs es sp lg p=true:=by
 unfold pcB;rw[h,decide_eq_true m,aT (n:=16) u (by omega)];rfl
theorem J5 {cs es sp lg:List (List L)}{p k:Int}(h:ab (ay cs (peF es p) 0) k 0=0):yh cs es sp lg p k=true:=by unfold yh;rw[decide_eq_true h];rfl
theorem OY {cs es sp lg:List (List L)}{p k:Int}(k0:0<=k)(k1:k<16)(h:jD (mbL es sp lg p) k 0=true):yh cs es sp lg p k=true:=by
 unfold mbL at h;rw[wy.v k k0 k1]at h;unfold yh;rw[h];simp
theorem OX {cs es sp lg:List (List L)}{p k:Int}(k0:0<=k)(k1:k<16)(z:ab (ay cs (peF es p) 0) k 0≠0)(h:jD (mbL es sp lg p) k 0=false):yh cs es sp lg p k=false:=by
 unfold mbL at h;rw[wy.v k k0 k1]at h;unfold yh;rw[h,decide_eq_false z];rfl
section
variable {cs es fr sp lg : List (List L)} {p k : Int} (hl : layOk sp lg = true) (hp : pgI es fr sp lg = true) (hm : peM es p ≠ 0) (k0 : 0 <= k) (k1 : k < 16)
include hl hp hm k0 k1
theorem FF (h:JV es sp lg p k):yh cs es sp lg p k=true:=by
 unfold yh;rw[(E0 hl k0 k1).2 ((J4 hl hp hm k0 k1).2 h)];simp
theorem FE (z:ab (ay cs (peF es p) 0) k 0≠0)(h:¬ JV es sp lg p k):yh cs es sp lg p k=false:=by
 have q:EZ es sp lg p lg.length k=false:=by
  cases q:EZ es sp lg p lg.length k with
  |false=>rfl
  |true=>exact absurd ((J4 hl hp hm k0 k1).1 ((E0 hl k0 k1).1 q)) h
 unfold yh;rw[q,decide_eq_false z];rfl
end
theorem QO {es sp lg:List (List L)}{p k:Int}(h:0<=spI sp p)(g:hsB (ubB es sp (spI sp p)) (k/clsSz (ab sp (spI sp p) 1))=true):JV es sp lg p k:=.inl ⟨h,g⟩
theorem QP {es sp lg:List (List L)}{p k:Int}(h:spI sp p<0)(g:dnK sp lg (p*16+k)=3):JV es sp lg p k:=.inr ⟨h,g⟩
theorem QL {es sp lg:List (List L)}{p k:Int}(h:0<=spI sp p)(g:hsB (ubB es sp (spI sp p)) (k/clsSz (ab sp (spI sp p) 1))=false):¬ JV es sp lg p k:=by
 rintro(⟨_,q⟩|⟨q,_⟩)
 ·rw[g]at q;cases q
 ·omega
theorem QM {es sp lg:List (List L)}{p k:Int}(h:spI sp p<0)(g:dnK sp lg (p*16+k)≠3):¬ JV es sp lg p k:=by
 rintro(⟨q,_⟩|⟨_,q⟩)
 ·omega
 ·exact g q
structure IE (es sp:List (List L))(p i:Int)(o:List (List L)):Prop where
 m:tZ (HL es sp p i.toNat) o
structure MI (es sp:List (List L))(p i j:Int)(o:List (List L)):Prop where
 m:tZ (LO (HL es sp p i.toNat) (sclL (ab sp i 0) (ab sp i 1) (ab sp i 2)) j) o
structure MJ (es sp lg:List (List L))(p i:Int)(o:List (List L)):Prop where
 m:tZ (EZ es sp lg p i.toNat) o
structure ID (es sp lg:List (List L))(p i j:Int)(o:List (List L)):Prop where
 m:tZ (GQ (EZ es sp lg p i.toNat) (fun c=>lhB (ab lg i 0) (ab lg i 1) (ab lg i 2) (p*16+c)) j) o
theorem OE {es sp:List (List L)}{p:Int}{o:List (List L)}(e:o=List.replicate 16 [.v (.bool false)]):IE es sp p 0 o:=by
 subst e;refine⟨⟨⟨by simp[maxLen],fun e he=>?_⟩,by simp,fun c c0 c1=>?_⟩⟩
 ·rw[List.eq_of_mem_replicate he];exact⟨trivial,trivial⟩
 ·unfold jD;rw[List.getD_eq_getElem?_getD (l:=List.replicate _ _),List.getElem?_replicate,if_pos (by omega)];rfl
theorem LU {es sp o:List (List L)}{p i:Int}(h:IE es sp p i o)(i0:0<=i)(g:hasB (fpg es p) (ab sp i 0)=false):IE es sp p (i+1) o:=⟨mH h.m fun c _ _=>by
 rw[show(i+1).toNat=i.toNat+1 by omega,HL,Int.toNat_of_nonneg i0,g];simp⟩
theorem On {es sp o:List (List L)}{p i:Int}(h:IE es sp p i o):MI es sp p i 0 o:=⟨Ou h.m⟩
theorem LN {es sp o:List (List L)}{p i j:Int}(h:MI es sp p i j o)(j0:0<=j)(j1:j<(sclL (ab sp i 0) (ab sp i 1) (ab sp i 2)).length):
 (0<=ab (sclL (ab sp i 0) (ab sp i 1) (ab sp i 2)) j 0/\ab (sclL (ab sp i 0) (ab sp i 1) (ab sp i 2)) j 0<16)/\MI es sp p i (j+1) (o.set (ab (sclL (ab sp i 0) (ab sp i 1) (ab sp i 2)) j 0).toNat [.v (.bool true)]):=by
 have b:0<=ab (sclL (ab sp i 0) (ab sp i 1) (ab sp i 2)) j 0/\ab (sclL (ab sp i 0) (ab sp i 1) (ab sp i 2)) j 0<16:=by
  have q:hasB (sclL (ab sp i 0) (ab sp i 1) (ab sp i 2)) (ab (sclL (ab sp i 0) (ab sp i 1) (ab sp i 2)) j 0)=true:=jt.2 ⟨j.toNat,by omega,by rw[Int.toNat_of_nonneg j0]⟩;generalize ab (sclL (ab sp i 0) (ab sp i 1) (ab sp i 2)) j 0=x at q ⊢;unfold sclL at q;split at q
  ·have:=(sW 16).1 q;omega
  ·obtain⟨k,hk,_⟩:=jt.1 q;simp at hk
 exact⟨b,⟨LP h.m j0 j1 b.1 b.2⟩⟩
theorem HM {es sp o:List (List L)}{p i j:Int}(h:MI es sp p i j o)(i0:0<=i)(j1:(sclL (ab sp i 0) (ab sp i 1) (ab sp i 2)).length<=j)(g:hasB (fpg es p) (ab sp i 0)=true):IE es sp p (i+1) o:=⟨mH h.m fun c _ _=>by
 rw[show(i+1).toNat=i.toNat+1 by omega,HL,Int.toNat_of_nonneg i0,g,LO,List.take_of_length_le (by omega)];simp⟩
theorem Ot {es sp lg o:List (List L)}{p i:Int}(h:IE es sp p i o)(i1:i<=sp.length)(i2:(sp.length:Int)<=i):MJ es sp lg p 0 o:=⟨mH h.m fun c _ _=>by
 rw[show i.toNat=sp.length by omega];rfl⟩
theorem Oo {es sp lg o:List (List L)}{p i:Int}(h:MJ es sp lg p i o):ID es sp lg p i 0 o:=⟨Ov h.m⟩
theorem Oq {es sp lg o:List (List L)}{p i j:Int}(h:ID es sp lg p i j o)(j0:0<=j)(j1:j<16)(g:jD o j 0=true):ID es sp lg p i (j+1) (o.set j.toNat [.v (.bool true)]):=⟨Bs h.m j0 j1 (by
 rw[E5 h.m j0 j1]at g;rw[g];rfl)⟩
theorem Or {es sp lg o:List (List L)}{p i j:Int}(h:ID es sp lg p i j o)(j0:0<=j)(j1:j<16)(g:jD o j 0=false){b:Bool}(e:b=lhB (ab lg i 0) (ab lg i 1) (ab lg i 2) (p*16+j)):ID es sp lg p i (j+1) (o.set j.toNat [.v (.bool b)]):=⟨Bs h.m j0 j1 (by
 rw[E5 h.m j0 j1]at g;rw[g,e];rfl)⟩
theorem HO {es sp lg o:List (List L)}{p i j:Int}(h:ID es sp lg p i j o)(i0:0<=i)(j1:16<=j):MJ es sp lg p (i+1) o:=⟨mH (HR h.m j1) fun c _ _=>by
 rw[show(i+1).toNat=i.toNat+1 by omega,EZ,Int.toNat_of_nonneg i0]⟩
theorem HQ {es sp lg o:List (List L)}{p i:Int}(h:MJ es sp lg p i o)(i1:i<=lg.length)(i2:(lg.length:Int)<=i):o=mbL es sp lg p:=by
 rw[Ow h.m,show i.toNat=lg.length by omega];rfl
theorem J0 {l:List (List L)}{i:Int}(h:Rw [tB] l)(h0:0<=i)(h1:i<l.length):∃ rec o,bL (L.s 1 l) [(i.toNat,0)]=some (rec,o)/\o+[L.v (Value.bool false)].length<=rec.length/\List.take [L.v (Value.bool false)].length (List.drop o rec)=jZ af (L.s 1 l) [(i.toNat,0)] 0 [L.v (Value.bool false)]:=
 yo (z0:=[.v (.bool false)]) (z:=[.v (.bool false)]) h.wf (by omega) rfl (by decide)
theorem FD {l:List (List L)}{i:Int}(h0:0<=i):L6 (.s 1 l) [(i.toNat,0)]=jD l i 0:=by
 rw[FC];unfold jD;rw[Int.toNat_natCast]
theorem Ai {o:List (List L)}{n:Int}{b:Bool}(h:Rw [tB] o)(h0:0<=n)(h1:n<o.length):CY (.s 1 o) [(n.toNat,0)] [.v (.bool b)]=o.set n.toNat [.v (.bool b)]:=dI (by rw[h.eta h0 h1];rfl)
theorem Gu {o:List (List L)}{n:Int}(h:Rw [tB] o)(h0:0<=n)(h1:n<o.length):∃ rec o',bL (.s 1 o) [(n.toNat,0)]=some (rec,o')/\o'+1<=rec.length:=cA (by omega) (by rw[h.eta h0 h1];exact Nat.le_refl _)
theorem wL {k b:Int}:∀ n:Nat,n<=16->Rw [tI] (qI k b n)
 |0,_=>Rw.nil
 | n+1,h=>by
   have l:=mU (k:=k) (b:=b) n;unfold qI;split
   ·exact Rw.append (wL n (by omega)) (Pz (by omega)) (by unfold maxLen;simp only[List.length_cons,List.length_nil];omega)
   ·exact wL n (by omega)
theorem Ie {p k b:Int}:Rw [tI] (sclL p k b):=by unfold sclL;split;exact wL 16 (Nat.le_refl _);exact Rw.nil
theorem J8 {es:List (List L)}{p:Int}(h:¬ peM es p=0):0<=p/\p<es.length:=by
 by_cases c:0<=p/\p<es.length
 ·exact c
 ·exact absurd (tg c).1 h
theorem KX {sp lg:List (List L)}{p:Int}(hl:layOk sp lg=true)(h:0<=spI sp p):1<=clsSz (ab sp (spI sp p) 1)/\clsSz (ab sp (spI sp p) 1)<=8:=by
 have b:=Gq h;generalize spI sp p=i at*;obtain⟨i,rfl⟩:=Int.eq_ofNat_of_zero_le h;have c:=fE (fe ((Bl hl).s i (by omega))).2.2.1;exact⟨c.1,c.2.1⟩
theorem Nf {sp lg:List (List L)}{a:Int}(h:layOk sp lg=true):dzK sp lg a=dnK sp lg a:=by unfold dzK;rw[if_pos h]
theorem LL {es sp lg:List (List L)}{p:Int}:Rw [tB] (mbL es sp lg p)/\(mbL es sp lg p).length=16:=⟨wy.w,wy.l⟩
end Go.V
namespace Go.V
section
variable {r0 r1 r2 r3 r4 r5 r6 r7 r8 r9 r10 r11 r12 : List (List L)}
theorem Nc {n:Nat}(h:ao [r0,r1,r2,r3,r4,r5,r6,r7,r8,r9,r10,r11,r12]<=n):aj r0<=n/\aj r1<=n/\aj r2<=n/\aj r3<=n/\aj r4<=n/\aj r5<=n/\aj r6<=n/\aj r7<=n/\aj r8<=n/\aj r9<=n/\aj r10<=n/\aj r11<=n/\aj r12<=n:=⟨au h (by simp),au h (by simp),au h (by simp),au h (by simp),au h (by simp),au h (by simp),au h (by simp),au h (by simp),au h (by simp),au h (by simp),au h (by simp),au h (by simp),au h (by simp)⟩
end
end Go.V