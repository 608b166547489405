/- Plain facts. -/
import Derived.Test.YticfhgfgobafbaaGreatW2
set_option linter.all false
namespace Go.V
def vK (sp:aa)(i:Int):Nat->List Int
 |0=>[]
 |n+1=>vK sp i n++(if hsB (af sp i 2) n then[aaI (af sp i 0) (af sp i 1) (af sp i 2) n]else[])
def uG (sp:aa):Nat->List Int
 |0=>[]
 |n+1=>uG sp n++vK sp n (slN (af sp n 1)).toNat
def xh (lg:aa):Nat->List Int
 |0=>[]
 |n+1=>xh lg n++[af lg n 0*16]
def Hf (sp lg:aa):List Int:=uG sp sp.length++xh lg lg.length
def iaL (sp lg:aa):aa:=if layOk sp lg then srtL (eK (Hf sp lg))else[]
theorem HS {a b:Int}(h: -9223372036854775808<=a*b/\a*b<=9223372036854775807):bP .mul .i64 a b=a*b:=IntWalk.i64_in _ h
theorem wK {l:aa}:(srtL l).length=l.length:=by unfold srtL;rw[bS,List.length_mergeSort];unfold ku;rw[List.length_map]
def GH (l:List Int):Prop:=∀ x∈l,-1<=x/\x<=1000
theorem yz {a b:List Int}(h:GH a)(g:GH b):GH (a++b):=fun x hx=>by
 rcases List.mem_append.1 hx with q|q
 ·exact h x q
 ·exact g x q
theorem E6 {x:Int}(h: -1<=x/\x<=1000):GH [x]:=fun y hy=>by simp at hy;rw[hy];exact h
theorem Me {p k b s:Int}: -1<=aaI p k b s/\aaI p k b s<=1000:=by
 unfold aaI;by_cases h:GF p k b s=true
 ·rw[if_pos h];unfold GF at h;simp only[Bool.and_eq_true]at h;have t:=ic h.1;have c:=fu t.2.2.1;have s1:=bW.1 h.2;have m0:0<=s*clsSz k:=Int.mul_nonneg (by omega) (by omega);have m1:s*clsSz k<=slN k*clsSz k:=Int.mul_le_mul_of_nonneg_right (by omega) (by omega);omega
 ·rw[if_neg h];omega
theorem uF {sp:aa}{i k:Int}(h:0<=k):vK sp i (k+1).toNat=vK sp i k.toNat++(if hsB (af sp i 2) k then[aaI (af sp i 0) (af sp i 1) (af sp i 2) k]else[]):=by
 rw[show(k+1).toNat=k.toNat+1 from by omega,vK,Int.toNat_of_nonneg h]
theorem Bw {sp:aa}{i:Int}(h:0<=i):uG sp (i+1).toNat=uG sp i.toNat++vK sp i (slN (af sp i 1)).toNat:=by
 rw[show(i+1).toNat=i.toNat+1 from by omega,uG,Int.toNat_of_nonneg h]
theorem xI {lg:aa}{i:Int}(h:0<=i):xh lg (i+1).toNat=xh lg i.toNat++[af lg i 0*16]:=by
 rw[show(i+1).toNat=i.toNat+1 from by omega,xh,Int.toNat_of_nonneg h]
structure IB (sp:aa)(i:Int)(o:aa):Prop where
 e:o=eK (uG sp i.toNat)
 b:GH (uG sp i.toNat)
 l:(uG sp i.toNat).length<=16*i.toNat
structure Dq (sp:aa)(i k:Int)(o:aa):Prop where
 e:o=eK (uG sp i.toNat++vK sp i k.toNat)
 b:GH (uG sp i.toNat++vK sp i k.toNat)
 l:(uG sp i.toNat).length<=16*i.toNat
 k:(vK sp i k.toNat).length<=k.toNat
structure EY (sp lg:aa)(j:Int)(o:aa):Prop where
 e:o=eK (uG sp sp.length++xh lg j.toNat)
 b:GH (uG sp sp.length++xh lg j.toNat)
 l:(uG sp sp.length++xh lg j.toNat).length<=16*sp.length+j.toNat
theorem MA {sp:aa}:IB sp 0 []:=⟨rfl,(fun x hx=>by cases hx),Nat.zero_le _⟩
theorem MC {sp o:aa}{i:Int}(h:IB sp i o):Dq sp i 0 o:=
 ⟨by rw[h.e];simp[vK],by simpa[vK]using h.b,h.l,Nat.zero_le _⟩
theorem Hi {sp o:aa}{i k:Int}(h:Dq sp i k o):o.length<=16*i.toNat+k.toNat:=by
 have l:=h.l;have m:=h.k;rw[h.e,bS,List.length_append];omega
theorem Hj {sp o:aa}{i k:Int}(h:Dq sp i k o)(k0:0<=k)(hh:hsB (af sp i 2) k=true):Dq sp i (k+1) (o++[[.i (aaI (af sp i 0) (af sp i 1) (af sp i 2) k)]]):=by
 have m:=h.k;have e:=h.e;refine⟨?_,?_,h.l,?_⟩
 ·rw[uF k0,if_pos hh, <-List.append_assoc,dU, <-e];rfl
 ·rw[uF k0,if_pos hh, <-List.append_assoc];exact yz h.b (E6 Me)
 ·rw[uF k0,if_pos hh,List.length_append,List.length_cons,List.length_nil];omega
theorem JM {sp o:aa}{i k:Int}(h:Dq sp i k o)(k0:0<=k)(hh:hsB (af sp i 2) k=false):Dq sp i (k+1) o:=by
 have m:=h.k;have e:=h.e;have u:vK sp i (k+1).toNat=vK sp i k.toNat:=by rw[uF k0,hh];simp
 refine⟨?_,?_,h.l,?_⟩
 ·rw[u];exact e
 ·rw[u];exact h.b
 ·rw[u];omega
theorem Ny {sp lg:aa}{i:Int}(hl:layOk sp lg=true)(h0:0<=i)(h1:i<sp.length):0<=slN (af sp i 1)/\slN (af sp i 1)<=16:=by
 have t:=ic ((BM hl).1 i h0 h1);have c:=fu t.2.2.1;omega
theorem Hh {sp o:aa}{i k:Int}(h:Dq sp i k o)(i0:0<=i)(k1:k<=slN (af sp i 1))(k2:slN (af sp i 1)<=k)(hs:0<=slN (af sp i 1)/\slN (af sp i 1)<=16):IB sp (i+1) o:=by
 have ek:k=slN (af sp i 1):=by omega
 have e:=h.e;have b:=h.b;have l:=h.l;have m:=h.k;rw[ek, <-Bw i0]at e b;rw[ek]at m;refine⟨e,b,?_⟩;rw[Bw i0,List.length_append];omega
theorem MD {sp lg o:aa}{i:Int}(h:IB sp i o)(h1:i<=sp.length)(h2:(sp.length:Int)<=i):EY sp lg 0 o:=by
 have ei:i.toNat=sp.length:=by omega
 have e:=h.e;have b:=h.b;have l:=h.l;rw[ei]at e b l;exact⟨by rw[e];simp[xh],by simpa[xh]using b,by simpa[xh]using l⟩
theorem BB {sp lg o:aa}{j:Int}(h:EY sp lg j o):o.length<=16*sp.length+j.toNat:=by
 have l:=h.l;rw[h.e,bS];exact l
theorem MJ {sp lg:aa}{j:Int}(hl:layOk sp lg=true)(h0:0<=j)(h1:j<lg.length):0<=af lg j 0/\af lg j 0<=32:=by
 have t:=gn ((BM hl).2.1 j h0 h1);have b:=fJ t.1;omega
theorem JO {sp lg o:aa}{j:Int}(h:EY sp lg j o)(j0:0<=j)(hb:0<=af lg j 0/\af lg j 0<=32):EY sp lg (j+1) (o++[[.i (af lg j 0*16)]]):=by
 have e:=h.e;have l:=h.l;refine⟨?_,?_,?_⟩
 ·rw[xI j0, <-List.append_assoc,dU, <-e];rfl
 ·rw[xI j0, <-List.append_assoc];exact yz h.b (E6 (by omega))
 ·rw[xI j0, <-List.append_assoc,List.length_append,List.length_cons,List.length_nil];omega
theorem JN {sp lg o:aa}{j:Int}(h:EY sp lg j o)(h1:sp.length<=1073741824)(h2:j<=1073741824):Rw [tI] o/\o.length<=70368744177664:=by
 have l:=BB h;refine⟨?_,by omega⟩;have e:=h.e;have l2:=h.l;rw[e];exact mP (fun x hx=>by have:=h.b x hx;omega) (by omega)
theorem Hk {sp lg o:aa}{j:Int}(h:EY sp lg j o)(j1:j<=lg.length)(j2:(lg.length:Int)<=j)(hl:layOk sp lg=true):srtL o=iaL sp lg:=by
 have ej:j.toNat=lg.length:=by omega
 have e:=h.e;rw[ej]at e;unfold iaL Hf;rw[if_pos hl, <-e]
theorem MB {sp lg:aa}(hl:layOk sp lg=false):([]:aa)=iaL sp lg:=by unfold iaL;rw[hl];rfl
end Go.V
namespace Go.V
theorem pK :∀ {a b:List Int},a.Pairwise (· < ·)->b.Pairwise (· < ·)->(∀ x,x∈a↔x∈b)->a=b
 |[],[],_,_,_=>rfl
 |[],y::b,_,_,h=>by have:=(h y).2 (by simp);simp at this
 |x::a,[],_,_,h=>by have:=(h x).1 (by simp);simp at this
 | x::a,y::b,ha,hb,h=>by
   rw[List.pairwise_cons]at ha hb;have e:x=y:=by
    rcases List.mem_cons.1 ((h x).1 (by simp))with q|q
    ·exact q
    ·rcases List.mem_cons.1 ((h y).2 (by simp))with r|r
     ·exact r.symm
     ·have:=hb.1 x q;have:=ha.1 y r;omega
   subst e;rw[pK ha.2 hb.2 (fun z=>?_)]
   constructor
   ·intro m;rcases List.mem_cons.1 ((h z).1 (by simp[m]))with q|q
    ·have:=ha.1 z m;omega
    ·exact q
   ·intro m;rcases List.mem_cons.1 ((h z).2 (by simp[m]))with q|q
    ·have:=hb.1 z m;omega
    ·exact q
theorem jI {sp:aa}{x:Int}:∀ {n:Nat},x∈gu sp n↔∃ i:Nat,i<n/\af sp i 0=x
 |0=>by simp[gu]
 | n+1=>by
   rw[gu,List.mem_append,jI,List.mem_singleton]
   constructor
   ·rintro(⟨i,h,e⟩|rfl)
    ·exact⟨i,by omega,e⟩
    ·exact⟨n,by omega,rfl⟩
   ·rintro⟨i,h,e⟩;by_cases c:i=n
    ·subst c;exact .inr e.symm
    ·exact .inl ⟨i,by omega,e⟩
theorem uT {p x:Int}:∀ {n:Nat},x∈jL p n↔p<=x/\x<p+n
 |0=>⟨(fun h=>by cases h),(fun h=>absurd h (by omega))⟩
 | n+1=>by
   rw[jL,List.mem_append,uT,List.mem_singleton];omega
theorem lG {lg:aa}{x:Int}:∀ {n:Nat},x∈gr lg n↔∃ j:Nat,j<n/\af lg j 0<=x/\x<af lg j 0+(af lg j 1).toNat
 |0=>by simp[gr]
 | n+1=>by
   rw[gr,List.mem_append,lG,uT]
   constructor
   ·rintro(⟨i,h,e⟩|h)
    ·exact⟨i,by omega,e⟩
    ·exact⟨n,by omega,h⟩
   ·rintro⟨i,h,e⟩;by_cases c:i=n
    ·subst c;exact .inr e
    ·exact .inl ⟨i,by omega,e⟩
theorem C4 {sp:aa}:∀ {n:Nat},(gu sp n).Nodup->∀ i i':Nat,i<i'->i'<n->af sp i 0≠af sp i' 0
 |0,_,i,i',_,h=>by omega
 | n+1,hn,i,i',h1,h2=>by
   rw[gu,List.nodup_append]at hn;by_cases c:i'=n
   ·subst c;exact hn.2.2 _ (jI.2 ⟨i,h1,rfl⟩) _ (by simp)
   ·exact C4 hn.1 i i' h1 (by omega)
theorem BR {lg:aa}:∀ {n:Nat},(gr lg n).Nodup->∀ (j j':Nat) (x:Int),j<j'->j'<n->af lg j 0<=x->x<af lg j 0+(af lg j 1).toNat->af lg j' 0<=x->x<af lg j' 0+(af lg j' 1).toNat->False
 |0,_,j,j',x,_,h,_,_,_,_=>by omega
 | n+1,hn,j,j',x,h1,h2,a,b,c,d=>by
   rw[gr,List.nodup_append]at hn;by_cases e:j'=n
   ·subst e;exact hn.2.2 x (lG.2 ⟨j,h1,a,b⟩) x (uT.2 ⟨c,d⟩) rfl
   ·exact BR hn.1 j j' x h1 (by omega) a b c d
structure IE (sp lg:aa):Prop where
 s:∀ i:Nat,i<sp.length->spOk (af sp i 0) (af sp i 1) (af sp i 2)=true
 l:∀ j:Nat,j<lg.length->lgOk (af lg j 0) (af lg j 1) (af lg j 2)=true
 ss:∀ i i':Nat,i<sp.length->i'<sp.length->af sp i 0=af sp i' 0->i=i'
 sl:∀ i j:Nat,i<sp.length->j<lg.length->af lg j 0<=af sp i 0->af sp i 0<af lg j 0+af lg j 1->False
 ll:∀ (j j':Nat) (x:Int),j<lg.length->j'<lg.length->af lg j 0<=x->x<af lg j 0+af lg j 1->af lg j' 0<=x->x<af lg j' 0+af lg j' 1->j=j'
theorem IM {sp lg:aa}(h:layOk sp lg=true):IE sp lg:=by
 obtain⟨h1,h2,h3⟩:=BM h;unfold sW at h3;rw[List.nodup_append]at h3;have n0:∀ j:Nat,j<lg.length->((af lg j 1).toNat:Int)=af lg j 1:=fun j hj=>by
  have t:=gn (h2 j (by omega) (by omega));have b:=fJ t.1;omega
 refine⟨fun i hi=>h1 i (by omega) (by omega),fun j hj=>h2 j (by omega) (by omega),fun i i' a b e=>?_,fun i j a b c d=>?_,fun j j' x a b c d e f=>?_⟩
 ·rcases Nat.lt_trichotomy i i' with q|q|q
  ·exact absurd e (C4 h3.1 i i' q b)
  ·exact q
  ·exact absurd e.symm (C4 h3.1 i' i q a)
 ·exact h3.2.2 _ (jI.2 ⟨i,a,rfl⟩) _ (lG.2 ⟨j,b,c,by rw[n0 j b];exact d⟩) rfl
 ·rcases Nat.lt_trichotomy j j' with q|q|q
  ·exact(BR h3.2.1 j j' x q b c (by rw[n0 j a];exact d) e (by rw[n0 j' b];exact f)).elim
  ·exact q
  ·exact(BR h3.2.1 j' j x q a e (by rw[n0 j' b];exact f) c (by rw[n0 j a];exact d)).elim
theorem iJ {p k b s:Int}(h:spOk p k b=true)(h0:0<=s)(h1:s<slN k):aaI p k b s=p*16+s*clsSz k/\0<=s*clsSz k/\s*clsSz k+clsSz k<=16/\1<=clsSz k:=by
 have t:=ic h;have c:=fu t.2.2.1;have a:GF p k b s=true:=by unfold GF;rw[h,bW.2 ⟨h0,by omega⟩];rfl
 have m0:0<=s*clsSz k:=Int.mul_nonneg h0 (by omega);have m1:(s+1)*clsSz k<=slN k*clsSz k:=Int.mul_le_mul_of_nonneg_right (by omega) (by omega);rw[Int.add_mul]at m1;unfold aaI;rw[if_pos a];exact⟨rfl,m0,by omega,by omega⟩
theorem pu {sp:aa}{i x:Int}:∀ {n:Nat},x∈vK sp i n↔∃ k:Nat,k<n/\hsB (af sp i 2) k=true/\x=aaI (af sp i 0) (af sp i 1) (af sp i 2) k
 |0=>by simp[vK]
 | n+1=>by
   rw[vK,List.mem_append,pu]
   constructor
   ·rintro(⟨k,h,e⟩|h)
    ·exact⟨k,by omega,e⟩
    ·by_cases c:hsB (af sp i 2) n=true
     ·rw[if_pos c,List.mem_singleton]at h;exact⟨n,by omega,c,h⟩
     ·rw[if_neg c]at h;simp at h
   ·rintro⟨k,h,c,e⟩;by_cases q:k=n
    ·subst q;rw[if_pos c];exact .inr (by simp[e])
    ·exact .inl ⟨k,by omega,c,e⟩
theorem pv {sp:aa}{x:Int}:∀ {n:Nat},x∈uG sp n↔∃ i k:Nat,i<n/\k<(slN (af sp i 1)).toNat/\hsB (af sp i 2) k=true/\x=aaI (af sp i 0) (af sp i 1) (af sp i 2) k
 |0=>by simp[uG]
 | n+1=>by
   rw[uG,List.mem_append,pv,pu]
   constructor
   ·rintro(⟨i,k,h,e⟩|⟨k,h⟩)
    ·exact⟨i,k,by omega,e⟩
    ·exact⟨n,k,by omega,h⟩
   ·rintro⟨i,k,h,e⟩;by_cases q:i=n
    ·subst q;exact .inr ⟨k,e⟩
    ·exact .inl ⟨i,k,by omega,e⟩
theorem pq {lg:aa}{x:Int}:∀ {n:Nat},x∈xh lg n↔∃ j:Nat,j<n/\x=af lg j 0*16
 |0=>by simp[xh]
 | n+1=>by
   rw[xh,List.mem_append,pq,List.mem_singleton]
   constructor
   ·rintro(⟨i,h,e⟩|h)
    ·exact⟨i,by omega,e⟩
    ·exact⟨n,by omega,h⟩
   ·rintro⟨i,h,e⟩;by_cases q:i=n
    ·subst q;exact .inr e
    ·exact .inl ⟨i,by omega,e⟩
theorem xJ {sp:aa}{i:Nat}(h:spOk (af sp i 0) (af sp i 1) (af sp i 2)=true):∀ {n:Nat},n<=(slN (af sp i 1)).toNat->(vK sp i n).Nodup
 |0,_=>List.nodup_nil
 | n+1,hn=>by
   rw[vK];by_cases c:hsB (af sp i 2) n=true
   ·rw[if_pos c];refine fT (xJ h (by omega)) (fun m=>?_);obtain⟨k,k1,_,k3⟩:=pu.1 m;have a:=iJ (s:=(n:Int)) h (by omega) (by omega);have b:=iJ (s:=(k:Int)) h (by omega) (by omega);have q:((k:Int)+1)*clsSz (af sp i 1)<=(n:Int)*clsSz (af sp i 1):=Int.mul_le_mul_of_nonneg_right (by omega) (by omega);rw[Int.add_mul]at q;omega
   ·rw[if_neg c,List.append_nil];exact xJ h (by omega)
theorem Bv {sp lg:aa}(F:IE sp lg):∀ {n:Nat},n<=sp.length->(uG sp n).Nodup
 |0,_=>List.nodup_nil
 | n+1,hn=>by
   rw[uG,List.nodup_append];refine⟨Bv F (by omega),xJ (F.s n (by omega)) (Nat.le_refl _),fun x hx y hy e=>?_⟩;subst e;obtain⟨i,k,i1,k1,_,e1⟩:=pv.1 hx;obtain⟨k',k2,_,e2⟩:=pu.1 hy;have a:=iJ (s:=(k:Int)) (F.s i (by omega)) (by omega) (by omega);have b:=iJ (s:=(k':Int)) (F.s n (by omega)) (by omega) (by omega);have:=F.ss i n (by omega) (by omega) (by omega);omega
theorem Bu {sp lg:aa}(F:IE sp lg):∀ {n:Nat},n<=lg.length->(xh lg n).Nodup
 |0,_=>List.nodup_nil
 | n+1,hn=>by
   rw[xh];refine fT (Bu F (by omega)) (fun m=>?_);obtain⟨j,j1,e⟩:=pq.1 m;have t:=gn (F.l j (by omega));have b:=fJ t.1;have t':=gn (F.l n (by omega));have b':=fJ t'.1;have:=F.ll j n (af lg j 0) (by omega) (by omega) (by omega) (by omega) (by omega) (by omega);omega
theorem Hg {sp lg:aa}(F:IE sp lg):(Hf sp lg).Nodup:=by
 unfold Hf;rw[List.nodup_append];refine⟨Bv F (Nat.le_refl _),Bu F (Nat.le_refl _),fun x hx y hy e=>?_⟩;subst e;obtain⟨i,k,i1,k1,_,e1⟩:=pv.1 hx;obtain⟨j,j1,e2⟩:=pq.1 hy;have a:=iJ (s:=(k:Int)) (F.s i (by omega)) (by omega) (by omega);have t:=gn (F.l j (by omega));have b:=fJ t.1;exact F.sl i j i1 j1 (by omega) (by omega)
end Go.V
namespace Go.V
theorem gS {p:Int->Bool}{n:Nat}(h:0<=cf p n):cf p n<n/\p (cf p n)=true:=by
 refine⟨by rcases lq (p:=p) (n:=n)with q|q<;>omega,?_⟩;unfold cf at h ⊢;split at h
 ·rename_i j e;have q:=List.find?_some e;exact q
 ·omega
theorem lr {p:Int->Bool}{n i:Nat}(h:i<n)(hp:p i=true):0<=cf p n:=by
 unfold cf;split
 ·omega
 ·rename_i e;rw[List.find?_eq_none]at e;exact absurd hp (e i (List.mem_range.2 h))
theorem CU {sp:aa}{a i:Int}:vd sp a i=true↔xi (af sp i 0) (af sp i 1) (af sp i 2) a=true:=by
 unfold vd;rw[decide_eq_true_eq]
 constructor
 ·intro h;cases c:xi (af sp i 0) (af sp i 1) (af sp i 2) a with
  |true=>rfl
  |false=>rw[(tT c).1]at h;omega
 ·intro h;obtain⟨h1,h2,h3⟩:=wI.1 h;have cb:=fu (ic h1).2.2.1;rw[(rL h).1];exact Int.ediv_nonneg (by omega) (by omega)
def L5 (sp lg:aa)(x:Int):Prop:=(∃ i k:Nat,i<sp.length/\k<(slN (af sp i 1)).toNat/\hsB (af sp i 2) k=true/\x=aaI (af sp i 0) (af sp i 1) (af sp i 2) k)\/∃ j:Nat,j<lg.length/\x=af lg j 0*16
theorem ze {sp lg:aa}{x:Int}:x∈Hf sp lg↔L5 sp lg x:=by
 unfold Hf L5;rw[List.mem_append,pv,pq]
theorem Jc {sp lg:aa}{a:Int}(h:0<=kG sp a):dnK sp lg a=(if hsB (af sp (kG sp a) 2) (EE sp a (kG sp a))then 1 else 2)/\dnO sp lg a=IV sp a (kG sp a):=by
 unfold dnK dnO;rw[if_pos h,if_pos h];exact⟨rfl,rfl⟩
theorem Jb {sp lg:aa}{a:Int}(h:¬ 0<=kG sp a)(g:0<=sU lg a):dnK sp lg a=3/\dnO sp lg a=L4 lg a (sU lg a):=by
 unfold dnK dnO;rw[if_neg h,if_neg h,if_pos g,if_pos g];exact⟨rfl,rfl⟩
theorem Mk {sp lg:aa}{a:Int}(h:¬ 0<=kG sp a)(g:¬ 0<=sU lg a):dnK sp lg a=0/\dnO sp lg a=0:=by
 unfold dnK dnO;rw[if_neg h,if_neg h,if_neg g,if_neg g];exact⟨rfl,rfl⟩
theorem zb {sp lg:aa}{a:Int}(hl:layOk sp lg=true):oV sp lg a=true↔dnO sp lg a=0/\(dnK sp lg a=1\/dnK sp lg a=3):=by
 unfold oV dzO dzK;rw[if_pos hl,if_pos hl];simp only[Bool.and_eq_true,Bool.or_eq_true,decide_eq_true_eq]
theorem FN {sp lg:aa}{x:Int}(F:IE sp lg)(hl:layOk sp lg=true)(h:oV sp lg x=true):L5 sp lg x:=by
 obtain⟨h1,h2⟩:=(zb hl).1 h;by_cases c:0<=kG sp x
 ·obtain⟨d1,d2⟩:=Jc (lg:=lg) c;obtain⟨b,q⟩:=gS c;change kG sp x<sp.length at b;change vd sp x (kG sp x)=true at q;rw[d1]at h2;rw[d2]at h1;generalize hF:kG sp x=f at*;obtain⟨f,rfl⟩:=Int.eq_ofNat_of_zero_le c;have bf:f<sp.length:=by omega
  have q':=CU.1 q;obtain⟨a1,a2,a3⟩:=wI.1 q';obtain⟨e1,e2⟩:=rL q';have cb:=fu (ic a1).2.2.1;have hh:hsB (af sp f 2) (EE sp x f)=true:=by
   cases c:hsB (af sp f 2) (EE sp x f)with
   |true=>rfl
   |false=>rw[c]at h2;simp at h2
  unfold IV at h1;rw[e2]at h1;unfold EE at hh;rw[e1]at hh;have dv:clsSz (af sp f 1)*((x-af sp f 0*16)/clsSz (af sp f 1))=x-af sp f 0*16:=Int.mul_ediv_cancel_of_emod_eq_zero h1;have nn:0<=(x-af sp f 0*16)/clsSz (af sp f 1):=Int.ediv_nonneg (by omega) (by omega);generalize hs:(x-af sp f 0*16)/clsSz (af sp f 1)=s at*;have lt:s<slN (af sp f 1):=by
   by_cases w:s<slN (af sp f 1)
   ·exact w
   ·have m:slN (af sp f 1)*clsSz (af sp f 1)<=s*clsSz (af sp f 1):=Int.mul_le_mul_of_nonneg_right (by omega) (by omega);rw[Int.mul_comm s]at m;omega
  obtain⟨s,rfl⟩:=Int.eq_ofNat_of_zero_le nn;have ae:=iJ a1 nn lt;refine .inl ⟨f,s,bf,by omega,hh,?_⟩;have ae1:=ae.1;rw[Int.mul_comm (s:Int)]at ae1;show x=aaI (af sp f 0) (af sp f 1) (af sp f 2) s;rw[ae1];omega
 ·by_cases g:0<=sU lg x
  ·obtain⟨d1,d2⟩:=Jb c g;obtain⟨b,q⟩:=gS g;change sU lg x<lg.length at b;change wo lg x (sU lg x)=true at q;rw[d2]at h1;generalize hF:sU lg x=f at*;obtain⟨f,rfl⟩:=Int.eq_ofNat_of_zero_le g;refine .inr ⟨f,by omega,?_⟩;unfold L4 loI at h1;unfold wo at q;rw[if_pos q]at h1;show x=af lg f 0*16;omega
  ·obtain⟨d1,d2⟩:=Mk c g;rw[d1]at h2;omega
theorem FA {sp lg:aa}{x:Int}(h:0<=kG sp x):∃ f:Nat,kG sp x=f/\f<sp.length/\xi (af sp f 0) (af sp f 1) (af sp f 2) x=true:=by
 obtain⟨b,q⟩:=gS h;obtain⟨f,e⟩:=Int.eq_ofNat_of_zero_le h;refine⟨f,e,?_,?_⟩
 ·have:kG sp x<sp.length:=b;rw[e]at this;exact Int.ofNat_lt.1 this
 ·have:vd sp x (kG sp x)=true:=q;rw[e]at this;exact CU.1 this
theorem J7 {sp lg:aa}{x:Int}(F:IE sp lg)(hl:layOk sp lg=true)(h:L5 sp lg x):oV sp lg x=true:=by
 rw[zb hl];rcases h with⟨i,k,i1,k1,hh,e⟩|⟨j,j1,e⟩
 ·have a1:=F.s i i1;have cb:=fu (ic a1).2.2.1;have ae:=iJ (s:=(k:Int)) a1 (by omega) (by omega);have sb:xi (af sp i 0) (af sp i 1) (af sp i 2) x=true:=wI.2 ⟨a1,by omega,by omega⟩;have c:0<=kG sp x:=lr i1 (CU.2 sb);obtain⟨f,e1,f1,f2⟩:=FA (lg:=lg) c;obtain⟨_,g2,g3⟩:=wI.1 f2;have:f=i:=F.ss f i f1 i1 (by omega);subst this;obtain⟨d1,d2⟩:=Jc (lg:=lg) c;rw[d1,d2,e1];obtain⟨y1,y2⟩:=rL sb;have xe:x-af sp f 0*16=k*clsSz (af sp f 1):=by omega
  unfold EE IV;rw[y1,y2,xe,Int.mul_ediv_cancel _ (by omega),if_pos hh];exact⟨Int.mul_emod_left _ _,.inl rfl⟩
 ·have t:=gn (F.l j j1);have b:=fJ t.1;have r:=bW.1 t.1;have c:¬ 0<=kG sp x:=fun c=>by
   obtain⟨f,e1,f1,f2⟩:=FA (lg:=lg) c;obtain⟨_,g2,g3⟩:=wI.1 f2;exact F.sl f j f1 j1 (by omega) (by omega)
  have lb:lhB (af lg j 0) (af lg j 1) (af lg j 2) x=true:=HA.2 ⟨F.l j j1,by omega,by omega⟩;have g:0<=sU lg x:=lr j1 (show wo lg x j=true from lb);obtain⟨d1,d2⟩:=Jb c g;obtain⟨b1,q⟩:=gS g;change sU lg x<lg.length at b1;change wo lg x (sU lg x)=true at q;rw[d1,d2];generalize hF:sU lg x=f at*;obtain⟨f,rfl⟩:=Int.eq_ofNat_of_zero_le g;have f1:f<lg.length:=by omega
  have q':lhB (af lg f 0) (af lg f 1) (af lg f 2) x=true:=q;obtain⟨_,u1,u2⟩:=HA.1 q';have t2:=gn (F.l f f1);have b2:=fJ t2.1;have:f=j:=F.ll f j (af lg j 0) f1 j1 (by omega) (by omega) (by omega) (by omega);subst this;refine⟨?_,.inr rfl⟩;show loI (af lg f 0) (af lg f 1) (af lg f 2) x=0;unfold loI;rw[if_pos lb];omega
def FM (sp lg:aa):Nat->List Int
 |0=>[]
 |n+1=>FM sp lg n++(if oV sp lg n then[(n:Int)]else[])
theorem rh {sp lg:aa}:∀ n:Nat,Do sp lg n=eK (FM sp lg n)
 |0=>rfl
 | n+1=>by
   rw[Do,FM,dU,rh n];by_cases c:oV sp lg n=true
   ·rw[if_pos c,if_pos c];rfl
   ·rw[if_neg c,if_neg c];rfl
theorem lH {sp lg:aa}{x:Int}:∀ {n:Nat},x∈FM sp lg n↔0<=x/\x<n/\oV sp lg x=true
 |0=>⟨(fun h=>by cases h),(fun h=>absurd h.2.1 (by omega))⟩
 | n+1=>by
   rw[FM,List.mem_append,lH]
   constructor
   ·rintro(h|h)
    ·exact⟨h.1,by omega,h.2.2⟩
    ·by_cases c:oV sp lg n=true
     ·rw[if_pos c,List.mem_singleton]at h;subst h;exact⟨by omega,by omega,c⟩
     ·rw[if_neg c]at h;cases h
   ·rintro⟨h1,h2,h3⟩;by_cases q:x=n
    ·subst q;rw[if_pos h3];exact .inr (by simp)
    ·exact .inl ⟨h1,by omega,h3⟩
theorem x7 {sp lg:aa}:∀ n:Nat,(FM sp lg n).Pairwise (· < ·)
 |0=>List.Pairwise.nil
 | n+1=>by
   rw[FM,List.pairwise_append];refine⟨x7 n,?_,fun a ha b hb=>?_⟩
   ·by_cases c:oV sp lg n=true
    ·rw[if_pos c];simp
    ·rw[if_neg c];simp
   ·have m:=lH.1 ha;by_cases c:oV sp lg n=true
    ·rw[if_pos c,List.mem_singleton]at hb;omega
    ·rw[if_neg c]at hb;cases hb
theorem Et {l:List Int}(h:l.Nodup):(l.mergeSort fun x y=>decide (x<=y)).Pairwise (· < ·):=by
 have p:=List.pairwise_mergeSort (le:=fun x y:Int=>decide (x<=y)) (fun a b c h1 h2=>by simp only[decide_eq_true_eq]at*;omega) (fun a b=>by simp only[Bool.or_eq_true,decide_eq_true_eq];omega) l;have n:(l.mergeSort fun x y=>decide (x<=y)).Nodup:=(List.mergeSort_perm l _).nodup_iff.2 h;refine List.Pairwise.imp₂ (R:=fun a b=>decide (a<=b)=true) (S:=(· ≠ ·)) (T:=(· < ·)) (fun a b h1 h2=>?_) p n;simp only[decide_eq_true_eq]at h1;omega
theorem uN {sp lg:aa}:iaL sp lg=laL sp lg:=by
 unfold iaL laL;by_cases hl:layOk sp lg=true
 ·rw[if_pos hl,if_pos hl];have F:=IM hl;unfold srtL;rw[xK,rh];refine congrArg eK (pK (Et (Hg F)) (x7 512) (fun x=>?_));rw[(List.mergeSort_perm _ _).mem_iff,ze,lH]
  constructor
  ·intro h;have v:=J7 F hl h;refine⟨?_,?_,v⟩
   ·rcases h with⟨i,k,i1,k1,_,e⟩|⟨j,j1,e⟩
    ·have ae:=iJ (s:=(k:Int)) (F.s i i1) (by omega) (by omega);have t:=ic (F.s i i1);omega
    ·have t:=gn (F.l j j1);omega
   ·rcases h with⟨i,k,i1,k1,_,e⟩|⟨j,j1,e⟩
    ·have ae:=iJ (s:=(k:Int)) (F.s i i1) (by omega) (by omega);have t:=ic (F.s i i1);omega
    ·have t:=gn (F.l j j1);have b:=fJ t.1;omega
  ·rintro⟨_,_,h⟩;exact FN F hl h
 ·rw[if_neg hl,if_neg hl]
end Go.V
namespace Go.V
def rc (qs:aa)(a j:Int):Bool:=eqB (af qs j 0) a
def qtI (qs:aa)(a:Int):Int:=cf (rc qs a) qs.length
def qtB (qs:aa)(a:Int):Bool:=decide (0<=qtI qs a)
theorem H9 {qs:aa}{a i:Int}(h:upto (bY (rc qs a)) i)(h0:0<=i)(h1:i<qs.length)(e:af qs i 0=a):qtB qs a=true:=by
 unfold qtB qtI;rw[cN h h0 h1 (lh e)];exact decide_eq_true h0
theorem K8 {qs:aa}{a i:Int}(h:upto (bY (rc qs a)) i)(h1:(qs.length:Int)<=i):qtB qs a=false:=by
 unfold qtB qtI;rw[cO h h1];rfl
end Go.V
namespace Go.V
def BF (ls:aa)(a j:Int):Bool:=hasB (ax ls j 0) a
def chI (ls:aa)(a:Int):Int:=cf (BF ls a) ls.length
def chB (ls:aa)(a:Int):Bool:=decide (0<=chI ls a)
structure xg (ls:aa):Prop where
 w:Rw [.sl [tI]] ls
 l:ls.length<=1099511627776
 n:∀ i:Int,(ax ls i 0).length<=1099511627776
theorem xg.el {ls:aa}(h:xg ls){i:Int}(h0:0<=i)(h1:i<ls.length):Rw [tI] (ax ls i 0)/\(ax ls i 0).length<=1099511627776:=
 ⟨Rw.sub (fs:=[.sl [tI]]) h.w (by omega) rfl,h.n i⟩
end Go.V
namespace Go.V
def An (b:aa)(i k:Int):Bool:=inR (af (ax b i 0) k 0) 0 ((b.length:Int)-1)&&decide (0<=af (ax b i 0) k 1)
def AL (x:aa)(i k:Int):Bool:=decide (0<=af (ax x i 0) k 0)
def IR (b x:aa)(i:Int):Bool:=bU (An b i) (ax b i 0).length&&bU (AL x i) (ax x i 0).length
def Eh (b x:aa):Nat->Int
 |0=>0
 |n+1=>Eh b x n+((ax b n 0).length+(ax x n 0).length)
def mailOk (b x:aa):Bool:=inR b.length 1 4&&(decide (x.length=b.length)&&(bU (IR b x) b.length&&decide (Eh b x b.length<=30)))
structure tc (b x:aa):Prop where
 bw:Rw [.sl [tI,tI]] b
 xw:Rw [.sl [tI]] x
 bl:b.length<=1099511627776
 xl:x.length<=1099511627776
 bn:∀ i:Int,(ax b i 0).length<=1099511627776
 xn:∀ i:Int,(ax x i 0).length<=1099511627776
theorem FR {b x:aa}(h:tc b x):∀ n:Nat,0<=Eh b x n/\Eh b x n<=2199023255552*n
 |0=>⟨Int.le_refl _,Int.le_refl _⟩
 | n+1=>by
   have q:=FR h n;have p1:=h.bn n;have p2:=h.xn n;rw[Eh];omega
structure Dv (b x:aa)(i t:Int):Prop where
 ok:upto (IR b x) i
 t:t=Eh b x i.toNat
theorem MQ {b x:aa}:Dv b x 0 0:=⟨aY,rfl⟩
theorem Kf {b x:aa}{i t:Int}(N:tc b x)(h:Dv b x i t)(i0:0<=i)(i1:i<=4):0<=t/\t<=8796093022208:=by
 have q:=FR N i.toNat;have e:=h.t;omega
theorem Kg {b x:aa}{i t k j:Int}(h:Dv b x i t)(i0:0<=i)(hp:upto (An b i) k)(k1:((ax b i 0).length:Int)<=k)(ha:upto (AL x i) j)(j1:((ax x i 0).length:Int)<=j):Dv b x (i+1) (t+((ax b i 0).length+(ax x i 0).length)):=by
 refine⟨aP h.ok ?_,?_⟩
 ·unfold IR;rw[bc hp k1,bc ha j1];rfl
 ·rw[show(i+1).toNat=i.toNat+1 from by omega,Eh, <-h.t,Int.toNat_of_nonneg i0]
theorem HN {b x:aa}(h:inR b.length 1 4=false):mailOk b x=false:=by unfold mailOk;rw[h];rfl
theorem HO {b x:aa}(h:(x.length:Int)≠b.length):mailOk b x=false:=by
 unfold mailOk;rw[decide_eq_false (p:=x.length=b.length) (by omega)];simp
theorem FQ {b x:aa}{i:Int}(i0:0<=i)(i1:i<b.length)(h:IR b x i=false):mailOk b x=false:=by
 unfold mailOk;rw[bB i0 i1 h];simp
theorem Ca {b x:aa}{i k:Int}(i0:0<=i)(i1:i<b.length)(k0:0<=k)(k1:k<(ax b i 0).length)(h:An b i k=false):mailOk b x=false:=
 FQ i0 i1 (by unfold IR;rw[bB k0 k1 h];rfl)
theorem HP {b x:aa}{i k:Int}(i0:0<=i)(i1:i<b.length)(k0:0<=k)(k1:k<(ax x i 0).length)(h:AL x i k=false):mailOk b x=false:=
 FQ i0 i1 (by unfold IR;rw[bB k0 k1 h,Bool.and_false])
theorem HM {b x:aa}{i t:Int}(h:Dv b x i t)(h1:inR b.length 1 4=true)(h2:(x.length:Int)=b.length)(i1:i<=b.length)(i2:(b.length:Int)<=i):mailOk b x=decide (t<=30):=by
 have e:i.toNat=b.length:=by omega
 have q:=h.t;rw[e]at q;unfold mailOk;rw[h1,decide_eq_true (p:=x.length=b.length) (by omega),bc h.ok i2, <-q];rfl
theorem KH {b:aa}{i k:Int}(h:inR (af (ax b i 0) k 0) 0 ((b.length:Int)-1)=false):An b i k=false:=by unfold An;rw[h];rfl
theorem KI {b:aa}{i k:Int}(h:af (ax b i 0) k 1<0):An b i k=false:=by unfold An;rw[decide_eq_false (by omega),Bool.and_false]
theorem KJ {b:aa}{i k:Int}(h:inR (af (ax b i 0) k 0) 0 ((b.length:Int)-1)=true)(g:0<=af (ax b i 0) k 1):An b i k=true:=by unfold An;rw[h,decide_eq_true g];rfl
theorem Md {x:aa}{i k:Int}(h:af (ax x i 0) k 0<0):AL x i k=false:=by unfold AL;rw[decide_eq_false (by omega)]
theorem I2 {x:aa}{i k:Int}(h:0<=af (ax x i 0) k 0):AL x i k=true:=by unfold AL;rw[decide_eq_true h]
end Go.V
namespace Go.V
def Fx (b:aa)(i:Int):Nat->aa
 |0=>[]
 |n+1=>Fx b i n++[[.i (af (ax b i 0) n 1)]]
def Be (b:aa):Nat->aa
 |0=>[]
 |n+1=>Be b n++Fx b n (ax b n 0).length
def Dn (x:aa):Nat->aa
 |0=>[]
 |n+1=>Dn x n++ax x n 0
def ifL (b x:aa):aa:=if mailOk b x then Be b b.length++Dn x x.length else[]
theorem HQ {b x:aa}(h:mailOk b x=true):b.length<=4/\x.length=b.length:=by
 unfold mailOk at h;simp only[Bool.and_eq_true,decide_eq_true_eq,bW]at h;omega
structure EU (b:aa)(i:Int)(o:aa):Prop where
 e:o=Be b i.toNat
 l:o.length<=1099511627776*i.toNat
structure EV (b:aa)(i k:Int)(o:aa):Prop where
 e:o=Be b i.toNat++Fx b i k.toNat
 l:o.length<=1099511627776*i.toNat+k.toNat
structure EW (b x:aa)(j:Int)(o:aa):Prop where
 e:o=Be b b.length++Dn x j.toNat
 l:o.length<=1099511627776*b.length+1099511627776*j.toNat
theorem Mm {b:aa}:EU b 0 []:=⟨rfl,Nat.zero_le _⟩
theorem Mn {b o:aa}{i:Int}(h:EU b i o):EV b i 0 o:=⟨by rw[h.e];simp[Fx],by have:=h.l;omega⟩
theorem Jj {b o:aa}{i k:Int}(h:EV b i k o)(k0:0<=k):EV b i (k+1) (o++[[.i (af (ax b i 0) k 1)]]):=by
 have l:=h.l;have e:=h.e;refine⟨?_,?_⟩
 ·rw[show(k+1).toNat=k.toNat+1 from by omega,Fx,Int.toNat_of_nonneg k0, <-List.append_assoc, <-e]
 ·rw[List.length_append,List.length_cons,List.length_nil];omega
theorem GU {b o:aa}{i k:Int}(h:EV b i k o)(i0:0<=i)(hn:(ax b i 0).length<=1099511627776)(k1:k<=((ax b i 0).length:Int))(k2:((ax b i 0).length:Int)<=k):EU b (i+1) o:=by
 have l:=h.l;have e:=h.e;have ek:k.toNat=(ax b i 0).length:=by omega
 refine⟨?_,by omega⟩;rw[show(i+1).toNat=i.toNat+1 from by omega,Be,Int.toNat_of_nonneg i0, <-ek];exact e
theorem Mo {b x o:aa}{i:Int}(h:EU b i o)(i1:i<=b.length)(i2:(b.length:Int)<=i):EW b x 0 o:=by
 have l:=h.l;have e:=h.e;have ei:i.toNat=b.length:=by omega
 rw[ei]at e l;exact⟨by rw[e];simp[Dn],by omega⟩
theorem Jn {b x o:aa}{j:Int}(h:EW b x j o)(j0:0<=j)(hn:(ax x j 0).length<=1099511627776):EW b x (j+1) (o++ax x j 0):=by
 have l:=h.l;have e:=h.e;refine⟨?_,?_⟩
 ·rw[show(j+1).toNat=j.toNat+1 from by omega,Dn,Int.toNat_of_nonneg j0, <-List.append_assoc, <-e]
 ·rw[List.length_append];omega
theorem G0 {b x o:aa}{j:Int}(h:EW b x j o)(hm:mailOk b x=true)(j1:j<=x.length)(j2:(x.length:Int)<=j):o=ifL b x:=by
 have e:=h.e;rw[show j.toNat=x.length from by omega]at e;unfold ifL;rw[if_pos hm];exact e
theorem ME {b x:aa}(hm:mailOk b x=false):([]:aa)=ifL b x:=by unfold ifL;rw[hm];rfl
end Go.V
namespace Go.V
def Af (cs:aa)(a j:Int):Bool:=chB (ax cs j 0) a
def lkI (cs:aa)(a:Int):Int:=cf (Af cs a) cs.length
def lkB (cs:aa)(a:Int):Bool:=decide (0<=lkI cs a)
structure IF (cs:aa):Prop where
 w:Rw [.sl [.sl [tI]]] cs
 l:cs.length<=1099511627776
 n:∀ i:Int,0<=i->i<cs.length->xg (ax cs i 0)
end Go.V
namespace Go.V
theorem te :∀ {fs:List Ty} {e:av} {j:Nat},b9 fs e->fs[j]?=some tI->∃ n,e[j]?=some (.i n)/\ -9223372036854775808<=n/\n<=9223372036854775807
 |[],_,j,_,h=>by simp at h
 |_::_,[],j,h,_=>h.elim
 | t::ts,l::ls,0,h,e=>by
   simp at e;subst e;have h1:=h.1;cases l with
   | v x=>cases x with
     |int k n=>simp only[cd]at h1;exact⟨n,by simp[h1.1],q8 h1.2⟩
     |_=>simp[cd]at h1
   |_=>simp[cd]at h1
 | t::ts,l::ls,j+1,h,e=>by
   simp at e;obtain⟨n,h1,h2⟩:=te h.2 e;exact⟨n,by simpa using h1,h2⟩
theorem np {fs:List Ty}{es:aa}{i:Int}{j:Nat}(h:Rw fs es)(hj:fs[j]?=some tI)(h1:i.toNat<es.length): -9223372036854775808<=af es i j/\af es i j<=9223372036854775807:=by
 obtain⟨n,e,b⟩:=te (h.at h1) hj;unfold af;rw[List.getD_eq_getElem?_getD (l:=es.getD i.toNat []),e];exact b
theorem Ih {x:Int}(h: -9223372036854775808<=x/\x<=9223372036854775807):Rw [tI] [[.i x]]:=Rw.one (fs:=[tI]) ⟨⟨rfl,h⟩,trivial⟩
def px (os:aa)(f:Nat):Nat->aa
 |0=>[]
 |n+1=>px os f n++[[.i (af os n f)]]
def AB (ls:aa):Nat->aa
 |0=>[]
 |n+1=>AB ls n++ax ls n 0
def vZ (cs:aa):Nat->aa
 |0=>[]
 |n+1=>vZ cs n++AB (ax cs n 0) (ax cs n 0).length
def hdL (os cs qs b x:aa):aa:=(px os 1 os.length++vZ cs cs.length++px qs 0 qs.length)++ifL b x
theorem hE {os:aa}{f:Nat}:∀ n,(px os f n).length=n
 |0=>rfl
 |n+1=>by rw[px,List.length_append,hE n];rfl
theorem xU {fs:List Ty}{os:aa}{f:Nat}(h:Rw fs os)(hf:fs[f]?=some tI)(hl:os.length<=1099511627776):∀ n,n<=os.length->Rw [tI] (px os f n)
 |0,_=>Rw.nil
 |n+1,hn=>Rw.append (xU h hf hl n (by omega)) (Ih (np h hf (by omega))) (by rw[hE];unfold maxLen;simp only[List.length_cons,List.length_nil];omega)
theorem gh {es:aa}{n j:Nat}(h:n<es.length):ak (ax es n j)<=dP (es.getD n []):=by
 unfold ax;rw[Int.toNat_natCast];generalize es.getD n []=r;cases e:r[j]? with
 |none=>rw[List.getD_eq_getElem?_getD,e];exact Nat.zero_le _
 | some l=>
   rw[List.getD_eq_getElem?_getD,e];have q:=yF e;cases l with
   |s sz es=>exact q
   |_=>exact Nat.zero_le _
theorem dw {es:aa}{n:Nat}(h:n<es.length):be (es.take (n+1))=be (es.take n)+dP (es.getD n []):=by
 rw[dx (d:=[]) h,de];simp[be]
theorem fv {es:aa}{n:Nat}:be (es.take n)<=be es:=by
 conv=>rhs;rw[<-List.take_append_drop n es,de]
 omega
theorem pe {ls:aa}:∀ n,n<=ls.length->(AB ls n).length<=be (ls.take n)
 |0,_=>Nat.zero_le _
 | n+1,h=>by
   have q:=pe n (by omega:n<=ls.length);have c:=gh (es:=ls) (n:=n) (j:=0) (by omega);unfold ak at c;rw[AB,List.length_append,dw (by omega)];omega
theorem A9 {ls:aa}(h:Rw [.sl [tI]] ls)(hc:be ls<=1099511627776):∀ n,n<=ls.length->Rw [tI] (AB ls n)
 |0,_=>Rw.nil
 | n+1,hn=>Rw.append (A9 h hc n (by omega)) (Rw.sub (fs:=[.sl [tI]]) h (by omega) rfl) (by
    have q:=pe (n+1) hn;rw[AB,List.length_append]at q;have c:=fv (es:=ls) (n:=n+1);unfold maxLen;omega)
theorem k8 {cs:aa}:∀ n,n<=cs.length->(vZ cs n).length<=be (cs.take n)
 |0,_=>Nat.zero_le _
 | n+1,h=>by
   have q:=k8 n (by omega:n<=cs.length);have c:=gh (es:=cs) (n:=n) (j:=0) (by omega);have d:=pe (ls:=ax cs n 0) (ax cs n 0).length (Nat.le_refl _);rw[List.take_length]at d;unfold ak at c;rw[vZ,List.length_append,dw (by omega)];omega
theorem A7 {cs:aa}(h:Rw [.sl [.sl [tI]]] cs)(hc:be cs<=1099511627776):∀ n,n<=cs.length->Rw [tI] (vZ cs n)
 |0,_=>Rw.nil
 | n+1,hn=>Rw.append (A7 h hc n (by omega)) (A9 (Rw.sub (fs:=[.sl [.sl [tI]]]) h (by omega) rfl) (by
    have c:=gh (es:=cs) (n:=n) (j:=0) (by omega);have d:=dw (es:=cs) (n:=n) (by omega);have e:=fv (es:=cs) (n:=n+1);unfold ak at c;omega) _ (Nat.le_refl _)) (by
    have q:=k8 (n+1) hn;rw[vZ,List.length_append]at q;have c:=fv (es:=cs) (n:=n+1);unfold maxLen;omega)
theorem lu {b:aa}{i:Int}:∀ n,(Fx b i n).length=n
 |0=>rfl
 |n+1=>by rw[Fx,List.length_append,lu n];rfl
theorem Cf {b x:aa}:∀ n:Nat,(((Be b n).length+(Dn x n).length:Nat):Int)=Eh b x n
 |0=>rfl
 | n+1=>by
   have q:=Cf (b:=b) (x:=x) n;rw[Eh,Be,Dn,List.length_append,List.length_append,lu, <-q];omega
theorem mC {b x:aa}:(ifL b x).length<=30:=by
 unfold ifL;by_cases c:mailOk b x=true
 ·rw[if_pos c,List.length_append];have t:=HQ c;unfold mailOk at c;simp only[Bool.and_eq_true,decide_eq_true_eq]at c;have q:=Cf (b:=b) (x:=x) b.length;rw[t.2];omega
 ·rw[if_neg c];exact Nat.zero_le _
theorem Bi {b x:aa}{i:Int}(h:tc b x)(i0:0<=i)(i1:i<b.length):∀ n,n<=(ax b i 0).length->Rw [tI] (Fx b i n)
 |0,_=>Rw.nil
 | n+1,hn=>Rw.append (Bi h i0 i1 n (by omega)) (Ih (np (fs:=[tI,tI]) (Rw.sub (fs:=[.sl [tI,tI]]) h.bw (by omega) rfl) rfl (by omega))) (by
    have:=h.bn i;rw[lu];unfold maxLen;simp only[List.length_cons,List.length_nil];omega)
theorem Bf {b x:aa}(h:tc b x)(hb:b.length<=4):∀ n,n<=b.length->Rw [tI] (Be b n)/\(Be b n).length<=n*1099511627776
 |0,_=>⟨Rw.nil,Nat.zero_le _⟩
 | n+1,hn=>by
   obtain⟨q1,q2⟩:=Bf h hb n (by omega);have l:=h.bn n;refine⟨Rw.append q1 (Bi h (by omega) (by omega) _ (Nat.le_refl _)) (by rw[lu];unfold maxLen;omega),?_⟩;rw[Be,List.length_append,lu];omega
theorem Bm {b x:aa}(h:tc b x)(hb:x.length<=4):∀ n,n<=x.length->Rw [tI] (Dn x n)/\(Dn x n).length<=n*1099511627776
 |0,_=>⟨Rw.nil,Nat.zero_le _⟩
 | n+1,hn=>by
   obtain⟨q1,q2⟩:=Bm h hb n (by omega);have l:=h.xn n;refine⟨Rw.append q1 (Rw.sub (fs:=[.sl [tI]]) h.xw (by omega) rfl) (by unfold maxLen;omega),?_⟩;rw[Dn,List.length_append];omega
theorem tE {b x:aa}(h:tc b x):Rw [tI] (ifL b x):=by
 unfold ifL;by_cases c:mailOk b x=true
 ·rw[if_pos c];have t:=HQ c;obtain⟨q1,l1⟩:=Bf h t.1 b.length (Nat.le_refl _);obtain⟨q2,l2⟩:=Bm h (by omega) x.length (Nat.le_refl _);exact Rw.append q1 q2 (by unfold maxLen;omega)
 ·rw[if_neg c];exact Rw.nil
structure jX (sp lg os cs b x qs:aa):Prop where
 sw:Rw [tI,tI,tI] sp
 lw:Rw [tI,tI,tI] lg
 ow:Rw [tI,tI,tI,tI] os
 cw:Rw [.sl [.sl [tI]]] cs
 qw:Rw [tI,tI,tI] qs
 m:tc b x
 c:IF cs
 sl:sp.length<=1073741824
 ll:lg.length<=1073741824
 ol:os.length<=1073741824
 ql:qs.length<=1073741824
 cl:ak cs<=1073741824
structure Gu (os:aa)(i:Int)(o:aa):Prop where
 e:o=px os 1 i.toNat
structure Gv (os cs:aa)(i:Int)(o:aa):Prop where
 e:o=px os 1 os.length++vZ cs i.toNat
structure EZ (os cs:aa)(i k:Int)(o:aa):Prop where
 e:o=px os 1 os.length++vZ cs i.toNat++AB (ax cs i 0) k.toNat
structure Gw (os cs qs:aa)(j:Int)(o:aa):Prop where
 e:o=px os 1 os.length++vZ cs cs.length++px qs 0 j.toNat
section
variable {sp lg os cs b x qs o : aa} {i k j : Int}
theorem MS :Gu os 0 []:=⟨rfl⟩
theorem Kw (h:Gu os i o)(i0:0<=i):Gu os (i+1) (o++[[.i (af os i 1)]]):=
 ⟨by rw[show(i+1).toNat=i.toNat+1 from by omega,px,Int.toNat_of_nonneg i0, <-h.e]⟩
theorem MU (h:Gu os i o):o.length=i.toNat:=by rw[h.e,hE]
theorem MV (h:Gu os i o)(i1:i<=os.length)(i2:(os.length:Int)<=i):Gv os cs 0 o:=⟨by rw[h.e,show i.toNat=os.length from by omega];simp[vZ]⟩
theorem MW (N:jX sp lg os cs b x qs)(h:Gv os cs i o)(i1:i<=cs.length):o.length<=2147483648:=by
 rw[h.e,List.length_append,hE];have q:=k8 (cs:=cs) i.toNat (by omega);have c:=fv (es:=cs) (n:=i.toNat);have n:=N.cl;have m:=N.ol;unfold ak at n;omega
theorem MX (h:Gv os cs i o):EZ os cs i 0 o:=⟨by rw[h.e];simp[AB]⟩
theorem MZ (N:jX sp lg os cs b x qs)(h:EZ os cs i k o)(i0:0<=i)(i1:i<cs.length)(k1:k<=(ax cs i 0).length):o.length+be ((ax cs i 0).drop k.toNat)<=2147483648:=by
 rw[h.e,List.length_append,List.length_append,hE];have q:=k8 (cs:=cs) i.toNat (by omega);have c:=fv (es:=cs) (n:=i.toNat+1);have d:=dw (es:=cs) (n:=i.toNat) (by omega);have e:=gh (es:=cs) (n:=i.toNat) (j:=0) (by omega);rw[Int.toNat_of_nonneg i0]at e;have f:=pe (ls:=ax cs i 0) k.toNat (by omega);have g:be (ax cs i 0)=be ((ax cs i 0).take k.toNat)+be ((ax cs i 0).drop k.toNat):=by rw[<-de,List.take_append_drop]
 have n:=N.cl;have m:=N.ol;unfold ak at n e;omega
theorem MY (N:jX sp lg os cs b x qs)(h:EZ os cs i k o)(i0:0<=i)(i1:i<cs.length)(k0:0<=k)(k1:k<(ax cs i 0).length):o.length+(ax (ax cs i 0) k 0).length<=2147483648:=by
 have q:=MZ N h i0 i1 (by omega);have e:=gh (es:=ax cs i 0) (n:=k.toNat) (j:=0) (by omega);rw[Int.toNat_of_nonneg k0]at e;have d:dP ((ax cs i 0).getD k.toNat [])<=be ((ax cs i 0).drop k.toNat):=by
  rw[List.drop_eq_getElem_cons (by omega)];rw[List.getD_eq_getElem?_getD,List.getElem?_eq_getElem (by omega)];simp[be]
 unfold ak at e;omega
theorem Ky (h:EZ os cs i k o)(k0:0<=k):EZ os cs i (k+1) (o++ax (ax cs i 0) k 0):=
 ⟨by rw[show(k+1).toNat=k.toNat+1 from by omega,AB,Int.toNat_of_nonneg k0, <-List.append_assoc, <-h.e]⟩
theorem Kx (h:EZ os cs i k o)(i0:0<=i)(k1:k<=((ax cs i 0).length:Int))(k2:((ax cs i 0).length:Int)<=k):Gv os cs (i+1) o:=
 ⟨by rw[show(i+1).toNat=i.toNat+1 from by omega,vZ,Int.toNat_of_nonneg i0, <-List.append_assoc,h.e,show k.toNat=(ax cs i 0).length from by omega]⟩
theorem M0 (h:Gv os cs i o)(i1:i<=cs.length)(i2:(cs.length:Int)<=i):Gw os cs qs 0 o:=⟨by rw[h.e,show i.toNat=cs.length from by omega];simp[px]⟩
theorem Kz (N:jX sp lg os cs b x qs)(h:Gw os cs qs j o)(j1:j<=qs.length):o.length<=4294967296:=by
 rw[h.e,List.length_append,List.length_append,hE,hE];have q:=k8 (cs:=cs) cs.length (Nat.le_refl _);rw[List.take_length]at q;have n:=N.cl;have m:=N.ol;have r:=N.ql;unfold ak at n;omega
theorem KA (h:Gw os cs qs j o)(j0:0<=j):Gw os cs qs (j+1) (o++[[.i (af qs j 0)]]):=
 ⟨by rw[show(j+1).toNat=j.toNat+1 from by omega,px,Int.toNat_of_nonneg j0, <-List.append_assoc, <-h.e]⟩
theorem HY (h:Gw os cs qs j o)(j1:j<=qs.length)(j2:(qs.length:Int)<=j):o++ifL b x=hdL os cs qs b x:=by
 unfold hdL;rw[h.e,show j.toNat=qs.length from by omega]
theorem Bn (N:jX sp lg os cs b x qs):(hdL os cs qs b x).length<=8589934592:=by
 have q:=Kz N (j:=qs.length) (o:=px os 1 os.length++vZ cs cs.length++px qs 0 qs.length) ⟨by simp⟩ (by omega);have f:=mC (b:=b) (x:=x);unfold hdL;rw[List.length_append];omega
theorem Jo (N:jX sp lg os cs b x qs):Rw [tI] (hdL os cs qs b x):=by
 have l:=Bn N;unfold hdL at l ⊢;rw[List.length_append,List.length_append,List.length_append]at l;have cl:=N.cl;have ol:=N.ol;have ql:=N.ql;unfold ak at cl;refine Rw.append (Rw.append (Rw.append (xU N.ow rfl (by omega) _ (Nat.le_refl _)) (A7 N.cw (by omega) _ (Nat.le_refl _)) (by unfold maxLen;omega)) (xU N.qw rfl (by omega) _ (Nat.le_refl _)) (by rw[List.length_append];unfold maxLen;omega)) (tE N.m) (by rw[List.length_append,List.length_append];unfold maxLen;omega)
end
def D3 (e:av):Int:=MI (e.getD 0 .g)
theorem lA {l:aa}{a:Int}:hasB l a=true↔a∈l.map D3:=by
 rw[yO,List.mem_map]
 constructor
 ·rintro⟨k,hk,e⟩;refine⟨l[k],List.getElem_mem _,?_⟩;rw[<-e];unfold af D3;rw[Int.toNat_natCast,List.getD_eq_getElem?_getD (l:=l),List.getElem?_eq_getElem hk];rfl
 ·rintro⟨e,he,q⟩;obtain⟨k,hk,rfl⟩:=List.mem_iff_getElem.1 he;refine⟨k,hk,?_⟩;rw[<-q];unfold af D3;rw[Int.toNat_natCast,List.getD_eq_getElem?_getD (l:=l),List.getElem?_eq_getElem hk];rfl
theorem cE {l m:aa}{a:Int}:hasB (l++m) a=(hasB l a||hasB m a):=by
 refine dr ?_;rw[Bool.or_eq_true,lA,lA,lA,List.map_append,List.mem_append]
theorem yN {x a:Int}:hasB [[.i x]] a=true↔x=a:=by
 rw[lA];show a∈[x]↔x=a;rw[List.mem_singleton];exact⟨Eq.symm,Eq.symm⟩
theorem uE {os:aa}{f:Nat}{a:Int}:∀ n,hasB (px os f n) a=true↔∃ k:Nat,k<n/\af os k f=a
 |0=>⟨fun h=>absurd (lA.1 h) (List.not_mem_nil),fun⟨k,hk,_⟩=>absurd hk (Nat.not_lt_zero _)⟩
 | n+1=>by
   rw[px,cE,Bool.or_eq_true,uE n,yN]
   constructor
   ·rintro(⟨k,hk,e⟩|e)
    ·exact⟨k,by omega,e⟩
    ·exact⟨n,by omega,e⟩
   ·rintro⟨k,hk,e⟩;by_cases c:k=n
    ·subst c;exact .inr e
    ·exact .inl ⟨k,by omega,e⟩
theorem yM {ls:aa}{a:Int}:∀ n,hasB (AB ls n) a=true↔∃ k:Nat,k<n/\hasB (ax ls k 0) a=true
 |0=>⟨fun h=>absurd (lA.1 h) (List.not_mem_nil),fun⟨k,hk,_⟩=>absurd hk (Nat.not_lt_zero _)⟩
 | n+1=>by
   rw[AB,cE,Bool.or_eq_true,yM n]
   constructor
   ·rintro(⟨k,hk,e⟩|e)
    ·exact⟨k,by omega,e⟩
    ·exact⟨n,by omega,e⟩
   ·rintro⟨k,hk,e⟩;by_cases c:k=n
    ·subst c;exact .inr e
    ·exact .inl ⟨k,by omega,e⟩
theorem yL {cs:aa}{a:Int}:∀ n,hasB (vZ cs n) a=true↔∃ k:Nat,k<n/\hasB (AB (ax cs k 0) (ax cs k 0).length) a=true
 |0=>⟨fun h=>absurd (lA.1 h) (List.not_mem_nil),fun⟨k,hk,_⟩=>absurd hk (Nat.not_lt_zero _)⟩
 | n+1=>by
   rw[vZ,cE,Bool.or_eq_true,yL n]
   constructor
   ·rintro(⟨k,hk,e⟩|e)
    ·exact⟨k,by omega,e⟩
    ·exact⟨n,by omega,e⟩
   ·rintro⟨k,hk,e⟩;by_cases c:k=n
    ·subst c;exact .inr e
    ·exact .inl ⟨k,by omega,e⟩
theorem fe {p:Int->Bool}{n:Nat}:0<=cf p n↔∃ k:Nat,k<n/\p k=true:=by
 constructor
 ·intro h;obtain⟨h1,h2⟩:=gS h;obtain⟨k,e⟩:=Int.eq_ofNat_of_zero_le h;rw[e]at h1 h2;exact⟨k,by omega,h2⟩
 ·rintro⟨k,h1,h2⟩;exact lr h1 h2
theorem BZ {cs:aa}{a:Int}:lkB cs a=true↔hasB (vZ cs cs.length) a=true:=by
 unfold lkB lkI;rw[decide_eq_true_eq,fe,yL];refine exists_congr fun k=>and_congr_right fun _=>?_
 unfold Af chB chI;rw[decide_eq_true_eq,fe,yM];rfl
theorem CJ {qs:aa}{a:Int}:qtB qs a=true↔hasB (px qs 0 qs.length) a=true:=by
 unfold qtB qtI;rw[decide_eq_true_eq,fe,uE];refine exists_congr fun k=>and_congr_right fun _=>?_
 unfold rc;exact⟨fun h=>by simpa[eqB]using h,fun h=>lh h⟩
theorem Cj {os:aa}{a:Int}:0<=obI os a↔hasB (px os 1 os.length) a=true:=by
 unfold obI;rw[fe,uE];refine exists_congr fun k=>and_congr_right fun _=>?_
 unfold wj;exact⟨fun h=>by simpa[eqB]using h,fun h=>lh h⟩
def vL (os cs qs b x:aa)(a:Int):Bool:= !hasB (hdL os cs qs b x) a
theorem MR {os cs qs b x:aa}{a:Int}(h1:obI os a<0)(h2:lkB cs a=false)(h3:qtB qs a=false)(h4:hasB (ifL b x) a=false):vL os cs qs b x a=true:=by
 unfold vL hdL;rw[cE,cE,cE,h4];have q1:hasB (px os 1 os.length) a=false:=by
  cases c:hasB (px os 1 os.length) a with
  |false=>rfl
  |true=>have:=Cj.2 c;omega
 have q2:hasB (vZ cs cs.length) a=false:=by
  cases c:hasB (vZ cs cs.length) a with
  |false=>rfl
  |true=>rw[BZ.2 c]at h2;cases h2
 have q3:hasB (px qs 0 qs.length) a=false:=by
  cases c:hasB (px qs 0 qs.length) a with
  |false=>rfl
  |true=>rw[CJ.2 c]at h3;cases h3
 rw[q1,q2,q3];rfl
theorem Ko {os cs qs b x:aa}{a:Int}(h:0<=obI os a):vL os cs qs b x a=false:=by
 unfold vL hdL;rw[cE,cE,cE,Cj.1 h];rfl
theorem Kp {os cs qs b x:aa}{a:Int}(h:lkB cs a=true):vL os cs qs b x a=false:=by
 unfold vL hdL;rw[cE,cE,cE,BZ.1 h];simp
theorem Kq {os cs qs b x:aa}{a:Int}(h:qtB qs a=true):vL os cs qs b x a=false:=by
 unfold vL hdL;rw[cE,cE,cE,CJ.1 h];simp
theorem Kr {os cs qs b x:aa}{a:Int}(h:hasB (ifL b x) a=true):vL os cs qs b x a=false:=by
 unfold vL hdL;rw[cE,cE,cE,h];simp
theorem Ei {os cs qs b x:aa}{a:Int}{c:Bool}(h:hasB (hdL os cs qs b x) a=c):vL os cs qs b x a= !c:=by unfold vL;rw[h]
def D1 (p:Int->Bool)(l:aa):Nat->aa
 |0=>[]
 |n+1=>D1 p l n++(if p (af l n 0)then[[.i (af l n 0)]]else[])
def lksL (sp lg os cs b x qs:aa):aa:=D1 (vL os cs qs b x) (laL sp lg) (laL sp lg).length
structure r9 (p:Int->Bool)(l:aa)(i:Int)(o:aa):Prop where
 e:o=D1 p l i.toNat
 l:o.length<=i.toNat
section
variable {p : Int -> Bool} {l o : aa} {i : Int}
theorem Fw :r9 p l 0 []:=⟨rfl,Nat.zero_le _⟩
theorem uy (h:r9 p l i o)(i0:0<=i)(hp:p (af l i 0)=true):r9 p l (i+1) (o++[[.i (af l i 0)]]):=by
 have q:=h.l;refine⟨by rw[show(i+1).toNat=i.toNat+1 from by omega,D1,Int.toNat_of_nonneg i0,if_pos hp, <-h.e],?_⟩;rw[List.length_append,List.length_cons,List.length_nil];omega
theorem mA (h:r9 p l i o)(i0:0<=i)(hp:p (af l i 0)=false):r9 p l (i+1) o:=by
 have q:=h.l;refine⟨by rw[show(i+1).toNat=i.toNat+1 from by omega,D1,Int.toNat_of_nonneg i0,hp, <-h.e];simp,by omega⟩
theorem yJ (h:r9 p l i o)(i1:i<=l.length)(i2:(l.length:Int)<=i):o=D1 p l l.length:=by rw[h.e,show i.toNat=l.length from by omega]
end
theorem mE {sp lg:aa}:(laL sp lg).length<=512:=by
 have k:∀ n,(Do sp lg n).length<=n:=by
  intro n
  induction n with
  |zero=>exact Nat.le_refl _
  |succ n ih=>rw[Do,List.length_append];split<;>simp<;>omega
 unfold laL;split
 ·exact k 512
 ·exact Nat.zero_le _
theorem yW {sp lg:aa}:Rw [tI] (laL sp lg):=by
 unfold laL;by_cases c:layOk sp lg=true
 ·rw[if_pos c,rh];refine mP (fun x hx=>?_) ?_
  ·have:=lH.1 hx;omega
  ·have q:=mE (sp:=sp) (lg:=lg);unfold laL at q;rw[if_pos c,rh,bS]at q;omega
 ·rw[if_neg c];exact Rw.nil
theorem Bh {p:Int->Bool}{l:aa}(h:Rw [tI] l)(hl:l.length<=1099511627776):∀ n,n<=l.length->Rw [tI] (D1 p l n)/\(D1 p l n).length<=n
 |0,_=>⟨Rw.nil,Nat.zero_le _⟩
 | n+1,hn=>by
   obtain⟨q1,q2⟩:=Bh (p:=p) h hl n (by omega);rw[D1];by_cases c:p (af l n 0)=true
   ·rw[if_pos c];exact⟨Rw.append q1 (Ih (np h rfl (by omega))) (by unfold maxLen;simp only[List.length_cons,List.length_nil];omega),by rw[List.length_append,List.length_cons,List.length_nil];omega⟩
   ·rw[if_neg c,List.append_nil];exact⟨q1,by omega⟩
theorem HD {sp lg os cs b x qs:aa}:Rw [tI] (lksL sp lg os cs b x qs)/\(lksL sp lg os cs b x qs).length<=512:=by
 obtain⟨h1,h2⟩:=Bh (p:=vL os cs qs b x) (yW (sp:=sp) (lg:=lg)) (by have:=mE (sp:=sp) (lg:=lg);omega) _ (Nat.le_refl _);exact⟨h1,Nat.le_trans h2 mE⟩
theorem nE {l:aa}{i:Int}(h:Rw [tI] l)(h0:0<=i)(h1:i<l.length):∃ rec o,bR (L.s 1 l) [(i.toNat,0)]=some (rec,o)/\o+[L.v (Value.int IntKind.i64 0)].length<=rec.length/\List.take [L.v (Value.int IntKind.i64 0)].length (List.drop o rec)=kn ai (L.s 1 l) [(i.toNat,0)] 0 [L.v (Value.int IntKind.i64 0)]:=
 CR (z0:=[.i 0]) (z:=[.i 0]) h.wf (by omega) rfl (by decide)
theorem uB {es:aa}{i:Int}{j:Nat}:ak (ax es i j)<=ak es:=by
 by_cases c:i.toNat<es.length
 ·have q:=gh (j:=j) c;rw[show ax es (i.toNat:Nat) j=ax es i j from by unfold ax;rw[Int.toNat_natCast]]at q;have d:=dw c;have e:=fv (es:=es) (n:=i.toNat+1);unfold ak at q ⊢;omega
 ·have e:ax es i j=[]:=by
   unfold ax;rw[List.getD_eq_getElem?_getD (l:=es),List.getElem?_eq_none (by omega)];simp[BQ]
  rw[e];exact Nat.zero_le _
theorem HW {ls:aa}(h:Rw [.sl [tI]] ls)(hc:ak ls<=1073741824):xg ls:=by
 refine⟨h,by unfold ak at hc;omega,fun i=>?_⟩;have:=uB (es:=ls) (i:=i) (j:=0);unfold ak at this hc;omega
theorem HV {cs:aa}(h:Rw [.sl [.sl [tI]]] cs)(hc:ak cs<=1073741824):IF cs:=by
 refine⟨h,by unfold ak at hc;omega,fun i i0 i1=>HW (Rw.sub (fs:=[.sl [.sl [tI]]]) h (by omega) rfl) ?_⟩;exact Nat.le_trans uB hc
theorem HX {b x:aa}(hb:Rw [.sl [tI,tI]] b)(hx:Rw [.sl [tI]] x)(cb:ak b<=1073741824)(cx:ak x<=1073741824):tc b x:=by
 refine⟨hb,hx,by unfold ak at cb;omega,by unfold ak at cx;omega,fun i=>?_,fun i=>?_⟩
 ·have:=uB (es:=b) (i:=i) (j:=0);unfold ak at this cb;omega
 ·have:=uB (es:=x) (i:=i) (j:=0);unfold ak at this cx;omega
theorem Ci {sp lg os cs b x qs:aa}(hs:Rw [tI,tI,tI] sp)(hl:Rw [tI,tI,tI] lg)(ho:Rw [tI,tI,tI,tI] os)(hc:Rw [.sl [.sl [tI]]] cs)(hb:Rw [.sl [tI,tI]] b)(hx:Rw [.sl [tI]] x)(hq:Rw [tI,tI,tI] qs) 
 (cs1:ak sp<=1048576) (cl:ak lg<=1048576) (co:ak os<=1048576) (cc:ak cs<=1048576) (cb:ak b<=1048576) (cx:ak x<=1048576) (cq:ak qs<=1048576):jX sp lg os cs b x qs:=
 ⟨hs,hl,ho,hc,hq,HX hb hx (by omega) (by omega),HV hc (by omega),by unfold ak at cs1;omega,by unfold ak at cl;omega,by unfold ak at co;omega,by unfold ak at cq;omega,by omega⟩
end Go.V
namespace Go.V
theorem sY {i:Int}(h:0<=i)(h1:i<=9223372036854775807):bP .sub .i64 i 1=i-1:=cR (by omega)
theorem rN {es:aa}{i:Int}:Ar es (Int.toNat 0) (Mj i 0)=es.take i.toNat:=by simp[Ar,Mj]
theorem cmp_eq {a b:Int}:cp .eql a b=decide (a=b):=by unfold cp;by_cases c:a=b<;>simp[c]
theorem uu {a b:Int}:cp .neq a b=decide (a≠b):=by unfold cp;by_cases c:a=b<;>simp[c]
def rngIn (n a l:Int):Bool:=inR l 1 n&&inR a 0 (n-l)
def oY (n:Int)(rs:aa)(i:Int):Bool:=rngIn n (af rs i 0) (af rs i 1)&& !(decide (0<i)&&decide (af rs i 0<=bP .add .i64 (af rs (i-1) 0) (af rs (i-1) 1)))
def rgOk (n:Int)(rs:aa):Bool:=bU (oY n rs) rs.length&&inR n 1 32
section
variable {n i : Int} {rs : aa}
theorem Ib (i0:0<=i)(i1:i<rs.length)(h:rngIn n (af rs i 0) (af rs i 1)=false):rgOk n rs=false:=by
 unfold rgOk;rw[bB i0 i1 (by unfold oY;rw[h];rfl)];rfl
theorem Ic (i0:0<=i)(i1:i<rs.length)(h:0<i)(g:af rs i 0<=bP .add .i64 (af rs (i-1) 0) (af rs (i-1) 1)):rgOk n rs=false:=by
 unfold rgOk;rw[bB i0 i1 (by unfold oY;rw[decide_eq_true h,decide_eq_true g];simp)];rfl
theorem EA (h:rngIn n (af rs i 0) (af rs i 1)=true)(g:i<=0):oY n rs i=true:=by
 unfold oY;rw[h,decide_eq_false (by omega)];rfl
theorem EB (h:rngIn n (af rs i 0) (af rs i 1)=true)(g:bP .add .i64 (af rs (i-1) 0) (af rs (i-1) 1)<af rs i 0):oY n rs i=true:=by
 unfold oY;rw[h,decide_eq_false (p:=af rs i 0<=_) (by omega)];simp
theorem Ia (h:upto (oY n rs) i)(g:(rs.length:Int)<=i):inR n 1 32=rgOk n rs:=by unfold rgOk;rw[bc h g];rfl
end
def lB (rs:aa)(p j:Int):Bool:=decide (af rs j 0<=p)&&decide (p<bP .add .i64 (af rs j 0) (af rs j 1))
def rhI (rs:aa)(p:Int):Int:=cf (lB rs p) rs.length
def rhB (rs:aa)(p:Int):Bool:=decide (0<=rhI rs p)
def rh1 (a l p:Int):Bool:=decide (a<=p)&&decide (p<bP .add .i64 a l)
theorem Ie {rs:aa}{p i:Int}(h:upto (bY (lB rs p)) i)(h0:0<=i)(h1:i<rs.length)(a:af rs i 0<=p)(b:p<bP .add .i64 (af rs i 0) (af rs i 1)):rhB rs p=true:=by
 unfold rhB rhI;rw[cN h h0 h1 (by unfold lB;rw[decide_eq_true a,decide_eq_true b];rfl)];exact decide_eq_true h0
theorem Lb {rs:aa}{p i:Int}(h:upto (bY (lB rs p)) i)(h1:(rs.length:Int)<=i):rhB rs p=false:=by
 unfold rhB rhI;rw[cO h h1];rfl
theorem K9 {rs:aa}{p i:Int}(a:p<af rs i 0):bY (lB rs p) i=true:=by unfold bY lB;rw[decide_eq_false (by omega)];rfl
theorem La {rs:aa}{p i:Int}(b:bP .add .i64 (af rs i 0) (af rs i 1)<=p):bY (lB rs p) i=true:=by unfold bY lB;rw[decide_eq_false (p:=p<_) (by omega)];simp
def mshB (p1 k1 b1 p2 k2 b2:Int):Bool:=spOk p1 k1 b1&&(spOk p2 k2 b2&&(decide (k1=k2)&&(decide (p1≠p2)&&decide (bP .and .i64 b1 b2=0))))
def H7 (qs:aa):Nat->Int
 |0=>0
 |n+1=>H7 qs n+clsSz (af qs n 1)
def qcI (qs:aa):Int:=H7 qs qs.length
theorem yD {k:Int}:0<=clsSz k/\clsSz k<=8:=by
 unfold clsSz;repeat' split
 all_goals omega
theorem Gc {qs:aa}:∀ n:Nat,0<=H7 qs n/\H7 qs n<=8*n
 |0=>⟨Int.le_refl _,Int.le_refl _⟩
 |n+1=>by have q:=Gc (qs:=qs) n;have c:=yD (k:=af qs n 1);rw[H7];omega
structure Dw (qs:aa)(i t:Int):Prop where
 e:t=H7 qs i.toNat
theorem M6 {qs:aa}:Dw qs 0 0:=⟨rfl⟩
theorem M7 {qs:aa}{i t:Int}(h:Dw qs i t)(i0:0<=i):0<=t/\t<=8*i:=by have q:=Gc (qs:=qs) i.toNat;rw[<-h.e]at q;omega
theorem K1 {qs:aa}{i t:Int}(h:Dw qs i t)(i0:0<=i)(i1:i<=1099511627776):Dw qs (i+1) (bP .add .i64 t (clsSz (af qs i 1))):=by
 have b:=M7 h i0;have c:=yD (k:=af qs i 1);refine⟨?_⟩;rw[show bP .add .i64 t (clsSz (af qs i 1))=t+clsSz (af qs i 1)from bC (by omega),show(i+1).toNat=i.toNat+1 from by omega,H7, <-h.e,Int.toNat_of_nonneg i0]
theorem H8 {qs:aa}{i t:Int}(h:Dw qs i t)(i1:i<=qs.length)(i2:(qs.length:Int)<=i):t=qcI qs:=by unfold qcI;rw[h.e,show i.toNat=qs.length from by omega]
def stlOk (b:aa)(a c s:Int):Bool:=inR c 0 3&&(decide (0<=a)&&(decide (0<=s)&&(!qtB b a&&(decide (b.length=0)||decide (af b (b.length-1:Int) 2<=s)))))
def wB (qs:aa)(i:Int):Bool:=stlOk (qs.take i.toNat) (af qs i 0) (af qs i 1) (af qs i 2)
def quarOk (rm:Int)(qs:aa):Bool:=bU (wB qs) qs.length&&(inR rm 0 500&&decide (qcI qs<=rm))
def staB (a c s:Int):Bool:=inR c 0 3&&(decide (0<=a)&&decide (0<=s))
theorem pk {es:aa}{n:Nat}{i:Int}{j:Nat}(h:i.toNat<n):af (es.take n) i j=af es i j:=by
 unfold af;rw[List.getD_eq_getElem?_getD (l:=es.take n),List.getElem?_take,if_pos h,List.getD_eq_getElem?_getD (l:=es)]
section
variable {rm i : Int} {qs : aa}
theorem zB (i0:0<=i)(i1:i<qs.length)(h:wB qs i=false):quarOk rm qs=false:=by unfold quarOk;rw[bB i0 i1 h];rfl
theorem CI (h:upto (wB qs) i)(g:(qs.length:Int)<=i):quarOk rm qs=(inR rm 0 500&&decide (qcI qs<=rm)):=by unfold quarOk;rw[bc h g];rfl
theorem KW (h:staB (af qs i 0) (af qs i 1) (af qs i 2)=false):wB qs i=false:=by
 unfold wB stlOk;unfold staB at h
 revert h
 cases inR (af qs i 1) 0 3<;>cases decide (0<=af qs i 0)<;>cases decide (0<=af qs i 2)<;>simp
theorem zA (i0:0<i)(i1:i<qs.length):(decide ((qs.take i.toNat).length=0)||decide (af (qs.take i.toNat) ((qs.take i.toNat).length-1:Int) 2<=af qs i 2))=decide (af qs (i-1) 2<=af qs i 2):=by
 have e:(qs.take i.toNat).length=i.toNat:=by rw[List.length_take];omega
 rw[e,pk (by omega),decide_eq_false (p:=i.toNat=0) (by omega),show((i.toNat:Nat):Int)-1=i-1 from by omega];rfl
theorem KX (i0:0<i)(i1:i<qs.length)(h:af qs i 2<af qs (i-1) 2):wB qs i=false:=by
 unfold wB stlOk;rw[zA i0 i1,decide_eq_false (p:=af qs (i-1) 2<=af qs i 2) (by omega)];simp
theorem KY (h:qtB (qs.take i.toNat) (af qs i 0)=true):wB qs i=false:=by unfold wB stlOk;rw[h];simp
theorem KZ (h:staB (af qs i 0) (af qs i 1) (af qs i 2)=true)(g:qtB (qs.take i.toNat) (af qs i 0)=false)(i0:0<=i)(z:i<=0):wB qs i=true:=by
 unfold wB stlOk;unfold staB at h;simp only[Bool.and_eq_true]at h;have e:i=0:=by omega
 subst e;rw[h.1,h.2.1,h.2.2,g];rfl
theorem K0 (h:staB (af qs i 0) (af qs i 1) (af qs i 2)=true)(g:qtB (qs.take i.toNat) (af qs i 0)=false)(i0:0<i)(i1:i<qs.length)(z:af qs (i-1) 2<=af qs i 2):wB qs i=true:=by
 unfold wB stlOk;unfold staB at h;simp only[Bool.and_eq_true]at h;rw[zA i0 i1,h.1,h.2.1,h.2.2,g,decide_eq_true z];rfl
end
def pa (ls:aa)(i:Int):Nat->List Int
 |0=>[]
 |n+1=>pa ls i n++[af (ax ls i 0) n 0]
def pd (ls:aa):Nat->List Int
 |0=>[]
 |n+1=>pd ls n++pa ls n (ax ls n 0).length
def E9 (ls:aa)(i k:Int):Bool:=inR (af (ax ls i 0) k 0) 0 511&&decide (bP .rem .i64 (af (ax ls i 0) k 0) (clsSz i)=0)
def GK (ls:aa)(i:Int):Bool:=decide ((ax ls i 0).length<=8)&&bU (E9 ls i) (ax ls i 0).length
def caOk (ls:aa):Bool:=decide (ls.length=4)&&(bU (GK ls) 4&&decide ((pd ls 4).Nodup))
theorem pc {ls:aa}{i:Int}:∀ n,(pa ls i n).length=n
 |0=>rfl
 |n+1=>by rw[pa,List.length_append,pc n];rfl
theorem yA {ls:aa}{i:Int}:∀ (m n:Nat),n<=m->∃ r,pa ls i m=pa ls i n++r
 |0,n,h=>⟨[],by rw[show n=0 from by omega];rfl⟩
 | m+1,n,h=>by
   by_cases c:n=m+1
   ·subst c;exact⟨[],by simp⟩
   ·obtain⟨r,e⟩:=yA (ls:=ls) (i:=i) m n (by omega);exact⟨r++[af (ax ls i 0) m 0],by rw[pa,e,List.append_assoc]⟩
theorem yB {ls:aa}:∀ (m n:Nat),n<=m->∃ r,pd ls m=pd ls n++r
 |0,n,h=>⟨[],by rw[show n=0 from by omega];rfl⟩
 | m+1,n,h=>by
   by_cases c:n=m+1
   ·subst c;exact⟨[],by simp⟩
   ·obtain⟨r,e⟩:=yB (ls:=ls) m n (by omega);exact⟨r++pa ls m (ax ls m 0).length,by rw[pd,e,List.append_assoc]⟩
theorem qL {ls:aa}{i k:Int}(h:0<=k):pa ls i (k+1).toNat=pa ls i k.toNat++[af (ax ls i 0) k 0]:=by
 rw[show(k+1).toNat=k.toNat+1 from by omega,pa,Int.toNat_of_nonneg h]
theorem qM {ls:aa}{i:Int}(h:0<=i):pd ls (i+1).toNat=pd ls i.toNat++pa ls i (ax ls i 0).length:=by
 rw[show(i+1).toNat=i.toNat+1 from by omega,pd,Int.toNat_of_nonneg h]
structure Gn (ls:aa)(i:Int):Prop where
 ok:upto (GK ls) i
 nd:(pd ls i.toNat).Nodup
 l:i<=4
 b:∀ x∈pd ls i.toNat,0<=x/\x<=511
 n:(pd ls i.toNat).length<=8*i.toNat
structure Iu (ls:aa)(i k:Int):Prop where
 ok:upto (GK ls) i
 nd:(pd ls i.toNat++pa ls i k.toNat).Nodup
 l:i<=3
 s:(ax ls i 0).length<=8
 bk:upto (E9 ls i) k
 b:∀ x∈pd ls i.toNat++pa ls i k.toNat,0<=x/\x<=511
 n:(pd ls i.toNat).length<=8*i.toNat
section
variable {ls : aa} {i k : Int}
theorem I3 :Gn ls 0:=⟨aY,List.nodup_nil,by omega,(fun x hx=>by cases hx),Nat.zero_le _⟩
theorem I5 (h:Gn ls i)(i0:0<=i)(c:inR i 0 3=true)(s:(ax ls i 0).length<=8):Iu ls i 0:=
 ⟨h.ok,by simpa[pa]using h.nd,(bW.1 c).2,s,aY,by simpa[pa]using h.b,h.n⟩
theorem Ff (h:Iu ls i k)(k0:0<=k)(h1:inR (af (ax ls i 0) k 0) 0 511=true)(h2:bP .rem .i64 (af (ax ls i 0) k 0) (clsSz i)=0)(h3:af (ax ls i 0) k 0∉pd ls i.toNat++pa ls i k.toNat):Iu ls i (k+1):=by
 refine⟨h.ok,?_,h.l,h.s,aP h.bk (by unfold E9;rw[h1,decide_eq_true h2];rfl),?_,h.n⟩
 ·rw[qL k0, <-List.append_assoc];exact fT h.nd h3
 ·rw[qL k0, <-List.append_assoc];intro x hx;rcases List.mem_append.1 hx with q|q
  ·exact h.b x q
  ·simp at q;subst q;exact bW.1 h1
theorem Fb (h:Iu ls i k)(i0:0<=i)(k1:k<=((ax ls i 0).length:Int))(k2:((ax ls i 0).length:Int)<=k):Gn ls (i+1):=by
 have e:k.toNat=(ax ls i 0).length:=by omega
 have nd:=h.nd;have b:=h.b;have n:=h.n;have s:=h.s;have l:=h.l;rw[e, <-qM i0]at nd b;refine⟨aP h.ok (by unfold GK;rw[decide_eq_true h.s,bc h.bk k2];rfl),nd,by omega,b,?_⟩;rw[qM i0,List.length_append,pc];omega
theorem uo (h:(ls.length:Int)≠4):caOk ls=false:=by unfold caOk;rw[decide_eq_false (by omega)];rfl
theorem Fa (i0:0<=i)(l:i<=3)(h:GK ls i=false):caOk ls=false:=by unfold caOk;rw[bB (n:=4) i0 (by omega) h];simp
theorem A3 (i0:0<=i)(h:8<(ax ls i 0).length)(l:i<=3):caOk ls=false:=Fa i0 l (by unfold GK;rw[decide_eq_false (by omega)];rfl)
theorem uq (i0:0<=i)(l:i<=3)(k0:0<=k)(k1:k<(ax ls i 0).length)(h:E9 ls i k=false):caOk ls=false:=Fa i0 l (by unfold GK;rw[bB k0 k1 h,Bool.and_false])
theorem Fc (h:inR (af (ax ls i 0) k 0) 0 511=false):E9 ls i k=false:=by unfold E9;rw[h];rfl
theorem Fe (h:bP .rem .i64 (af (ax ls i 0) k 0) (clsSz i)≠0):E9 ls i k=false:=by unfold E9;rw[decide_eq_false h,Bool.and_false]
theorem A2 (i0:0<=i)(l:i<=3)(k0:0<=k)(k1:k<(ax ls i 0).length)(h:af (ax ls i 0) k 0∈pd ls i.toNat++pa ls i k.toNat):caOk ls=false:=by
 obtain⟨r,e⟩:=yB (ls:=ls) 4 (i+1).toNat (by omega);obtain⟨r2,e2⟩:=yA (ls:=ls) (i:=i) (ax ls i 0).length (k+1).toNat (by omega);rw[qM i0,e2,qL k0]at e;have:¬ (pd ls 4).Nodup:=dup (a:=pd ls i.toNat++pa ls i k.toNat) (b:=r2++r) (x:=af (ax ls i 0) k 0) (by rw[e];simp only[List.append_assoc];rfl) h;unfold caOk;rw[decide_eq_false this];simp
theorem A4 (h:Gn ls i)(h1:(ls.length:Int)=4)(i2:4<=i):caOk ls=true:=by
 have l:=h.l;have e:i=4:=by omega
 subst e;unfold caOk;rw[decide_eq_true (by omega),bc h.ok (by omega),decide_eq_true (p:=(pd ls 4).Nodup) h.nd];rfl
theorem GL (h:Gn ls i)(i1:i<=ls.length)(i2:(ls.length:Int)<=i):decide ((ls.length:Int)=4)=caOk ls:=by
 by_cases c:(ls.length:Int)=4
 ·rw[A4 h c (by omega)];exact decide_eq_true c
 ·rw[uo c];exact decide_eq_false c
end
structure I1 (ls:aa)(i:Int)(o:aa):Prop where
 p:Gn ls i
 e:o=eK (pd ls i.toNat)
structure E3 (ls:aa)(i k:Int)(o:aa):Prop where
 p:Iu ls i k
 e:o=eK (pd ls i.toNat++pa ls i k.toNat)
structure xm (ls:aa)(i:Int)(es:aa):Prop where
 p:Gn ls i
 s:jZ es (pd ls i.toNat)
structure xo (ls:aa)(i k:Int)(es:aa):Prop where
 p:Iu ls i k
 s:jZ es (pd ls i.toNat++pa ls i k.toNat)
section
variable {ls o es : aa} {i k : Int}
theorem Nw :I1 ls 0 []:=⟨I3,rfl⟩
theorem Nx (h:I1 ls i o)(i0:0<=i)(i1:i<4)(s:(ax ls i 0).length<=8):E3 ls i 0 o:=⟨I5 h.p i0 (bW.2 (by omega)) s,by rw[h.e];simp[pa]⟩
theorem Lp (h:E3 ls i k o)(k0:0<=k)(h1:inR (af (ax ls i 0) k 0) 0 511=true)(h2:bP .rem .i64 (af (ax ls i 0) k 0) (clsSz i)=0)(h3:hasB o (af (ax ls i 0) k 0)=false):E3 ls i (k+1) (o++[[.i (af (ax ls i 0) k 0)]]):=by
 have e:=h.e;rw[e]at h3;refine⟨Ff h.p k0 h1 h2 (pm h3),?_⟩;rw[qL k0, <-List.append_assoc,dU, <-e];rfl
theorem Lo (h:E3 ls i k o)(i0:0<=i)(k1:k<=((ax ls i 0).length:Int))(k2:((ax ls i 0).length:Int)<=k):I1 ls (i+1) o:=
 ⟨Fb h.p i0 k1 k2,by rw[qM i0,h.e,show k.toNat=(ax ls i 0).length from by omega]⟩
theorem Ij (h:E3 ls i k o)(i0:0<=i)(k0:0<=k)(k1:k<(ax ls i 0).length)(h3:hasB o (af (ax ls i 0) k 0)=true):caOk ls=false:=by
 rw[h.e,jF]at h3;exact A2 i0 h.p.l k0 k1 h3
theorem Ik (h:E3 ls i k o)(k0:0<=k):o.length<=40+k.toNat/\Rw [tI] o:=by
 have n:=h.p.n;have l:=h.p.l;have s:=h.p.s;have q:o.length<=40+k.toNat:=by rw[h.e,bS,List.length_append,pc];omega
 refine⟨q,?_⟩;rw[h.e];have nd:=h.p.nd;refine mP (fun x hx=>by have:=h.p.b x hx;omega) ?_;rw[<-bS, <-h.e];have bd:k.toNat<=512\/512<k.toNat:=by omega
 rcases bd with bd|bd
 ·omega
 ·exfalso;have c:=List.Nodup.length_le_of_subset (l₁:=pd ls i.toNat++pa ls i k.toNat) (l₂:=(List.range 512).map fun j:Nat=>(j:Int)) nd (fun x hx=>by
   have b:=h.p.b x hx;rw[List.mem_map];exact⟨x.toNat,List.mem_range.2 (by omega),by omega⟩)
  rw[List.length_append,pc,List.length_map,List.length_range]at c;omega
theorem JP :xm ls 0 []:=⟨I3,yc⟩
theorem JQ (h:xm ls i es)(i0:0<=i)(c:inR i 0 3=true)(s:(ax ls i 0).length<=8):xo ls i 0 es:=⟨I5 h.p i0 c s,by simpa[pa]using h.s⟩
theorem Hm (h:xo ls i k es)(k0:0<=k)(h1:inR (af (ax ls i 0) k 0) 0 511=true)(h2:bP .rem .i64 (af (ax ls i 0) k 0) (clsSz i)=0)(h3:mgbI es (af (ax ls i 0) k 0)=false):xo ls i (k+1) (gK es (af (ax ls i 0) k 0) (.v (.bool true))):=by
 refine⟨Ff h.p k0 h1 h2 (fun m=>by rw[(h.s.at_ _).2 m]at h3;cases h3),?_⟩;rw[qL k0, <-List.append_assoc];exact pC h.s
theorem Hl (h:xo ls i k es)(i0:0<=i)(k1:k<=((ax ls i 0).length:Int))(k2:((ax ls i 0).length:Int)<=k):xm ls (i+1) es:=
 ⟨Fb h.p i0 k1 k2,by have s:=h.s;rw[show k.toNat=(ax ls i 0).length from by omega]at s;rw[qM i0];exact s⟩
theorem D7 (h:xo ls i k es)(i0:0<=i)(k0:0<=k)(k1:k<(ax ls i 0).length)(h3:mgbI es (af (ax ls i 0) k 0)=true):caOk ls=false:=A2 i0 h.p.l k0 k1 ((h.s.at_ _).1 h3)
theorem D5 (h:xm ls i es)(i0:0<=i)(s:8<(ax ls i 0).length)(i1:i<ls.length):caOk ls=false:=by
 by_cases c:(ls.length:Int)=4
 ·exact A3 i0 s (by omega)
 ·exact uo c
theorem D6 (h:xm ls i es)(i0:0<=i)(c:inR i 0 3=false)(i1:i<ls.length):caOk ls=false:=by
 have:=q9.1 c;exact uo (by omega)
end
def AF (cs:aa)(i:Int):Bool:=inR (af cs i 0) 0 15&& !(decide (0<i)&&decide (af cs i 0<=af cs (i-1) 0))
def plOk (k m:Int)(cs:aa):Bool:=bU (AF cs) cs.length&&(inR k 0 31&&(inR m 0 31&&decide (k≠m)))
def jbOk (k m:Int)(cs:aa)(ph nx:Int):Bool:=plOk k m cs&&(inR ph 0 5&&inR nx 0 cs.length)
section
variable {k m i : Int} {cs : aa}
theorem CC (i0:0<=i)(i1:i<cs.length)(h:inR (af cs i 0) 0 15=false):plOk k m cs=false:=by
 unfold plOk;rw[bB i0 i1 (by unfold AF;rw[h];rfl)];rfl
theorem CE (i0:0<=i)(i1:i<cs.length)(h:0<i)(g:af cs i 0<=af cs (i-1) 0):plOk k m cs=false:=by
 unfold plOk;rw[bB i0 i1 (by unfold AF;rw[decide_eq_true h,decide_eq_true g];simp)];rfl
theorem zw (h:inR (af cs i 0) 0 15=true)(g:i<=0):AF cs i=true:=by unfold AF;rw[h,decide_eq_false (by omega)];rfl
theorem zx (h:inR (af cs i 0) 0 15=true)(g:af cs (i-1) 0<af cs i 0):AF cs i=true:=by
 unfold AF;rw[h,decide_eq_false (p:=af cs i 0<=_) (by omega)];simp
theorem u7 (h:upto (AF cs) i)(g:(cs.length:Int)<=i):plOk k m cs=(inR k 0 31&&(inR m 0 31&&decide (k≠m))):=by unfold plOk;rw[bc h g];rfl
end
end Go.V
namespace Go.V
theorem Fo {sp lg:aa}{a:Int}(h:layOk sp lg=true):dzK sp lg a=dnK sp lg a:=by unfold dzK;rw[if_pos h]
theorem Fp {sp lg:aa}{a:Int}(h:layOk sp lg=true):dzI sp lg a=dnI sp lg a:=by unfold dzI;rw[if_pos h]
theorem Fq {sp lg:aa}{a:Int}(h:layOk sp lg=true):dzO sp lg a=dnO sp lg a:=by unfold dzO;rw[if_pos h]
theorem yG {sp lg:aa}{a:Int}(h:dnK sp lg a=1):0<=dnI sp lg a/\dnI sp lg a<sp.length:=by
 unfold dnK at h;by_cases c:0<=kG sp a
 ·unfold dnI;rw[if_pos c];rcases lq (p:=vd sp a) (n:=sp.length)with q|q
  ·have:kG sp a= -1:=q;omega
  ·exact q
 ·rw[if_neg c]at h;by_cases d:0<=sU lg a
  ·rw[if_pos d]at h;omega
  ·rw[if_neg d]at h;omega
theorem Fl {sp lg:aa}{a:Int}(h:dnK sp lg a=3):0<=dnI sp lg a/\dnI sp lg a<lg.length:=by
 unfold dnK at h;by_cases c:0<=kG sp a
 ·rw[if_pos c]at h;split at h<;>omega
 ·rw[if_neg c]at h;by_cases d:0<=sU lg a
  ·unfold dnI;rw[if_neg c,if_pos d];rcases lq (p:=wo lg a) (n:=lg.length)with q|q
   ·have:sU lg a= -1:=q;omega
   ·exact q
  ·rw[if_neg d]at h;omega
def xL (os:aa)(x j:Int):Bool:=eqB (af os j 0) x
def oiI (os:aa)(x:Int):Int:=cf (xL os x) os.length
def oiB (os:aa)(x:Int):Bool:=decide (0<=oiI os x)
def okO (sp lg:aa)(a s:Int):Bool:=decide (dnO sp lg a=0)&&((decide (dnK sp lg a=1)&&decide (af sp (dnI sp lg a) 1=clsOf s))||(decide (dnK sp lg a=3)&&decide (af lg (dnI sp lg a) 2=s)))
def tL (sp lg os cs:aa)(nx i:Int):Bool:=
 !(decide (0<i)&&decide (af os i 1<=af os (i-1) 1))&&(inR (af os i 0) 1 (bP .sub .i64 nx 1)&&(inR (af os i 3) 0 (cs.length-1:Int)&&(!oiB (os.take i.toNat) (af os i 0)&&okO sp lg (af os i 1) (af os i 2))))
def objOk (sp lg os cs:aa)(nx:Int):Bool:=bU (tL sp lg os cs nx) os.length
section
variable {sp lg os cs : aa} {nx i k : Int}
theorem iC (i0:0<=i)(i1:i<os.length)(h:tL sp lg os cs nx i=false):objOk sp lg os cs nx=false:=bB i0 i1 h
theorem Cm (h:upto (tL sp lg os cs nx) i)(g:(os.length:Int)<=i):objOk sp lg os cs nx=true:=bc h g
theorem FT (h:0<i)(g:af os i 1<=af os (i-1) 1):tL sp lg os cs nx i=false:=by unfold tL;rw[decide_eq_true h,decide_eq_true g];rfl
theorem FU (h:inR (af os i 0) 1 (bP .sub .i64 nx 1)=false):tL sp lg os cs nx i=false:=by unfold tL;rw[h];simp
theorem FV (h:inR (af os i 3) 0 (cs.length-1:Int)=false):tL sp lg os cs nx i=false:=by unfold tL;rw[h];simp
theorem FW (h:oiB (os.take i.toNat) (af os i 0)=true):tL sp lg os cs nx i=false:=by unfold tL;rw[h];simp
theorem zm (h:okO sp lg (af os i 1) (af os i 2)=false):tL sp lg os cs nx i=false:=by unfold tL;rw[h];simp
theorem En (h1:i<=0\/af os (i-1) 1<af os i 1)(h2:inR (af os i 0) 1 (bP .sub .i64 nx 1)=true)(h3:inR (af os i 3) 0 (cs.length-1:Int)=true)(h4:oiB (os.take i.toNat) (af os i 0)=false)(h5:okO sp lg (af os i 1) (af os i 2)=true):tL sp lg os cs nx i=true:=by
 unfold tL;rw[h2,h3,h4,h5];rcases h1 with h|h
 ·rw[decide_eq_false (p:=0<i) (by omega)];rfl
 ·rw[decide_eq_false (p:=af os i 1<=af os (i-1) 1) (by omega)];simp
theorem FX {a s:Int}(h:dnO sp lg a≠0):okO sp lg a s=false:=by unfold okO;rw[decide_eq_false h];rfl
theorem KD {a s:Int}(h1:dnK sp lg a≠1\/af sp (dnI sp lg a) 1≠clsOf s)(h2:dnK sp lg a≠3\/af lg (dnI sp lg a) 2≠s):okO sp lg a s=false:=by
 unfold okO;rcases h1 with h|h<;>rcases h2 with g|g<;>simp[h,g]
theorem FY {a s:Int}(h0:dnO sp lg a=0)(h1:dnK sp lg a=1)(h2:af sp (dnI sp lg a) 1=clsOf s):okO sp lg a s=true:=by unfold okO;rw[decide_eq_true h0,decide_eq_true h1,decide_eq_true h2];rfl
theorem FZ {a s:Int}(h0:dnO sp lg a=0)(h1:dnK sp lg a=3)(h2:af lg (dnI sp lg a) 2=s):okO sp lg a s=true:=by unfold okO;rw[decide_eq_true h0,decide_eq_true h1,decide_eq_true h2];simp
theorem HZ (k0:0<=k)(k1:k<i)(i1:i<os.length)(h:af os k 0=af os i 0):oiB (os.take i.toNat) (af os i 0)=true:=by
 unfold oiB oiI;rw[decide_eq_true_eq,fe];refine⟨k.toNat,by rw[List.length_take];omega,?_⟩;unfold xL;rw[Int.toNat_of_nonneg k0,pk (by omega)];exact lh h
theorem KC {x:Int}(h:upto (fun j=> !eqB (af os j 0) x) k)(k1:i<=k)(i0:0<=i):oiB (os.take i.toNat) x=false:=by
 unfold oiB oiI;refine decide_eq_false (fun c=>?_);obtain⟨m,m1,m2⟩:=fe.1 c;rw[List.length_take]at m1;have q:=h m (by omega) (by omega);unfold xL at m2;rw[pk (by omega)]at m2;simp only at q;rw[m2]at q;cases q
end
end Go.V
namespace Go.V
def L0 (es:aa):Prop:=∀ e∈es,∃ k b:Int,e=[.i k,.i b]
theorem nu {k b:Int}{es:aa}{n:Int}:cP ([.i k,.i b]::es) n=if k=n then some (0,.int .i64 b)else(cP es n).map fun p=>(p.1+1,p.2):=rfl
theorem jg {k b:Int}{es:aa}{n:Int}:eB ([.i k,.i b]::es) n=if k=n then b else eB es n:=by
 unfold eB;rw[nu];by_cases c:k=n
 ·rw[if_pos c,if_pos c]
 ·rw[if_neg c,if_neg c];cases cP es n with
  |none=>rfl
  |some p=>obtain⟨j,v⟩:=p;cases v<;>rfl
theorem Cg {k b x:Int}{es:aa}{n:Int}:gK ([.i k,.i b]::es) n (.i x)=if k=n then[.i n,.i x]::es else[.i k,.i b]::gK es n (.i x):=by
 unfold gK;rw[nu];by_cases c:k=n
 ·rw[if_pos c,if_pos c];rfl
 ·rw[if_neg c,if_neg c];cases cP es n with
  |none=>rfl
  |some p=>rfl
theorem Kl {x n:Int}:∀ {es:aa},L0 es->L0 (gK es n (.i x))/\∀ m,eB (gK es n (.i x)) m=if m=n then x else eB es m
 | [],_=>by
   refine⟨fun e he=>?_,fun m=>?_⟩
   ·have:e=[.i n,.i x]:=by simpa[gK,cP]using he
    exact⟨n,x,this⟩
   ·show eB [[.i n,.i x]] m=_;rw[jg];by_cases c:m=n
    ·rw[if_pos c.symm,if_pos c]
    ·rw[if_neg (fun e=>c e.symm),if_neg c]
 | e::es,h=>by
   obtain⟨k,b,rfl⟩:=h e (by simp);have h':L0 es:=fun e he=>h e (by simp[he])
   obtain⟨a1,a2⟩:=Kl (x:=x) (n:=n) h';rw[Cg];by_cases c:k=n
   ·rw[if_pos c];refine⟨fun e he=>?_,fun m=>?_⟩
    ·rcases List.mem_cons.1 he with rfl|he
     ·exact⟨n,x,rfl⟩
     ·exact h' e he
    ·rw[jg,jg];by_cases d:m=n
     ·rw[if_pos d.symm,if_pos d]
     ·rw[if_neg (fun e=>d e.symm),if_neg d,if_neg (fun e=>d (by rw[<-e,c]))]
   ·rw[if_neg c];refine⟨fun e he=>?_,fun m=>?_⟩
    ·rcases List.mem_cons.1 he with rfl|he
     ·exact⟨k,b,rfl⟩
     ·exact a1 e he
    ·rw[jg,jg,a2 m];by_cases d:k=m
     ·rw[if_pos d,if_pos d,if_neg (fun e=>c (d.trans e))]
     ·rw[if_neg d,if_neg d]
def huI (es:aa)(a:Int):aa:=gK es a (.i (bP .add .i64 (eB es a) 1))
structure tZ (es:aa)(l:List Int):Prop where
 wf:L0 es
 c:∀ m,eB es m=(l.count m:Int)
theorem Mh :tZ [] []:=⟨(fun e he=>by cases he),fun m=>rfl⟩
theorem yE {es:aa}{l:List Int}{a:Int}(h:tZ es l)(hl:l.length<=1099511627776):tZ (huI es a) (l++[a]):=by
 have q:=Kl (x:=bP .add .i64 (eB es a) 1) (n:=a) h.wf;refine⟨q.1,fun m=>?_⟩;show eB (gK es a _) m=_;have b:l.count a<=l.length:=List.count_le_length;have e:=h.c a;rw[q.2 m,List.count_append,show bP .add .i64 (eB es a) 1=eB es a+1 from bC (by omega)];by_cases c:m=a
 ·subst c;rw[if_pos rfl,e];simp
 ·rw[if_neg c,h.c m];have:[a].count m=0:=List.count_eq_zero.2 (by simpa using c);rw[this];rfl
def fx (l:aa)(f:Nat):Nat->List Int
 |0=>[]
 |n+1=>fx l f n++[af l n f]
def sT (ls:aa):Nat->List Int
 |0=>[]
 |n+1=>sT ls n++fx (ax ls n 0) 0 (ax ls n 0).length
def lZ (cs:aa):Nat->List Int
 |0=>[]
 |n+1=>lZ cs n++sT (ax cs n 0) (ax cs n 0).length
theorem cF {l:aa}{f:Nat}:∀ n,(fx l f n).length=n
 |0=>rfl
 |n+1=>by rw[fx,List.length_append,cF n];rfl
theorem ja {l:aa}{f:Nat}{i:Int}(h:0<=i):fx l f (i+1).toNat=fx l f i.toNat++[af l i f]:=by
 rw[show(i+1).toNat=i.toNat+1 from by omega,fx,Int.toNat_of_nonneg h]
theorem A8 {l:aa}{i:Int}(h:0<=i):sT l (i+1).toNat=sT l i.toNat++fx (ax l i 0) 0 (ax l i 0).length:=by
 rw[show(i+1).toNat=i.toNat+1 from by omega,sT,Int.toNat_of_nonneg h]
theorem A6 {l:aa}{i:Int}(h:0<=i):lZ l (i+1).toNat=lZ l i.toNat++sT (ax l i 0) (ax l i 0).length:=by
 rw[show(i+1).toNat=i.toNat+1 from by omega,lZ,Int.toNat_of_nonneg h]
theorem jH {l:aa}{f:Nat}{x:Int}:∀ {n},x∈fx l f n↔∃ k:Nat,k<n/\x=af l k f
 |0=>⟨(fun h=>by cases h),fun⟨k,h,_⟩=>absurd h (Nat.not_lt_zero _)⟩
 | n+1=>by
   rw[fx,List.mem_append,jH,List.mem_singleton]
   constructor
   ·rintro(⟨k,h,e⟩|e)
    ·exact⟨k,by omega,e⟩
    ·exact⟨n,by omega,e⟩
   ·rintro⟨k,h,e⟩;by_cases c:k=n
    ·subst c;exact .inr e
    ·exact .inl ⟨k,by omega,e⟩
theorem uR {ls:aa}{x:Int}:∀ {n},x∈sT ls n↔∃ k:Nat,k<n/\x∈fx (ax ls k 0) 0 (ax ls k 0).length
 |0=>⟨(fun h=>by cases h),fun⟨k,h,_⟩=>absurd h (Nat.not_lt_zero _)⟩
 | n+1=>by
   rw[sT,List.mem_append,uR]
   constructor
   ·rintro(⟨k,h,e⟩|e)
    ·exact⟨k,by omega,e⟩
    ·exact⟨n,by omega,e⟩
   ·rintro⟨k,h,e⟩;by_cases c:k=n
    ·subst c;exact .inr e
    ·exact .inl ⟨k,by omega,e⟩
theorem uQ {cs:aa}{x:Int}:∀ {n},x∈lZ cs n↔∃ k:Nat,k<n/\x∈sT (ax cs k 0) (ax cs k 0).length
 |0=>⟨(fun h=>by cases h),fun⟨k,h,_⟩=>absurd h (Nat.not_lt_zero _)⟩
 | n+1=>by
   rw[lZ,List.mem_append,uQ]
   constructor
   ·rintro(⟨k,h,e⟩|e)
    ·exact⟨k,by omega,e⟩
    ·exact⟨n,by omega,e⟩
   ·rintro⟨k,h,e⟩;by_cases c:k=n
    ·subst c;exact .inr e
    ·exact .inl ⟨k,by omega,e⟩
theorem ut {ls:aa}:∀ n,n<=ls.length->(sT ls n).length<=be (ls.take n)
 |0,_=>Nat.zero_le _
 | n+1,h=>by
   have q:=ut n (by omega:n<=ls.length);have c:=gh (es:=ls) (n:=n) (j:=0) (by omega);unfold ak at c;rw[sT,List.length_append,cF,dw (by omega)];omega
theorem fP {cs:aa}:∀ n,n<=cs.length->(lZ cs n).length<=be (cs.take n)
 |0,_=>Nat.zero_le _
 | n+1,h=>by
   have q:=fP n (by omega:n<=cs.length);have c:=gh (es:=cs) (n:=n) (j:=0) (by omega);have d:=ut (ls:=ax cs n 0) (ax cs n 0).length (Nat.le_refl _);rw[List.take_length]at d;unfold ak at c;rw[lZ,List.length_append,dw (by omega)];omega
theorem DT {cs:aa}{i k:Int}(i0:0<=i)(i1:i<cs.length)(k1:k<=(ax cs i 0).length):(lZ cs i.toNat++sT (ax cs i 0) k.toNat).length+be ((ax cs i 0).drop k.toNat)<=be cs:=by
 have q:=fP (cs:=cs) i.toNat (by omega);have c:=fv (es:=cs) (n:=i.toNat+1);have d:=dw (es:=cs) (n:=i.toNat) (by omega);have e:=gh (es:=cs) (n:=i.toNat) (j:=0) (by omega);rw[Int.toNat_of_nonneg i0]at e;have f:=ut (ls:=ax cs i 0) k.toNat (by omega);have g:be (ax cs i 0)=be ((ax cs i 0).take k.toNat)+be ((ax cs i 0).drop k.toNat):=by rw[<-de,List.take_append_drop]
 rw[List.length_append];unfold ak at e;omega
theorem yC {cs:aa}{i k j:Int}(i0:0<=i)(i1:i<cs.length)(k0:0<=k)(k1:k<(ax cs i 0).length)(j0:0<=j)(j1:j<=(ax (ax cs i 0) k 0).length):(lZ cs i.toNat++sT (ax cs i 0) k.toNat++fx (ax (ax cs i 0) k 0) 0 j.toNat).length<=be cs:=by
 have q:=DT i0 i1 (by omega:k<=(ax cs i 0).length);have e:=gh (es:=ax cs i 0) (n:=k.toNat) (j:=0) (by omega);rw[Int.toNat_of_nonneg k0]at e;have d:dP ((ax cs i 0).getD k.toNat [])<=be ((ax cs i 0).drop k.toNat):=by
  rw[List.drop_eq_getElem_cons (by omega)];rw[List.getD_eq_getElem?_getD,List.getElem?_eq_getElem (by omega)];simp[be]
 rw[List.length_append,cF];unfold ak at e;omega
def hlB (sp lg:aa)(a k:Int):Bool:=decide (dnK sp lg a=1)&&(decide (dnO sp lg a=0)&&(decide (k<0)||decide (af sp (dnI sp lg a) 1=k)))
def jA (sp lg l:aa)(k j:Int):Bool:=hlB sp lg (af l j 0) k
def kA (sp lg ls:aa)(k:Int):Bool:=bU (jA sp lg (ax ls k 0) k) (ax ls k 0).length
def iA (sp lg cs:aa)(i:Int):Bool:=bU (kA sp lg (ax cs i 0)) (ax cs i 0).length
def qA (sp lg qs:aa)(i:Int):Bool:=hlB sp lg (af qs i 0) (af qs i 1)
def sA (qs:aa)(c i:Int):Bool:=decide (af qs i 2<=c)
def zC (sp lg qs:aa)(c i:Int):Bool:=qA sp lg qs i&&sA qs c i
def D4 (os cs qs fl:aa):List Int:=lZ cs cs.length++fx qs 0 qs.length++fx fl 0 fl.length++fx os 1 os.length
def xG (os cs qs fl:aa):List Int:=fx os 1 os.length++lZ cs cs.length++fx qs 0 qs.length++fx fl 0 fl.length
def E8 (l:List Int)(lv:aa)(i:Int):Bool:=decide (l.count (af lv i 0)=1)
def hoI (sp lg os cs b x qs:aa)(c:Int):Bool:=bU (iA sp lg cs) cs.length&&(bU (zC sp lg qs c) qs.length&&(bU (jA sp lg (ifL b x) (-1)) (ifL b x).length&&bU (E8 (D4 os cs qs (ifL b x)) (laL sp lg)) (laL sp lg).length))
def hoS (sp lg os cs b x qs:aa):Bool:=bU (iA sp lg cs) cs.length&&(bU (qA sp lg qs) qs.length&&(bU (jA sp lg (ifL b x) (-1)) (ifL b x).length&&(decide ((xG os cs qs (ifL b x)).Nodup)&&decide ((xG os cs qs (ifL b x)).length=(laL sp lg).length))))
section
variable {sp lg os cs b x qs fl es : aa} {i k j c : Int}
theorem JL (k0:0<=k)(k1:k<(ax cs i 0).length)(j0:0<=j)(j1:j<(ax (ax cs i 0) k 0).length)(h:hlB sp lg (af (ax (ax cs i 0) k 0) j 0) k=false):iA sp lg cs i=false:=
 bB k0 k1 (bB (p:=jA sp lg (ax (ax cs i 0) k 0) k) j0 j1 h)
theorem G5 (i0:0<=i)(i1:i<cs.length)(h:iA sp lg cs i=false):hoI sp lg os cs b x qs c=false:=by unfold hoI;rw[bB i0 i1 h];rfl
theorem Bq (i0:0<=i)(i1:i<qs.length)(h:zC sp lg qs c i=false):hoI sp lg os cs b x qs c=false:=by unfold hoI;rw[bB i0 i1 h];simp
theorem G6 (i0:0<=i)(i1:i<(ifL b x).length)(h:hlB sp lg (af (ifL b x) i 0) (-1)=false):hoI sp lg os cs b x qs c=false:=by unfold hoI;rw[bB (p:=jA sp lg (ifL b x) (-1)) i0 i1 h];simp
theorem G7 (i0:0<=i)(i1:i<(laL sp lg).length)(h:E8 (D4 os cs qs (ifL b x)) (laL sp lg) i=false):hoI sp lg os cs b x qs c=false:=by unfold hoI;rw[bB i0 i1 h];simp
theorem G8 (i0:0<=i)(i1:i<cs.length)(h:iA sp lg cs i=false):hoS sp lg os cs b x qs=false:=by unfold hoS;rw[bB i0 i1 h];rfl
theorem G9 (i0:0<=i)(i1:i<qs.length)(h:qA sp lg qs i=false):hoS sp lg os cs b x qs=false:=by unfold hoS;rw[bB i0 i1 h];simp
theorem Ha (i0:0<=i)(i1:i<(ifL b x).length)(h:hlB sp lg (af (ifL b x) i 0) (-1)=false):hoS sp lg os cs b x qs=false:=by unfold hoS;rw[bB (p:=jA sp lg (ifL b x) (-1)) i0 i1 h];simp
theorem K6 (h:hlB sp lg (af qs i 0) (af qs i 1)=false):zC sp lg qs c i=false:=by unfold zC qA;rw[h];rfl
theorem K7 (h:c<af qs i 2):zC sp lg qs c i=false:=by unfold zC sA;rw[decide_eq_false (by omega),Bool.and_false]
theorem Nh (h:hlB sp lg (af qs i 0) (af qs i 1)=true)(g:af qs i 2<=c):zC sp lg qs c i=true:=by unfold zC qA sA;rw[h,decide_eq_true g];rfl
structure Iw (sp lg cs:aa)(i:Int)(es:aa):Prop where
 ok:upto (iA sp lg cs) i
 c:tZ es (lZ cs i.toNat)
structure Iy (sp lg cs:aa)(i k:Int)(es:aa):Prop where
 ok:upto (iA sp lg cs) i
 ok2:upto (kA sp lg (ax cs i 0)) k
 c:tZ es (lZ cs i.toNat++sT (ax cs i 0) k.toNat)
structure Ix (sp lg cs:aa)(i k j:Int)(es:aa):Prop where
 ok:upto (iA sp lg cs) i
 ok2:upto (kA sp lg (ax cs i 0)) k
 ok3:upto (jA sp lg (ax (ax cs i 0) k 0) k) j
 c:tZ es (lZ cs i.toNat++sT (ax cs i 0) k.toNat++fx (ax (ax cs i 0) k 0) 0 j.toNat)
structure IA (sp lg cs qs:aa)(t j:Int)(es:aa):Prop where
 ok:bU (iA sp lg cs) cs.length=true
 ok2:upto (zC sp lg qs t) j
 c:tZ es (lZ cs cs.length++fx qs 0 j.toNat)
structure Iv (sp lg cs qs fl:aa)(t j:Int)(es:aa):Prop where
 ok:bU (iA sp lg cs) cs.length=true
 ok2:bU (zC sp lg qs t) qs.length=true
 ok3:upto (jA sp lg fl (-1)) j
 c:tZ es (lZ cs cs.length++fx qs 0 qs.length++fx fl 0 j.toNat)
structure Gp (sp lg os cs qs fl:aa)(t j:Int)(es:aa):Prop where
 ok:bU (iA sp lg cs) cs.length=true
 ok2:bU (zC sp lg qs t) qs.length=true
 ok3:bU (jA sp lg fl (-1)) fl.length=true
 c:tZ es (lZ cs cs.length++fx qs 0 qs.length++fx fl 0 fl.length++fx os 1 j.toNat)
theorem Mq :Iw sp lg cs 0 []:=⟨aY,Mh⟩
theorem Ms (h:Iw sp lg cs i es):Iy sp lg cs i 0 es:=⟨h.ok,aY,by simpa[sT]using h.c⟩
theorem Mr (h:Iy sp lg cs i k es):Ix sp lg cs i k 0 es:=⟨h.ok,h.ok2,aY,by simpa[fx]using h.c⟩
theorem Jr (h:Ix sp lg cs i k j es)(i0:0<=i)(i1:i<cs.length)(k0:0<=k)(k1:k<(ax cs i 0).length)(j0:0<=j)(j1:j<(ax (ax cs i 0) k 0).length)(hc:ak cs<=1073741824)(hh:hlB sp lg (af (ax (ax cs i 0) k 0) j 0) k=true):
 Ix sp lg cs i k (j+1) (huI es (af (ax (ax cs i 0) k 0) j 0)):=by
 have l:=yC (cs:=cs) i0 i1 k0 k1 j0 (by omega);unfold ak at hc;exact⟨h.ok,h.ok2,aP h.ok3 hh,by rw[ja j0, <-List.append_assoc];exact yE h.c (by omega)⟩
theorem Js (h:Ix sp lg cs i k j es)(k0:0<=k)(j1:j<=((ax (ax cs i 0) k 0).length:Int))(j2:((ax (ax cs i 0) k 0).length:Int)<=j):Iy sp lg cs i (k+1) es:=by
 refine⟨h.ok,aP h.ok2 (bc h.ok3 j2),?_⟩;have c:=h.c;rw[show j.toNat=(ax (ax cs i 0) k 0).length from by omega,List.append_assoc, <-A8 k0]at c;exact c
theorem Jq (h:Iy sp lg cs i k es)(i0:0<=i)(k1:k<=((ax cs i 0).length:Int))(k2:((ax cs i 0).length:Int)<=k):Iw sp lg cs (i+1) es:=by
 refine⟨aP h.ok (bc h.ok2 k2),?_⟩;have c:=h.c;rw[show k.toNat=(ax cs i 0).length from by omega, <-A6 i0]at c;exact c
theorem Mz (h:Iw sp lg cs i es)(i1:i<=cs.length)(i2:(cs.length:Int)<=i):IA sp lg cs qs c 0 es:=
 ⟨bc h.ok i2,aY,by have c:=h.c;rw[show i.toNat=cs.length from by omega]at c;simpa[fx]using c⟩
theorem JJ (h:IA sp lg cs qs c j es)(j0:0<=j)(j1:j<qs.length)(hc:ak cs<=1073741824)(hq:qs.length<=1073741824)(hh:zC sp lg qs c j=true):IA sp lg cs qs c (j+1) (huI es (af qs j 0)):=by
 have l:=fP (cs:=cs) cs.length (Nat.le_refl _);rw[List.take_length]at l;unfold ak at hc;refine⟨h.ok,aP h.ok2 hh,?_⟩;rw[ja j0, <-List.append_assoc];refine yE h.c ?_;rw[List.length_append,cF];omega
theorem Mp (h:IA sp lg cs qs c i es)(i1:i<=qs.length)(i2:(qs.length:Int)<=i):Iv sp lg cs qs fl c 0 es:=
 ⟨h.ok,bc h.ok2 i2,aY,by have c:=h.c;rw[show i.toNat=qs.length from by omega]at c;simpa[fx]using c⟩
theorem Jp (h:Iv sp lg cs qs fl c j es)(j0:0<=j)(j1:j<fl.length)(hc:ak cs<=1073741824)(hq:qs.length<=1073741824)(hf:fl.length<=30)(hh:hlB sp lg (af fl j 0) (-1)=true):Iv sp lg cs qs fl c (j+1) (huI es (af fl j 0)):=by
 have l:=fP (cs:=cs) cs.length (Nat.le_refl _);rw[List.take_length]at l;unfold ak at hc;refine⟨h.ok,h.ok2,aP h.ok3 hh,?_⟩;rw[ja j0, <-List.append_assoc];refine yE h.c ?_;rw[List.length_append,List.length_append,cF,cF];omega
theorem Mv (h:Iv sp lg cs qs fl c i es)(i1:i<=fl.length)(i2:(fl.length:Int)<=i):Gp sp lg os cs qs fl c 0 es:=
 ⟨h.ok,h.ok2,bc h.ok3 i2,by have c:=h.c;rw[show i.toNat=fl.length from by omega]at c;simpa[fx]using c⟩
theorem Jv (h:Gp sp lg os cs qs fl c j es)(j0:0<=j)(j1:j<os.length)(hc:ak cs<=1073741824)(hq:qs.length<=1073741824)(ho:os.length<=1073741824)(hf:fl.length<=30):Gp sp lg os cs qs fl c (j+1) (huI es (af os j 1)):=by
 have l:=fP (cs:=cs) cs.length (Nat.le_refl _);rw[List.take_length]at l;unfold ak at hc;refine⟨h.ok,h.ok2,h.ok3,?_⟩;rw[ja j0, <-List.append_assoc];refine yE h.c ?_;rw[List.length_append,List.length_append,List.length_append,cF,cF,cF];omega
structure EX (sp lg os cs qs fl:aa)(t i:Int)(es:aa):Prop where
 p:Gp sp lg os cs qs fl t os.length es
 ok:upto (E8 (D4 os cs qs fl) (laL sp lg)) i
theorem Mt (h:Gp sp lg os cs qs fl c i es)(i1:i<=os.length)(i2:(os.length:Int)<=i):EX sp lg os cs qs fl c 0 es:=⟨by rw[show(os.length:Int)=i from by omega];exact h,aY⟩
theorem Jt (h:EX sp lg os cs qs fl c i es)(m:Int):eB es m=((D4 os cs qs fl).count m:Int):=by
 have q:=h.p.c.c m;rw[Int.toNat_natCast]at q;exact q
theorem Ju (h:EX sp lg os cs qs fl c i es)(e:eB es (af (laL sp lg) i 0)=1):EX sp lg os cs qs fl c (i+1) es:=
 ⟨h.p,aP h.ok (by unfold E8;rw[Jt h]at e;exact decide_eq_true (by omega))⟩
theorem Mu (h:EX sp lg os cs qs (ifL b x) c i es)(i0:0<=i)(i1:i<(laL sp lg).length)(e:eB es (af (laL sp lg) i 0)≠1):hoI sp lg os cs b x qs c=false:=
 G7 i0 i1 (by unfold E8;rw[Jt h]at e;exact decide_eq_false (by omega))
theorem G4 (h:EX sp lg os cs qs (ifL b x) c i es)(i2:((laL sp lg).length:Int)<=i):hoI sp lg os cs b x qs c=true:=by
 unfold hoI;rw[h.p.ok,h.p.ok2,h.p.ok3,bc h.ok i2];rfl
end
end Go.V
namespace Go.V
structure GA (os:aa)(i:Int)(o:aa):Prop where
 e:o=eK (fx os 1 i.toNat)
structure II (sp lg os cs:aa)(i:Int)(o:aa):Prop where
 ok:upto (iA sp lg cs) i
 e:o=eK (fx os 1 os.length++lZ cs i.toNat)
structure IJ (sp lg os cs:aa)(i k:Int)(o:aa):Prop where
 ok:upto (iA sp lg cs) i
 ok2:upto (kA sp lg (ax cs i 0)) k
 e:o=eK (fx os 1 os.length++(lZ cs i.toNat++sT (ax cs i 0) k.toNat))
structure GB (sp lg os cs:aa)(i k j:Int)(o:aa):Prop where
 ok:upto (iA sp lg cs) i
 ok2:upto (kA sp lg (ax cs i 0)) k
 ok3:upto (jA sp lg (ax (ax cs i 0) k 0) k) j
 e:o=eK (fx os 1 os.length++(lZ cs i.toNat++sT (ax cs i 0) k.toNat++fx (ax (ax cs i 0) k 0) 0 j.toNat))
structure GC (sp lg os cs qs:aa)(j:Int)(o:aa):Prop where
 ok:bU (iA sp lg cs) cs.length=true
 ok2:upto (qA sp lg qs) j
 e:o=eK (fx os 1 os.length++lZ cs cs.length++fx qs 0 j.toNat)
structure GD (sp lg os cs qs fl:aa)(j:Int)(o:aa):Prop where
 ok:bU (iA sp lg cs) cs.length=true
 ok2:bU (qA sp lg qs) qs.length=true
 ok3:upto (jA sp lg fl (-1)) j
 e:o=eK (fx os 1 os.length++lZ cs cs.length++fx qs 0 qs.length++fx fl 0 j.toNat)
structure Dx (sp lg os cs qs fl:aa)(j:Int)(o:aa):Prop where
 ok:bU (iA sp lg cs) cs.length=true
 ok2:bU (qA sp lg qs) qs.length=true
 ok3:bU (jA sp lg fl (-1)) fl.length=true
 e:o=eK (xG os cs qs fl)
 nd:((xG os cs qs fl).take j.toNat).Nodup
section
variable {sp lg os cs b x qs fl o : aa} {i k j : Int}
theorem Ni :GA os 0 []:=⟨rfl⟩
theorem Nj (h:GA os i o):o.length=i.toNat:=by rw[h.e,bS,cF]
theorem Ld (h:GA os i o)(i0:0<=i):GA os (i+1) (o++[[.i (af os i 1)]]):=⟨by rw[ja i0,dU, <-h.e];rfl⟩
theorem Nk (h:GA os i o)(i1:i<=os.length)(i2:(os.length:Int)<=i):II sp lg os cs 0 o:=⟨aY,by rw[h.e,show i.toNat=os.length from by omega];simp[lZ]⟩
theorem Nl (h:II sp lg os cs i o):IJ sp lg os cs i 0 o:=⟨h.ok,aY,by rw[h.e];simp[sT]⟩
theorem Nm (h:IJ sp lg os cs i k o):GB sp lg os cs i k 0 o:=⟨h.ok,h.ok2,aY,by rw[h.e];simp[fx]⟩
theorem Nn (h:GB sp lg os cs i k j o)(i0:0<=i)(i1:i<cs.length)(k0:0<=k)(k1:k<(ax cs i 0).length)(j0:0<=j)(j1:j<=(ax (ax cs i 0) k 0).length)(hc:ak cs<=1073741824)(ho:os.length<=1073741824):o.length<=2147483648:=by
 have l:=yC (cs:=cs) i0 i1 k0 k1 j0 j1;unfold ak at hc;rw[h.e,bS,List.length_append,cF];omega
theorem Lg (h:GB sp lg os cs i k j o)(j0:0<=j)(hh:hlB sp lg (af (ax (ax cs i 0) k 0) j 0) k=true):GB sp lg os cs i k (j+1) (o++[[.i (af (ax (ax cs i 0) k 0) j 0)]]):=
 ⟨h.ok,h.ok2,aP h.ok3 hh,by rw[ja j0, <-List.append_assoc (lZ cs i.toNat++sT (ax cs i 0) k.toNat), <-List.append_assoc (fx os 1 os.length),dU, <-h.e];rfl⟩
theorem Lf (h:GB sp lg os cs i k j o)(k0:0<=k)(j1:j<=((ax (ax cs i 0) k 0).length:Int))(j2:((ax (ax cs i 0) k 0).length:Int)<=j):IJ sp lg os cs i (k+1) o:=by
 refine⟨h.ok,aP h.ok2 (bc h.ok3 j2),?_⟩;rw[h.e,show j.toNat=(ax (ax cs i 0) k 0).length from by omega,List.append_assoc (lZ cs i.toNat), <-A8 k0]
theorem Le (h:IJ sp lg os cs i k o)(i0:0<=i)(k1:k<=((ax cs i 0).length:Int))(k2:((ax cs i 0).length:Int)<=k):II sp lg os cs (i+1) o:=by
 refine⟨aP h.ok (bc h.ok2 k2),?_⟩;rw[h.e,show k.toNat=(ax cs i 0).length from by omega, <-A6 i0]
theorem Np (h:II sp lg os cs i o)(i1:i<=cs.length)(i2:(cs.length:Int)<=i):GC sp lg os cs qs 0 o:=⟨bc h.ok i2,aY,by rw[h.e,show i.toNat=cs.length from by omega];simp[fx]⟩
theorem Nq (h:GC sp lg os cs qs j o)(j1:j<=qs.length)(hc:ak cs<=1073741824)(ho:os.length<=1073741824)(hq:qs.length<=1073741824):o.length<=4294967296:=by
 have l:=fP (cs:=cs) cs.length (Nat.le_refl _);rw[List.take_length]at l;unfold ak at hc;rw[h.e,bS,List.length_append,List.length_append,cF,cF];omega
theorem Lh (h:GC sp lg os cs qs j o)(j0:0<=j)(hh:hlB sp lg (af qs j 0) (af qs j 1)=true):GC sp lg os cs qs (j+1) (o++[[.i (af qs j 0)]]):=
 ⟨h.ok,aP h.ok2 hh,by rw[ja j0, <-List.append_assoc,dU, <-h.e];rfl⟩
theorem Nr (h:GC sp lg os cs qs i o)(i1:i<=qs.length)(i2:(qs.length:Int)<=i):GD sp lg os cs qs fl 0 o:=⟨h.ok,bc h.ok2 i2,aY,by rw[h.e,show i.toNat=qs.length from by omega];simp[fx]⟩
theorem Ns (h:GD sp lg os cs qs fl j o)(j1:j<=fl.length)(hc:ak cs<=1073741824)(ho:os.length<=1073741824)(hq:qs.length<=1073741824)(hf:fl.length<=30):o.length<=4294967400:=by
 have l:=fP (cs:=cs) cs.length (Nat.le_refl _);rw[List.take_length]at l;unfold ak at hc;rw[h.e,bS,List.length_append,List.length_append,List.length_append,cF,cF,cF];omega
theorem Li (h:GD sp lg os cs qs fl j o)(j0:0<=j)(hh:hlB sp lg (af fl j 0) (-1)=true):GD sp lg os cs qs fl (j+1) (o++[[.i (af fl j 0)]]):=
 ⟨h.ok,h.ok2,aP h.ok3 hh,by rw[ja j0, <-List.append_assoc,dU, <-h.e];rfl⟩
theorem Nt (h:GD sp lg os cs qs fl i o)(i1:i<=fl.length)(i2:(fl.length:Int)<=i):Dx sp lg os cs qs fl 0 o:=
 ⟨h.ok,h.ok2,bc h.ok3 i2,by rw[h.e,show i.toNat=fl.length from by omega];rfl,List.nodup_nil⟩
theorem Lj (h:Dx sp lg os cs qs fl j o)(hc:ak cs<=1073741824)(ho:os.length<=1073741824)(hq:qs.length<=1073741824)(hf:fl.length<=30):o.length<=4294967400:=by
 have l:=fP (cs:=cs) cs.length (Nat.le_refl _);rw[List.take_length]at l;unfold ak at hc;rw[h.e,bS];unfold xG;rw[List.length_append,List.length_append,List.length_append,cF,cF,cF];omega
theorem wH {l:List Int}{n:Nat}:(eK l).take n=eK (l.take n):=by unfold eK;rw[List.map_take]
theorem vc {l:List Int}{i:Int}(h0:0<=i)(h:i<(eK l).length):∃ x,l[i.toNat]?=some x/\af (eK l) i 0=x:=by
 rw[bS]at h;have q:=mO (l:=l) (k:=i.toNat) (by omega);rw[Int.toNat_of_nonneg h0]at q;exact⟨_,List.getElem?_eq_getElem (by omega),q⟩
theorem Ll (h:Dx sp lg os cs qs fl j o)(j0:0<=j)(j1:j<o.length)(hh:hasB (o.take j.toNat) (af o j 0)=false):Dx sp lg os cs qs fl (j+1) o:=by
 refine⟨h.ok,h.ok2,h.ok3,h.e,?_⟩;have e:=h.e;rw[e]at j1 hh;obtain⟨v,q1,q2⟩:=vc j0 j1;rw[wH,q2]at hh;have nm:=pm hh;rw[show(j+1).toNat=j.toNat+1 from by omega,List.take_succ,q1];exact fT h.nd nm
theorem Nu (h:Dx sp lg os cs qs (ifL b x) j o)(j0:0<=j)(j1:j<o.length)(hh:hasB (o.take j.toNat) (af o j 0)=true):hoS sp lg os cs b x qs=false:=by
 have e:=h.e;rw[e]at j1 hh;obtain⟨v,q1,q2⟩:=vc j0 j1;rw[wH,q2,jF]at hh;have:¬ (xG os cs qs (ifL b x)).Nodup:=fun nd=>by
  have lt:j.toNat<(xG os cs qs (ifL b x)).length:=by rw[bS]at j1;omega
  have sp:=List.take_append_drop j.toNat (xG os cs qs (ifL b x));rw[List.drop_eq_getElem_cons lt]at sp;have gv:(xG os cs qs (ifL b x))[j.toNat]=v:=by rw[List.getElem?_eq_getElem lt]at q1;exact Option.some.inj q1
  rw[gv]at sp;exact dup sp.symm hh nd
 unfold hoS;rw[decide_eq_false this];simp
theorem Ii (h:Dx sp lg os cs qs (ifL b x) j o)(j2:(o.length:Int)<=j):decide ((o.length:Int)=(laL sp lg).length)=hoS sp lg os cs b x qs:=by
 have e:=h.e;have nd:=h.nd;have l:(xG os cs qs (ifL b x)).length=o.length:=by rw[e,bS]
 rw[List.take_of_length_le (by omega)]at nd;unfold hoS;rw[h.ok,h.ok2,h.ok3,decide_eq_true nd,l];simp only[Bool.true_and];exact dr (by rw[decide_eq_true_eq,decide_eq_true_eq];omega)
def IL (l:List Int):Prop:=∀ v∈l,-9223372036854775808<=v/\v<=9223372036854775807
theorem uH {l m:List Int}(h:IL l)(g:IL m):IL (l++m):=fun v hv=>by
 rcases List.mem_append.1 hv with q|q
 ·exact h v q
 ·exact g v q
theorem uI {fs:List Ty}{l:aa}{f:Nat}(h:Rw fs l)(hf:fs[f]?=some tI):IL (fx l f l.length):=fun v hv=>by
 obtain⟨n,n1,rfl⟩:=jH.1 hv;exact np h hf (by omega)
theorem Hr {ls:aa}(h:Rw [.sl [tI]] ls):IL (sT ls ls.length):=fun v hv=>by
 obtain⟨n,n1,q⟩:=uR.1 hv;exact uI (fs:=[tI]) (Rw.sub (fs:=[.sl [tI]]) h (by omega) rfl) rfl v q
theorem Hq {cs:aa}(h:Rw [.sl [.sl [tI]]] cs):IL (lZ cs cs.length):=fun v hv=>by
 obtain⟨n,n1,q⟩:=uQ.1 hv;exact Hr (Rw.sub (fs:=[.sl [.sl [tI]]]) h (by omega) rfl) v q
theorem Lk (N:jX sp lg os cs b x qs)(h:Dx sp lg os cs qs (ifL b x) j o)(n:Nat):Rw [tI] (o.take n):=by
 have l:=Lj h N.cl N.ol N.ql mC;refine Rw.take ?_ n;rw[h.e]at l ⊢;rw[bS]at l;refine mP ?_ (by omega);unfold xG;exact uH (uH (uH (uI N.ow rfl) (Hq N.cw)) (uI N.qw rfl)) (uI (tE N.m) rfl)
theorem Bp {a k:Int}(hl:layOk sp lg=true)(h:hlB sp lg a k=true):oV sp lg a=true:=by
 unfold hlB at h;simp only[Bool.and_eq_true,decide_eq_true_eq]at h;exact(zb hl).2 ⟨h.2.1,.inl h.1⟩
theorem KE {a s:Int}(hl:layOk sp lg=true)(h:okO sp lg a s=true):oV sp lg a=true:=by
 unfold okO at h;simp only[Bool.and_eq_true,Bool.or_eq_true,decide_eq_true_eq]at h;exact(zb hl).2 ⟨h.1,h.2.elim (fun q=>.inl q.1) (fun q=>.inr q.1)⟩
def HI (sp lg:aa):List Int:=FM sp lg 512
theorem JW (hl:layOk sp lg=true):laL sp lg=eK (HI sp lg):=by unfold laL HI;rw[if_pos hl,rh]
theorem Eg (hl:layOk sp lg=true){a:Int}:a∈HI sp lg↔oV sp lg a=true:=by
 unfold HI;rw[lH]
 constructor
 ·exact fun h=>h.2.2
 ·intro h;have F:=IM hl;have v:=FN F hl h;have r:a∈Hf sp lg:=ze.2 v;refine⟨?_,?_,h⟩
  ·rcases v with⟨i,k,i1,k1,_,e⟩|⟨j,j1,e⟩
   ·have ae:=iJ (s:=(k:Int)) (F.s i i1) (by omega) (by omega);have t:=ic (F.s i i1);omega
   ·have t:=gn (F.l j j1);omega
  ·rcases v with⟨i,k,i1,k1,_,e⟩|⟨j,j1,e⟩
   ·have ae:=iJ (s:=(k:Int)) (F.s i i1) (by omega) (by omega);have t:=ic (F.s i i1);omega
   ·have t:=gn (F.l j j1);have b:=fJ t.1;omega
theorem HT :(HI sp lg).Nodup:=(x7 512).imp (fun h=>by omega)
theorem zt :(D4 os cs qs fl).Perm (xG os cs qs fl):=by
 unfold D4 xG;have q:=List.perm_append_comm (l₁:=lZ cs cs.length++fx qs 0 qs.length++fx fl 0 fl.length) (l₂:=fx os 1 os.length);refine q.trans ?_;rw[List.append_assoc,List.append_assoc,List.append_assoc]
theorem Cl {l m:List Int}(hm:m.Nodup)(hs:∀ v∈l,v∈m):(∀ v∈m,l.count v=1)↔l.Nodup/\l.length=m.length:=by
 constructor
 ·intro h;have nd:l.Nodup:=List.nodup_iff_count.2 (fun v=>by
   by_cases c:v∈l
   ·rw[h v (hs v c)];exact Nat.le_refl _
   ·rw[List.count_eq_zero.2 c];omega)
  refine⟨nd,?_⟩;have p:l.Perm m:=by
   rw[List.perm_ext_iff_of_nodup nd hm];intro v;refine⟨hs v,fun hv=>?_⟩;have:=h v hv;exact List.count_pos_iff.1 (by omega)
  exact p.length_eq
 ·rintro⟨nd,len⟩ v hv;have hv':v∈l:=by
   by_cases c:v∈l
   ·exact c
   ·exfalso;have q:=List.Nodup.length_le_of_subset (l₁:=v::l) (l₂:=m) (List.nodup_cons.2 ⟨c,nd⟩) (fun y hy=>by
     rcases List.mem_cons.1 hy with rfl|hy
     ·exact hv
     ·exact hs y hy)
    rw[List.length_cons]at q;omega
  have p1:=List.nodup_iff_count.1 nd v;have p2:=List.count_pos_iff.2 hv';omega
theorem dJ {p:Int->Bool}{n:Nat}(h:bU p n=true):∀ k:Nat,k<n->p k=true:=fun k hk=>dq.1 h k (by omega) (by omega)
theorem Ev {c:Int}:bU (zC sp lg qs c) qs.length=(bU (qA sp lg qs) qs.length&&bU (sA qs c) qs.length):=by
 refine dr ?_;rw[Bool.and_eq_true,dq,dq,dq];unfold upto zC
 constructor
 ·intro h;refine⟨fun j h0 h1=>?_,fun j h0 h1=>?_⟩
  ·have:=h j h0 h1;rw[Bool.and_eq_true]at this;exact this.1
  ·have:=h j h0 h1;rw[Bool.and_eq_true]at this;exact this.2
 ·rintro⟨h,g⟩ j h0 h1;rw[h j h0 h1,g j h0 h1];rfl
theorem Br {nx c:Int}(hl:layOk sp lg=true)(ho:objOk sp lg os cs nx=true):hoI sp lg os cs b x qs c=(hoS sp lg os cs b x qs&&bU (sA qs c) qs.length):=by
 unfold hoI hoS;rw[Ev];by_cases h1:bU (iA sp lg cs) cs.length=true
 case neg=>rw[Bool.not_eq_true]at h1;rw[h1];rfl
 by_cases h2:bU (qA sp lg qs) qs.length=true
 case neg=>rw[Bool.not_eq_true]at h2;rw[h2];simp
 by_cases h3:bU (jA sp lg (ifL b x) (-1)) (ifL b x).length=true
 case neg=>rw[Bool.not_eq_true]at h3;rw[h3];simp
 have sub:∀ v∈D4 os cs qs (ifL b x),v∈HI sp lg:=by
  intro v hv;rw[Eg hl];unfold D4 at hv;rw[List.mem_append,List.mem_append,List.mem_append]at hv;rcases hv with((hv|hv)|hv)|hv
  ·obtain⟨i,i1,hv⟩:=uQ.1 hv;obtain⟨k,k1,hv⟩:=uR.1 hv;obtain⟨j,j1,rfl⟩:=jH.1 hv;have q1:=dJ h1 i i1;have q2:=dJ q1 k k1;have q3:=dJ q2 j j1;exact Bp hl q3
  ·obtain⟨j,j1,rfl⟩:=jH.1 hv;exact Bp hl (dJ h2 j j1)
  ·obtain⟨j,j1,rfl⟩:=jH.1 hv;exact Bp hl (dJ h3 j j1)
  ·obtain⟨j,j1,rfl⟩:=jH.1 hv;have q:=dJ ho j j1;unfold tL at q;simp only[Bool.and_eq_true]at q;exact KE hl q.2.2.2.2
 have key:=Cl HT sub;have e1:bU (E8 (D4 os cs qs (ifL b x)) (laL sp lg)) (laL sp lg).length=(decide (xG os cs qs (ifL b x)).Nodup&&decide ((xG os cs qs (ifL b x)).length=(laL sp lg).length)):=by
  refine dr ?_;rw[Bool.and_eq_true,decide_eq_true_eq,decide_eq_true_eq, <-zt.nodup_iff, <-zt.length_eq,JW hl,bS, <-key]
  constructor
  ·intro h v hv;obtain⟨n,n1,rfl⟩:=List.mem_iff_getElem.1 hv;have q:=dJ h n n1;unfold E8 at q;rw[mO n1,decide_eq_true_eq]at q;exact q
  ·intro h;rw[dq];intro j h0 h1;have n1:j.toNat<(HI sp lg).length:=by omega
   have q:=mO n1;rw[Int.toNat_of_nonneg h0]at q;unfold E8;rw[q,decide_eq_true_eq];exact h _ (List.getElem_mem n1)
 rw[h1,h2,h3,e1];simp only[Bool.true_and];exact Bool.and_comm _ _
end
end Go.V
namespace Go.V
theorem yV {n:Int}:∀ {es:aa},IK es->∀ m,m∈gU (gK es n (.v (.bool true)))↔m∈gU es\/m=n
 | [],_,m=>by
   show m∈gU [[.i n,.v (.bool true)]]↔_;simp[gU,L3]
 | e::es,h,m=>by
   obtain⟨k,b,rfl⟩:=h e (by simp);have h':IK es:=fun e he=>h e (by simp[he])
   have ih:=yV (n:=n) h' m;rw[zf];by_cases c:k=n
   ·rw[if_pos c];subst c;show m∈k::gU es↔m∈k::gU es\/m=k;simp only[List.mem_cons]
    constructor
    ·exact fun h=>.inl h
    ·rintro(h|h)
     ·exact h
     ·exact .inl h
   ·rw[if_neg c];show m∈k::gU (gK es n (.v (.bool true)))↔m∈k::gU es\/m=n;simp only[List.mem_cons,ih,or_assoc]
structure pE (es:aa)(l:List Int):Prop where
 s:jZ es l
 k:∀ m,m∈gU es↔m∈l
theorem KF :pE [] []:=⟨yc,fun m=>Iff.rfl⟩
theorem Cq {es:aa}{l:List Int}{n:Int}(h:pE es l):pE (gK es n (.v (.bool true))) (l++[n]):=
 ⟨pC h.s,fun m=>by rw[yV h.s.wf,h.k,List.mem_append,List.mem_singleton]⟩
def pB (sp:aa)(i:Int):Bool:= !(decide (0<i)&&decide (af sp i 0<=af sp (i-1) 0))
def GT (es:aa)(p:Int):Bool:=decide ((fpg es p).length=1)
def uM (es lg:aa)(i:Int):Bool:=pB lg i&&bU (fun k=>GT es (af lg i 0+k)) (af lg i 1).toNat
def ownB (sp lg:aa)(p:Int):Bool:=decide (p∈sW sp lg)
def mapB (es:aa)(p:Int):Bool:=decide (peM es p≠0)
def tn (es fr sp lg:aa)(p:Int):Bool:=(mapB es p==ownB sp lg p)&& !(rhB fr p==ownB sp lg p)
def Ck (es sp lg:aa):Bool:=decide (∀ p∈sW sp lg,p<es.length)
def rt (sp:aa)(i j:Int):Bool:=mshB (af sp i 0) (af sp i 1) (af sp i 2) (af sp j 0) (af sp j 1) (af sp j 2)
def AD (es sp:aa)(i j:Int):Bool:= !decide (peF es (af sp i 0)=peF es (af sp j 0))||rt sp i j
def Dp (es sp:aa)(i:Int):Bool:=bU (AD es sp i) i.toNat
def B5 (es sp:aa)(i k:Int):Bool:=decide (spI sp (af (fpg es (af sp i 0)) k 0)=i)||(decide (0<=spI sp (af (fpg es (af sp i 0)) k 0))&&rt sp i (spI sp (af (fpg es (af sp i 0)) k 0)))
def msA (es sp:aa)(i:Int):Bool:=bU (B5 es sp i) (fpg es (af sp i 0)).length
def pgI (es fr sp lg:aa):Bool:=bU (pB sp) sp.length&&(bU (uM es lg) lg.length&&(bU (tn es fr sp lg) es.length&&(Ck es sp lg&&bU (Dp es sp) sp.length)))
def pgS (es fr sp lg:aa):Bool:=bU (pB sp) sp.length&&(bU (uM es lg) lg.length&&(Ck es sp lg&&bU (tn es fr sp lg) es.length))
def smS (es sp:aa):Bool:=bU (msA es sp) sp.length
section
variable {es fr sp lg m : aa} {i j k p : Int} {vs : List Int}
theorem zH (h:0<i)(g:af sp i 0<=af sp (i-1) 0):pB sp i=false:=by unfold pB;rw[decide_eq_true h,decide_eq_true g];rfl
theorem zI (h:i<=0):pB sp i=true:=by unfold pB;rw[decide_eq_false (by omega)];rfl
theorem zJ (h:af sp (i-1) 0<af sp i 0):pB sp i=true:=by unfold pB;rw[decide_eq_false (p:=af sp i 0<=_) (by omega)];simp
theorem KM (i0:0<=i)(i1:i<sp.length)(h:pB sp i=false):pgI es fr sp lg=false:=by unfold pgI;rw[bB i0 i1 h];rfl
theorem F7 (i0:0<=i)(i1:i<lg.length)(h:uM es lg i=false):pgI es fr sp lg=false:=by unfold pgI;rw[bB i0 i1 h];simp
theorem F8 (i0:0<=i)(i1:i<es.length)(h:tn es fr sp lg i=false):pgI es fr sp lg=false:=by unfold pgI;rw[bB i0 i1 h];simp
theorem KN (h:Ck es sp lg=false):pgI es fr sp lg=false:=by unfold pgI;rw[h];simp
theorem KO (i0:0<=i)(i1:i<sp.length)(h:Dp es sp i=false):pgI es fr sp lg=false:=by unfold pgI;rw[bB i0 i1 h];simp
theorem M3 {a b c d:Int}(h1:upto (pB sp) a)(g1:(sp.length:Int)<=a)(h2:upto (uM es lg) b)(g2:(lg.length:Int)<=b)(h3:upto (tn es fr sp lg) c)(g3:(es.length:Int)<=c)(h4:Ck es sp lg=true)(h5:upto (Dp es sp) d)(g5:(sp.length:Int)<=d):pgI es fr sp lg=true:=by
 unfold pgI;rw[bc h1 g1,bc h2 g2,bc h3 g3,h4,bc h5 g5];rfl
theorem KU (i0:0<=i)(i1:i<sp.length)(h:pB sp i=false):pgS es fr sp lg=false:=by unfold pgS;rw[bB i0 i1 h];rfl
theorem F9 (i0:0<=i)(i1:i<lg.length)(h:uM es lg i=false):pgS es fr sp lg=false:=by unfold pgS;rw[bB i0 i1 h];simp
theorem Ga (i0:0<=i)(i1:i<es.length)(h:tn es fr sp lg i=false):pgS es fr sp lg=false:=by unfold pgS;rw[bB i0 i1 h];simp
theorem KV (h:Ck es sp lg=false):pgS es fr sp lg=false:=by unfold pgS;rw[h];simp
theorem M5 {a b c:Int}(h1:upto (pB sp) a)(g1:(sp.length:Int)<=a)(h2:upto (uM es lg) b)(g2:(lg.length:Int)<=b)(h3:upto (tn es fr sp lg) c)(g3:(es.length:Int)<=c)(h4:Ck es sp lg=true):pgS es fr sp lg=true:=by
 unfold pgS;rw[bc h1 g1,bc h2 g2,bc h3 g3,h4];rfl
theorem FJ (h:pB lg i=false):uM es lg i=false:=by unfold uM;rw[h];rfl
theorem FK (k0:0<=k)(k1:k<af lg i 1)(h:(fpg es (af lg i 0+k)).length≠1):uM es lg i=false:=by
 unfold uM;rw[bB (i:=k) (n:=(af lg i 1).toNat) k0 (by omega) (show GT es (af lg i 0+k)=false from decide_eq_false h),Bool.and_false]
theorem JX (h:pB lg i=true)(g:upto (fun k=>GT es (af lg i 0+k)) k)(k1:af lg i 1<=k)(n0:0<=af lg i 1):uM es lg i=true:=by
 unfold uM;rw[h,bc g (by omega)];rfl
theorem Fv (g:upto (fun k=>GT es (af lg i 0+k)) k)(h:(fpg es (af lg i 0+k)).length=1):upto (fun k=>GT es (af lg i 0+k)) (k+1):=aP g (decide_eq_true h)
structure IH (es sp lg:aa)(j:Int)(m:aa):Prop where
 ok:upto (uM es lg) j
 o:pE m (gu sp sp.length++gr lg j.toNat)
structure IG (es sp lg:aa)(j k:Int)(m:aa):Prop where
 ok:upto (uM es lg) j
 h:pB lg j=true
 g:upto (fun k=>GT es (af lg j 0+k)) k
 o:pE m (gu sp sp.length++gr lg j.toNat++jL (af lg j 0) k.toNat)
theorem M4 (h:pE m (gu sp i.toNat))(i1:i<=sp.length)(i2:(sp.length:Int)<=i):IH es sp lg 0 m:=⟨aY,by rw[show i.toNat=sp.length from by omega]at h;simpa[gr]using h⟩
theorem KP (h:IH es sp lg j m)(g:pB lg j=true):IG es sp lg j (af lg j 0-af lg j 0) m:=by
 rw[Int.sub_self];exact⟨h.ok,g,aY,by simpa[jL]using h.o⟩
theorem KR (h:IG es sp lg j (p-af lg j 0) m)(p0:af lg j 0<=p)(g:(fpg es p).length=1):IG es sp lg j (p+1-af lg j 0) (gK m p (.v (.bool true))):=by
 have e:af lg j 0+(p-af lg j 0)=p:=by omega
 rw[show p+1-af lg j 0=(p-af lg j 0)+1 from by omega];refine⟨h.ok,h.h,Fv h.g (by rw[e];exact g),?_⟩;rw[rC (by omega),e, <-List.append_assoc];exact Cq h.o
theorem KQ (p0:af lg j 0<=p)(p1:p<af lg j 0+af lg j 1)(h:(fpg es p).length≠1):uM es lg j=false:=
 FK (k:=p-af lg j 0) (by omega) (by omega) (by rw[show af lg j 0+(p-af lg j 0)=p from by omega];exact h)
theorem KS (h:IG es sp lg j (p-af lg j 0) m)(j0:0<=j)(n0:0<=af lg j 1)(p1:p<=af lg j 0+af lg j 1)(p2:af lg j 0+af lg j 1<=p):IH es sp lg (j+1) m:=by
 refine⟨aP h.ok (JX h.h h.g (by omega) n0),?_⟩;have o:=h.o;rw[show(p-af lg j 0).toNat=(af lg j 1).toNat from by omega,List.append_assoc, <-kw j0]at o;exact o
theorem H4 (h:IH es sp lg j m)(j1:j<=lg.length)(j2:(lg.length:Int)<=j):pE m (sW sp lg):=by
 have o:=h.o;rw[show j.toNat=lg.length from by omega]at o;exact o
theorem KG (h:pE m (sW sp lg))(p:Int):mgbI m p=ownB sp lg p:=by
 refine dr ?_;unfold ownB;rw[h.s.at_,decide_eq_true_eq]
theorem Fs (h:mapB es p≠ownB sp lg p):tn es fr sp lg p=false:=by unfold tn;rw[beq_eq_false_iff_ne.2 h];rfl
theorem Ft (h:rhB fr p=ownB sp lg p):tn es fr sp lg p=false:=by unfold tn;rw[h];simp
theorem Jd (h:mapB es p=ownB sp lg p)(g:rhB fr p≠ownB sp lg p):tn es fr sp lg p=true:=by unfold tn;rw[h,beq_eq_false_iff_ne.2 g];simp
theorem GP (h:mapB es p=rhB fr p)(g:mapB es p=ownB sp lg p):tn es fr sp lg p=false:=Ft (by rw[<-h,g])
theorem Je (h:mapB es p≠rhB fr p)(g:mapB es p=ownB sp lg p):tn es fr sp lg p=true:=Jd g (fun e=>h (by rw[g,e]))
theorem Ke (p0:0<=p)(p1:p<es.length):cp .neq (af es p 0) 0=mapB es p:=by rw[uu];unfold mapB peM;rw[if_pos (by omega)]
theorem KB (h:p∈sW sp lg)(g:(es.length:Int)<=p):Ck es sp lg=false:=decide_eq_false (fun c=>by have:=c p h;omega)
theorem M1 (o:pE m (sW sp lg))(h:∀ k∈vs,k<es.length)(g:∀ k∈gU m,k∈vs):Ck es sp lg=true:=decide_eq_true (fun p hp=>h p (g p ((o.k p).2 hp)))
theorem Lv {q:Int}(h:∀ k∈vs,k<(es.length:Int))(g:q<es.length):∀ k∈q::vs,k<(es.length:Int):=fun k hk=>by
 rcases List.mem_cons.1 hk with rfl|hk
 ·exact g
 ·exact h k hk
theorem MO (j0:0<=j)(j1:j<i)(h:peF es (af sp i 0)=peF es (af sp j 0))(g:rt sp i j=false):Dp es sp i=false:=by
 unfold Dp;exact bB j0 (by omega) (by unfold AD;rw[g,decide_eq_true h];rfl)
theorem Ka (h:peF es (af sp i 0)≠peF es (af sp j 0)):AD es sp i j=true:=by unfold AD;rw[decide_eq_false h];rfl
theorem Kb (h:rt sp i j=true):AD es sp i j=true:=by unfold AD;rw[h,Bool.or_true]
theorem MP (h:upto (AD es sp i) j)(g:i<=j)(i0:0<=i):Dp es sp i=true:=by unfold Dp;exact bc h (by omega)
structure Dl (es sp lg:aa)(j:Int)(o:aa):Prop where
 ok:upto (uM es lg) j
 e:o=eK (gu sp sp.length++gr lg j.toNat)
 l:(gr lg j.toNat).length<=64*j.toNat
structure Gy (es sp lg:aa)(j k:Int)(o:aa):Prop where
 ok:upto (uM es lg) j
 h:pB lg j=true
 g:upto (fun k=>GT es (af lg j 0+k)) k
 e:o=eK (gu sp sp.length++gr lg j.toNat++jL (af lg j 0) k.toNat)
 l:(gr lg j.toNat).length<=64*j.toNat
structure Gz (sp:aa)(i:Int)(o:aa):Prop where
 ok:upto (pB sp) i
 e:o=eK (gu sp i.toNat)
variable {o : aa}
theorem Nf :Gz sp 0 []:=⟨aY,rfl⟩
theorem Ng (h:Gz sp i o):o.length=i.toNat:=by rw[h.e,bS,jO]
theorem Gd (h:Gz sp i o)(i0:0<=i)(g:pB sp i=true):Gz sp (i+1) (o++[[.i (af sp i 0)]]):=⟨aP h.ok g,by rw[jv i0,dU, <-h.e];rfl⟩
theorem M9 (h:Gz sp i o)(i1:i<=sp.length)(i2:(sp.length:Int)<=i):Dl es sp lg 0 o:=⟨aY,by rw[h.e,show i.toNat=sp.length from by omega];simp[gr],Nat.zero_le _⟩
theorem K2 (h:Dl es sp lg j o)(g:pB lg j=true):Gy es sp lg j 0 o:=⟨h.ok,g,aY,by rw[h.e];simp[jL],h.l⟩
theorem K3 (h:Gy es sp lg j k o)(k0:0<=k)(g:(fpg es (af lg j 0+k)).length=1):Gy es sp lg j (k+1) (o++[[.i (af lg j 0+k)]]):=
 ⟨h.ok,h.h,Fv h.g g,by rw[rC k0, <-List.append_assoc,dU, <-h.e];rfl,h.l⟩
theorem K5 (h:Gy es sp lg j k o)(j0:0<=j)(n0:0<=af lg j 1)(n1:af lg j 1<=64)(k1:k<=af lg j 1)(k2:af lg j 1<=k):Dl es sp lg (j+1) o:=by
 have l:=h.l;refine⟨aP h.ok (JX h.h h.g k2 n0),?_,?_⟩
 ·rw[h.e,show k.toNat=(af lg j 1).toNat from by omega,List.append_assoc, <-kw j0]
 ·rw[kw j0,List.length_append,lO];omega
theorem M8 (h:Gy es sp lg j k o)(k1:k<=64):o.length<=sp.length+64*j.toNat+64:=by
 have l:=h.l;rw[h.e,bS,List.length_append,List.length_append,jO,lO];omega
theorem Eu (h:Dl es sp lg j o)(j1:j<=lg.length)(j2:(lg.length:Int)<=j):o=eK (sW sp lg):=by
 have e:=h.e;rw[show j.toNat=lg.length from by omega]at e;exact e
theorem F3 (hl:layOk sp lg=true){x:Int}(h:x∈sW sp lg):0<=x/\x<=31:=by
 have F:=IM hl;unfold sW at h;rw[List.mem_append,jI,lG]at h;rcases h with⟨i,i1,e⟩|⟨j,j1,e1,e2⟩
 ·have t:=ic (F.s i i1);omega
 ·have t:=gn (F.l j j1);have b:=fJ t.1;omega
theorem K4 (hl:layOk sp lg=true)(h:Dl es sp lg j o)(j1:j<=lg.length)(j2:(lg.length:Int)<=j)(hs:sp.length<=1073741824)(hg:lg.length<=1073741824):Rw [tI] o:=by
 have l:=h.l;rw[Eu h j1 j2];refine mP (fun x hx=>by have:=F3 hl hx;omega) ?_;unfold sW;rw[List.length_append,jO];rw[show j.toNat=lg.length from by omega]at l;omega
theorem Na (h:Dl es sp lg j o)(j1:j<=lg.length)(j2:(lg.length:Int)<=j)(i0:0<=i)(i1:i<o.length)(g:(es.length:Int)<=af o i 0):Ck es sp lg=false:=by
 have e:=Eu h j1 j2;rw[e]at i1 g;obtain⟨v,q1,q2⟩:=vc i0 i1;rw[q2]at g;exact KB (List.mem_of_getElem? q1) g
theorem Nc (h:Dl es sp lg j o)(j1:j<=lg.length)(j2:(lg.length:Int)<=j)(g:upto (fun t=>decide (af o t 0<es.length)) i)(i2:(o.length:Int)<=i):Ck es sp lg=true:=by
 have e:=Eu h j1 j2;refine decide_eq_true (fun p hp=>?_);obtain⟨n,n1,rfl⟩:=List.mem_iff_getElem.1 hp;have n2:n<o.length:=by rw[e,bS];exact n1
 have q:=g n (by omega) (by omega);rw[decide_eq_true_eq,e,mO n1]at q;exact q
theorem Nb (h:Dl es sp lg j o)(j1:j<=lg.length)(j2:(lg.length:Int)<=j)(p:Int):hasB o p=ownB sp lg p:=by
 refine dr ?_;rw[Eu h j1 j2,jF];unfold ownB;rw[decide_eq_true_eq]
theorem Kj (k0:0<=k)(k1:k<(fpg es (af sp i 0)).length)(h:spI sp (af (fpg es (af sp i 0)) k 0)≠i)(g:spI sp (af (fpg es (af sp i 0)) k 0)<0):msA es sp i=false:=by
 unfold msA;exact bB k0 k1 (by unfold B5;rw[decide_eq_false h,decide_eq_false (by omega)];rfl)
theorem Kk (k0:0<=k)(k1:k<(fpg es (af sp i 0)).length)(h:spI sp (af (fpg es (af sp i 0)) k 0)≠i)(g:rt sp i (spI sp (af (fpg es (af sp i 0)) k 0))=false):msA es sp i=false:=by
 unfold msA;exact bB k0 k1 (by unfold B5;rw[decide_eq_false h,g];simp)
theorem Kc (h:spI sp (af (fpg es (af sp i 0)) k 0)=i):B5 es sp i k=true:=by unfold B5;rw[decide_eq_true h];rfl
theorem Kd (h:0<=spI sp (af (fpg es (af sp i 0)) k 0))(g:rt sp i (spI sp (af (fpg es (af sp i 0)) k 0))=true):B5 es sp i k=true:=by unfold B5;rw[decide_eq_true h,g];simp
theorem Lq {p:Int}(h:0<=spI sp p):spI sp p<sp.length:=by
 obtain⟨b,_⟩:=gS h;exact b
theorem xt {a b:Int}:bP .and .i64 a b=bP .and .i64 b a:=by
 show IntKind.wrap .i64 ((BitVec.ofInt _ a&&&BitVec.ofInt _ b).toNat)=IntKind.wrap .i64 ((BitVec.ofInt _ b&&&BitVec.ofInt _ a).toNat);rw[BitVec.and_comm]
theorem Ce :rt sp i j=rt sp j i:=by
 refine dr ?_;unfold rt mshB;simp only[Bool.and_eq_true,decide_eq_true_eq];rw[xt (a:=af sp i 2)]
 constructor
 ·rintro⟨a,b,c,d,e⟩;exact⟨b,a,c.symm,fun h=>d h.symm,e⟩
 ·rintro⟨a,b,c,d,e⟩;exact⟨b,a,c.symm,fun h=>d h.symm,e⟩
theorem uY {es:aa}{f:Int}:∀ {n:Nat} {x:Int},hasB (r8 es f n) x=true↔∃ k:Nat,k<n/\x=k/\af es k 0≠0/\af es k 1=f
 |0,x=>⟨fun h=>absurd (lA.1 h) (List.not_mem_nil),fun⟨k,h,_⟩=>absurd h (Nat.not_lt_zero _)⟩
 | n+1,x=>by
   by_cases c:af es n 0≠0/\af es n 1=f
   ·rw[zu c.1 c.2,cE,Bool.or_eq_true,uY,yN]
    constructor
    ·rintro(⟨k,h,e⟩|e)
     ·exact⟨k,by omega,e⟩
     ·exact⟨n,by omega,e.symm,c⟩
    ·rintro⟨k,h,e,q⟩;by_cases d:k=n
     ·subst d;exact .inr e.symm
     ·exact .inl ⟨k,by omega,e,q⟩
   ·have c':af es n 0=0\/af es n 1≠f:=by
     by_cases z:af es n 0=0
     ·exact .inl z
     ·exact .inr (fun e=>c ⟨z,e⟩)
    rw[Cy c',uY]
    constructor
    ·rintro⟨k,h,e⟩;exact⟨k,by omega,e⟩
    ·rintro⟨k,h,e,q⟩;by_cases d:k=n
     ·subst d;exact absurd q c
     ·exact⟨k,by omega,e,q⟩
theorem pf {p x:Int}:hasB (fpg es p) x=true↔peM es p≠0/\0<=x/\x<es.length/\peM es x≠0/\peF es x=peF es p:=by
 by_cases c:peM es p=0
 ·rw[Bj c];exact⟨fun h=>absurd (lA.1 h) (List.not_mem_nil),fun h=>absurd c h.1⟩
 ·rw[yK c];unfold pagesOn;rw[uY]
  constructor
  ·rintro⟨k,h,rfl,q1,q2⟩;refine⟨c,by omega,by omega,?_,?_⟩
   ·unfold peM;rw[if_pos (by omega)];exact q1
   ·rw[show peF es k=af es k 1 from by unfold peF;rw[if_pos (by omega)]];exact q2
  ·rintro⟨_,h0,h1,q1,q2⟩;refine⟨x.toNat,by omega,by omega,?_,?_⟩
   ·rw[Int.toNat_of_nonneg h0];unfold peM at q1;rw[if_pos (by omega)]at q1;exact q1
   ·rw[Int.toNat_of_nonneg h0];unfold peF at q2;rw[if_pos (c:=0<=x/\x<_) (by omega)]at q2;rw[q2];rfl
theorem uD {l:aa}{x:Int}:hasB l x=true↔∃ k:Nat,k<l.length/\af l k 0=x:=yO
theorem Cz (hl:layOk sp lg=true):pgI es fr sp lg=(pgS es fr sp lg&&smS es sp):=by
 have F:=IM hl;unfold pgI pgS;by_cases h1:bU (pB sp) sp.length=true
 case neg=>rw[Bool.not_eq_true]at h1;rw[h1];rfl
 by_cases h2:bU (uM es lg) lg.length=true
 case neg=>rw[Bool.not_eq_true]at h2;rw[h2];simp
 by_cases h3:bU (tn es fr sp lg) es.length=true
 case neg=>rw[Bool.not_eq_true]at h3;rw[h3];simp
 by_cases h4:Ck es sp lg=true
 case neg=>rw[Bool.not_eq_true]at h4;rw[h4];simp
 rw[h1,h2,h3,h4];simp only[Bool.true_and];have h4':=of_decide_eq_true h4;have mp:∀ q:Int,0<=q->q<es.length->(peM es q≠0↔q∈sW sp lg):=by
  intro q q0 q1;have e:=dq.1 h3 q q0 q1;unfold tn at e;simp only[Bool.and_eq_true,beq_iff_eq]at e;have e:=e.1;unfold mapB ownB at e
  constructor
  ·intro h;rw[decide_eq_true h]at e;exact of_decide_eq_true e.symm
  ·intro h;rw[decide_eq_true h]at e;exact of_decide_eq_true e
 have spg:∀ n:Nat,n<sp.length->af sp n 0∈sW sp lg:=fun n hn=>List.mem_append.2 (.inl (jI.2 ⟨n,hn,rfl⟩))
 have spm:∀ n:Nat,n<sp.length->0<=af sp n 0/\af sp n 0<es.length/\peM es (af sp n 0)≠0:=by
  intro n hn;have b:=F3 hl (spg n hn);have c:=h4' _ (spg n hn);exact⟨b.1,c,(mp _ b.1 c).2 (spg n hn)⟩
 have sat:∀ n:Nat,n<sp.length->spI sp (af sp n 0)=n:=by
  intro n hn;have q:=lr (p:=isSp sp (af sp n 0)) hn (lh rfl);obtain⟨q1,q2⟩:=gS q;obtain⟨m,e⟩:=Int.eq_ofNat_of_zero_le q;have e':spI sp (af sp n 0)=m:=e;rw[e]at q1 q2;have:=F.ss m n (by omega) hn (of_decide_eq_true q2);rw[e',this]
 refine dr ?_;unfold smS;rw[dq,dq]
 constructor
 ·intro h i i0 i1;unfold msA;rw[dq];intro k k0 k1;obtain⟨ii,rfl⟩:=Int.eq_ofNat_of_zero_le i0;obtain⟨kk,rfl⟩:=Int.eq_ofNat_of_zero_le k0;have hx:hasB (fpg es (af sp ii 0)) (af (fpg es (af sp ii 0)) kk 0)=true:=uD.2 ⟨kk,by omega,rfl⟩;generalize hX:af (fpg es (af sp ii 0)) kk 0=x at hx;obtain⟨c1,c2,c3,c4,c5⟩:=pf.1 hx;have hp:=(mp x c2 c3).1 c4;unfold sW at hp;rw[List.mem_append,jI,lG]at hp;unfold B5;rw[hX];rcases hp with⟨n,n1,rfl⟩|⟨j,j1,e1,e2⟩
  ·rw[sat n n1];rcases Nat.lt_trichotomy n ii with c|c|c
   ·have q:=dq.1 (h ii (by omega) i1) n (by omega) (by omega);unfold AD at q;rw[c5,decide_eq_true rfl]at q;rw[show rt sp ii n=true from by simpa using q,decide_eq_true (p:=(0:Int)<=n) (by omega)];simp
   ·rw[c,decide_eq_true rfl];rfl
   ·have q:=dq.1 (h n (by omega) (by omega)) ii (by omega) (by omega);unfold AD at q;rw[c5,decide_eq_true rfl]at q;have q':rt sp n ii=true:=by simpa using q
    rw[Ce,q',decide_eq_true (p:=(0:Int)<=n) (by omega)];simp
  ·exfalso;have t:=gn (F.l j j1);have b:=fJ t.1;have q:=dJ h2 j j1;unfold uM at q;simp only[Bool.and_eq_true]at q;have q2:=dq.1 q.2 (x-af lg j 0) (by omega) (by omega);rw[show af lg j 0+(x-af lg j 0)=x from by omega]at q2;have q3:=of_decide_eq_true q2;have s1:=spm ii (by omega);have a1:hasB (fpg es x) x=true:=pf.2 ⟨c4,c2,c3,c4,rfl⟩;have a2:hasB (fpg es x) (af sp ii 0)=true:=pf.2 ⟨c4,s1.1,s1.2.1,s1.2.2,c5.symm⟩;obtain⟨u,u1,u2⟩:=uD.1 a1;obtain⟨v,v1,v2⟩:=uD.1 a2;have:u=v:=by omega
   subst this;rw[u2]at v2;exact F.sl ii j (by omega) j1 (by omega) (by omega)
 ·intro h i i0 i1;unfold Dp;rw[dq];intro j j0 j1;obtain⟨ii,rfl⟩:=Int.eq_ofNat_of_zero_le i0;obtain⟨jj,rfl⟩:=Int.eq_ofNat_of_zero_le j0;unfold AD;by_cases c:peF es (af sp ii 0)=peF es (af sp jj 0)
  case neg=>rw[decide_eq_false c];rfl
  have s1:=spm ii (by omega);have s2:=spm jj (by omega);have a:hasB (fpg es (af sp ii 0)) (af sp jj 0)=true:=pf.2 ⟨s1.2.2,s2.1,s2.2.1,s2.2.2,c.symm⟩;obtain⟨k,k1,k2⟩:=uD.1 a;have q:=h ii (by omega) i1;unfold msA at q;have q:=dJ q k k1;unfold B5 at q;rw[k2,sat jj (by omega),decide_eq_false (p:=(jj:Int)=ii) (by omega)]at q;simp only[Bool.false_or,Bool.and_eq_true]at q;rw[q.2,Bool.or_true]
end
end Go.V
namespace Go.V
def jobZ (k m:Int)(cs:aa)(ph nx:Int):Bool:=decide (ph=0)&&(decide (nx=0)&&(decide (k=0)&&(decide (m=0)&&decide (cs.length=0))))
def rf (sp:aa)(me:Bool)(k m:Int)(cs:aa)(ph nx:Int):Bool:=
 bif me then(jbOk k m cs ph nx&&(decide (0<=spI sp k)&&decide (0<=spI sp m)))else jobZ k m cs ph nx
def Fg (cs:aa)(i:Int):Bool:=caOk (ax cs i 0)
def hpI (a0 a1 a2:aa)(a3:Int)(a4 a5 a6 a7 a8 a9 aA aB:aa)(aC:Int)(aD:aa)(aE aF aG aH:Int)(aI:Bool)(aJ aK:Int)(aL:aa)(aM aN:Int):Bool:=
 kerOk a0 a1 a2 a3 a4&&(rgOk a2.length a5&&(layOk a6 a7&&(pgI a2 a5 a6 a7&&(mailOk aA aB&&(decide (a9.length=aA.length)&&(quarOk aC aD&&(bU (Fg a9) a9.length&&
  (objOk a6 a7 a8 a9 aH&&(hoI a6 a7 a8 a9 aA aB aD aF&&(inR aE 0 1073741823&&(inR aF 0 1000000&&(inR aG 0 1000&&(inR aH 1 1000000&&rf a6 aI aJ aK aL aM aN)))))))))))))
structure Iz (a0 a1 a2 a4 a5 a6 a7 a8 a9 aA aB aD aL:aa):Prop where
 n:jX a6 a7 a8 a9 aA aB aD
 c:Rw [.sl [tI]] a0
 u:Rw [tB] a1
 e:Rw [tI,tI] a2
 el:a2.length<=1073741824
 r:Rw [tI] a4
 f:Rw [tI,tI] a5
 fl:a5.length<=1073741824
 j:Rw [tI] aL
 jl:aL.length<=1073741824
section
variable {a0 a1 a2 : aa} {a3 : Int} {a4 a5 a6 a7 a8 a9 aA aB : aa} {aC : Int} {aD : aa} {aE aF aG aH : Int} {aI : Bool} {aJ aK : Int} {aL : aa} {aM aN : Int} {i : Int}
theorem Jx (h:kerOk a0 a1 a2 a3 a4=false):hpI a0 a1 a2 a3 a4 a5 a6 a7 a8 a9 aA aB aC aD aE aF aG aH aI aJ aK aL aM aN=false:=by unfold hpI;rw[h];simp
theorem JD (h:rgOk a2.length a5=false):hpI a0 a1 a2 a3 a4 a5 a6 a7 a8 a9 aA aB aC aD aE aF aG aH aI aJ aK aL aM aN=false:=by unfold hpI;rw[h];simp
theorem Jy (h:layOk a6 a7=false):hpI a0 a1 a2 a3 a4 a5 a6 a7 a8 a9 aA aB aC aD aE aF aG aH aI aJ aK aL aM aN=false:=by unfold hpI;rw[h];simp
theorem He (h:pgI a2 a5 a6 a7=false):hpI a0 a1 a2 a3 a4 a5 a6 a7 a8 a9 aA aB aC aD aE aF aG aH aI aJ aK aL aM aN=false:=by unfold hpI;rw[h];simp
theorem Jz (h:mailOk aA aB=false):hpI a0 a1 a2 a3 a4 a5 a6 a7 a8 a9 aA aB aC aD aE aF aG aH aI aJ aK aL aM aN=false:=by unfold hpI;rw[h];simp
theorem My (h:decide (a9.length=aA.length)=false):hpI a0 a1 a2 a3 a4 a5 a6 a7 a8 a9 aA aB aC aD aE aF aG aH aI aJ aK aL aM aN=false:=by unfold hpI;rw[h];simp
theorem JC (h:quarOk aC aD=false):hpI a0 a1 a2 a3 a4 a5 a6 a7 a8 a9 aA aB aC aD aE aF aG aH aI aJ aK aL aM aN=false:=by unfold hpI;rw[h];simp
theorem Mx (h:bU (Fg a9) a9.length=false):hpI a0 a1 a2 a3 a4 a5 a6 a7 a8 a9 aA aB aC aD aE aF aG aH aI aJ aK aL aM aN=false:=by unfold hpI;rw[h];simp
theorem Hd (h:objOk a6 a7 a8 a9 aH=false):hpI a0 a1 a2 a3 a4 a5 a6 a7 a8 a9 aA aB aC aD aE aF aG aH aI aJ aK aL aM aN=false:=by unfold hpI;rw[h];simp
theorem Hc (h:hoI a6 a7 a8 a9 aA aB aD aF=false):hpI a0 a1 a2 a3 a4 a5 a6 a7 a8 a9 aA aB aC aD aE aF aG aH aI aJ aK aL aM aN=false:=by unfold hpI;rw[h];simp
theorem JE (h:inR aE 0 1073741823=false):hpI a0 a1 a2 a3 a4 a5 a6 a7 a8 a9 aA aB aC aD aE aF aG aH aI aJ aK aL aM aN=false:=by unfold hpI;rw[h];simp
theorem JG (h:inR aF 0 1000000=false):hpI a0 a1 a2 a3 a4 a5 a6 a7 a8 a9 aA aB aC aD aE aF aG aH aI aJ aK aL aM aN=false:=by unfold hpI;rw[h];simp
theorem JH (h:inR aG 0 1000=false):hpI a0 a1 a2 a3 a4 a5 a6 a7 a8 a9 aA aB aC aD aE aF aG aH aI aJ aK aL aM aN=false:=by unfold hpI;rw[h];simp
theorem JI (h:inR aH 1 1000000=false):hpI a0 a1 a2 a3 a4 a5 a6 a7 a8 a9 aA aB aC aD aE aF aG aH aI aJ aK aL aM aN=false:=by unfold hpI;rw[h];simp
theorem FD (h:(a9.length:Int)≠aA.length):hpI a0 a1 a2 a3 a4 a5 a6 a7 a8 a9 aA aB aC aD aE aF aG aH aI aJ aK aL aM aN=false:=My (decide_eq_false (by omega))
theorem FC (i0:0<=i)(i1:i<a9.length)(h:caOk (ax a9 i 0)=false):hpI a0 a1 a2 a3 a4 a5 a6 a7 a8 a9 aA aB aC aD aE aF aG aH aI aJ aK aL aM aN=false:=Mx (bB i0 i1 h)
theorem Bt (hk:kerOk a0 a1 a2 a3 a4=true)(hr:rgOk a2.length a5=true)(hl:layOk a6 a7=true)(hp:pgI a2 a5 a6 a7=true)(hm:mailOk aA aB=true)(hn:decide (a9.length=aA.length)=true)(hq:quarOk aC aD=true)(hc:bU (Fg a9) a9.length=true)(ho:objOk a6 a7 a8 a9 aH=true)(hh:hoI a6 a7 a8 a9 aA aB aD aF=true)(hs:inR aE 0 1073741823=true)(ht:inR aF 0 1000000=true)(hw:inR aG 0 1000=true)(hx:inR aH 1 1000000=true):hpI a0 a1 a2 a3 a4 a5 a6 a7 a8 a9 aA aB aC aD aE aF aG aH aI aJ aK aL aM aN=rf a6 aI aJ aK aL aM aN:=by unfold hpI;rw[hk,hr,hl,hp,hm,hn,hq,hc,ho,hh,hs,ht,hw,hx];rfl
structure NV (a0 a1 a2:aa)(a3:Int)(a4 a5 a6 a7 a8 a9 aA aB:aa)(aC:Int)(aD:aa)(aE aF aG aH:Int)(aI:Bool)(aJ aK:Int)(aL:aa)(aM aN:Int):Prop where
 k:kerOk a0 a1 a2 a3 a4=true
 r:rgOk a2.length a5=true
 l:layOk a6 a7=true
 p:pgI a2 a5 a6 a7=true
 m:mailOk aA aB=true
 n:decide (a9.length=aA.length)=true
 q:quarOk aC aD=true
 c:bU (Fg a9) a9.length=true
 o:objOk a6 a7 a8 a9 aH=true
 h:hoI a6 a7 a8 a9 aA aB aD aF=true
 s:inR aE 0 1073741823=true
 t:inR aF 0 1000000=true
 w:inR aG 0 1000=true
 x:inR aH 1 1000000=true
 j:rf a6 aI aJ aK aL aM aN=true
theorem FF (h:jbOk aJ aK aL aM aN=false):false=rf a6 true aJ aK aL aM aN:=by unfold rf;rw[h];rfl
theorem FG (h:spI a6 aJ<0):false=rf a6 true aJ aK aL aM aN:=by unfold rf;rw[decide_eq_false (p:=0<=spI a6 aJ) (by omega)];simp
theorem FH (h:jbOk aJ aK aL aM aN=true)(g:0<=spI a6 aJ):cp .geq (spI a6 aK) 0=rf a6 true aJ aK aL aM aN:=by unfold rf;rw[h,decide_eq_true g];rfl
theorem Lr (h:bU (sA aD aF) aD.length=false)(hl:layOk a6 a7=true)(ho:objOk a6 a7 a8 a9 aH=true):hoI a6 a7 a8 a9 aA aB aD aF=false:=by rw[Br hl ho,h,Bool.and_false]
theorem JF (i0:0<=i)(i1:i<aD.length)(h:aF<af aD i 2)(hl:layOk a6 a7=true):hpI a0 a1 a2 a3 a4 a5 a6 a7 a8 a9 aA aB aC aD aE aF aG aH aI aJ aK aL aM aN=false:=by
 by_cases ho:objOk a6 a7 a8 a9 aH=true
 ·exact Hc (Lr (bB i0 i1 (by unfold sA;exact decide_eq_false (by omega))) hl ho)
 ·exact Hd (by simpa using ho)
theorem JB (hl:layOk a6 a7=true)(h:pgS a2 a5 a6 a7=false):hpI a0 a1 a2 a3 a4 a5 a6 a7 a8 a9 aA aB aC aD aE aF aG aH aI aJ aK aL aM aN=false:=He (by rw[Cz hl,h];rfl)
theorem JA (hl:layOk a6 a7=true)(h:smS a2 a6=false):hpI a0 a1 a2 a3 a4 a5 a6 a7 a8 a9 aA aB aC aD aE aF aG aH aI aJ aK aL aM aN=false:=He (by rw[Cz hl,h,Bool.and_false])
theorem Jw (hl:layOk a6 a7=true)(ho:objOk a6 a7 a8 a9 aH=true)(h:hoS a6 a7 a8 a9 aA aB aD=false):hpI a0 a1 a2 a3 a4 a5 a6 a7 a8 a9 aA aB aC aD aE aF aG aH aI aJ aK aL aM aN=false:=Hc (by rw[Br hl ho,h];rfl)
theorem M2 (hl:layOk a6 a7=true)(h:pgS a2 a5 a6 a7=true)(g:smS a2 a6=true):pgI a2 a5 a6 a7=true:=by rw[Cz hl,h,g];rfl
theorem Mw (hl:layOk a6 a7=true)(ho:objOk a6 a7 a8 a9 aH=true)(h:hoS a6 a7 a8 a9 aA aB aD=true)(i2:(aD.length:Int)<=i)(g:upto (sA aD aF) i):hoI a6 a7 a8 a9 aA aB aD aF=true:=by rw[Br hl ho,h,bc g i2];rfl
theorem Nv (h:af aD i 2<=aF):sA aD aF i=true:=decide_eq_true h
end
theorem Hb {a0 a1 a2 a4 a5 a6 a7 a8 a9 aA aB aD aL:aa}(h0:Rw [.sl [tI]] a0)(h1:Rw [tB] a1)(h2:Rw [tI,tI] a2)(h4:Rw [tI] a4)(h5:Rw [tI,tI] a5)(h6:Rw [tI,tI,tI] a6)(h7:Rw [tI,tI,tI] a7)(h8:Rw [tI,tI,tI,tI] a8)(h9:Rw [.sl [.sl [tI]]] a9)(h10:Rw [.sl [tI,tI]] aA)(h11:Rw [.sl [tI]] aB)(h13:Rw [tI,tI,tI] aD)(h21:Rw [tI] aL) 
 (hs:ak a0<=1048576/\ak a1<=1048576/\ak a2<=1048576/\ak a4<=1048576/\ak a5<=1048576/\ak a6<=1048576/\ak a7<=1048576/\ak a8<=1048576/\ak a9<=1048576/\ak aA<=1048576/\ak aB<=1048576/\ak aD<=1048576/\ak aL<=1048576):Iz a0 a1 a2 a4 a5 a6 a7 a8 a9 aA aB aD aL:=by
 obtain⟨c0,c1,c2,c4,c5,c6,c7,c8,c9,c10,c11,c13,c21⟩:=hs;exact⟨Ci h6 h7 h8 h9 h10 h11 h13 c6 c7 c8 c9 c10 c11 c13,h0,h1,h2,by unfold ak at c2;omega,h4,h5,by unfold ak at c5;omega,h21,by unfold ak at c21;omega⟩
end Go.V