/- Plain facts. -/
import Derived.Test.YtcodmgmliopheaaGreatW2
import Derived.Test.YtcodmgmliopheaaGreatW1
set_option linter.all false
namespace Go.V
def zt (sp:aa)(i:Int):Nat->List Int
 |0=>[]
 |n+1=>zt sp i n++(if hsB (af sp i 2) n then[aaI (af sp i 0) (af sp i 1) (af sp i 2) n]else[])
def ym (sp:aa):Nat->List Int
 |0=>[]
 |n+1=>ym sp n++zt sp n (slN (af sp n 1)).toNat
def A1 (lg:aa):Nat->List Int
 |0=>[]
 |n+1=>A1 lg n++[af lg n 0*16]
def My (sp lg:aa):List Int:=ym sp sp.length++A1 lg lg.length
def iaL (sp lg:aa):aa:=if layOk sp lg then srtL (eM (My sp lg))else[]
theorem GJ {a b:Int}(h: -9223372036854775808<=a*b/\a*b<=9223372036854775807):bH .mul .i64 a b=a*b:=IntWalk.i64_in _ h
theorem AF {l:aa}:(srtL l).length=l.length:=by unfold srtL;rw[bV,List.length_mergeSort];unfold j7;rw[List.length_map]
def LV (l:List Int):Prop:=∀ x∈l,-1<=x/\x<=1000
theorem Cp {a b:List Int}(h:LV a)(g:LV b):LV (a++b):=fun x hx=>by
 rcases List.mem_append.1 hx with q|q
 ·exact h x q
 ·exact g x q
theorem JX {x:Int}(h: -1<=x/\x<=1000):LV [x]:=fun y hy=>by simp at hy;rw[hy];exact h
theorem TK {p k b s:Int}: -1<=aaI p k b s/\aaI p k b s<=1000:=by
 unfold aaI;by_cases h:LR p k b s=true
 ·rw[if_pos h];unfold LR at h;simp only[Bool.and_eq_true]at h;have t:=ig h.1;have c:=gn t.2.2.1;have s1:=bE.1 h.2;have m0:0<=s*clsSz k:=Int.mul_nonneg (by omega) (by omega);have m1:s*clsSz k<=slN k*clsSz k:=Int.mul_le_mul_of_nonneg_right (by omega) (by omega);omega
 ·rw[if_neg h];omega
theorem yl {sp:aa}{i k:Int}(h:0<=k):zt sp i (k+1).toNat=zt sp i k.toNat++(if hsB (af sp i 2) k then[aaI (af sp i 0) (af sp i 1) (af sp i 2) k]else[]):=by
 rw[show(k+1).toNat=k.toNat+1 from by omega,zt,Int.toNat_of_nonneg h]
theorem FF {sp:aa}{i:Int}(h:0<=i):ym sp (i+1).toNat=ym sp i.toNat++zt sp i (slN (af sp i 1)).toNat:=by
 rw[show(i+1).toNat=i.toNat+1 from by omega,ym,Int.toNat_of_nonneg h]
theorem Bn {lg:aa}{i:Int}(h:0<=i):A1 lg (i+1).toNat=A1 lg i.toNat++[af lg i 0*16]:=by
 rw[show(i+1).toNat=i.toNat+1 from by omega,A1,Int.toNat_of_nonneg h]
structure Of (sp:aa)(i:Int)(o:aa):Prop where
 e:o=eM (ym sp i.toNat)
 b:LV (ym sp i.toNat)
 l:(ym sp i.toNat).length<=16*i.toNat
structure H2 (sp:aa)(i k:Int)(o:aa):Prop where
 e:o=eM (ym sp i.toNat++zt sp i k.toNat)
 b:LV (ym sp i.toNat++zt sp i k.toNat)
 l:(ym sp i.toNat).length<=16*i.toNat
 k:(zt sp i k.toNat).length<=k.toNat
structure JP (sp lg:aa)(j:Int)(o:aa):Prop where
 e:o=eM (ym sp sp.length++A1 lg j.toNat)
 b:LV (ym sp sp.length++A1 lg j.toNat)
 l:(ym sp sp.length++A1 lg j.toNat).length<=16*sp.length+j.toNat
theorem Un {sp:aa}:Of sp 0 []:=⟨rfl,(fun x hx=>by cases hx),Nat.zero_le _⟩
theorem Up {sp o:aa}{i:Int}(h:Of sp i o):H2 sp i 0 o:=
 ⟨by rw[h.e];simp[zt],by simpa[zt]using h.b,h.l,Nat.zero_le _⟩
theorem MB {sp o:aa}{i k:Int}(h:H2 sp i k o):o.length<=16*i.toNat+k.toNat:=by
 have l:=h.l;have m:=h.k;rw[h.e,bV,List.length_append];omega
theorem MC {sp o:aa}{i k:Int}(h:H2 sp i k o)(k0:0<=k)(hh:hsB (af sp i 2) k=true):H2 sp i (k+1) (o++[[.i (aaI (af sp i 0) (af sp i 1) (af sp i 2) k)]]):=by
 have m:=h.k;have e:=h.e;refine⟨?_,?_,h.l,?_⟩
 ·rw[yl k0,if_pos hh, <-List.append_assoc,eg, <-e];rfl
 ·rw[yl k0,if_pos hh, <-List.append_assoc];exact Cp h.b (JX TK)
 ·rw[yl k0,if_pos hh,List.length_append,List.length_cons,List.length_nil];omega
theorem PX {sp o:aa}{i k:Int}(h:H2 sp i k o)(k0:0<=k)(hh:hsB (af sp i 2) k=false):H2 sp i (k+1) o:=by
 have m:=h.k;have e:=h.e;have u:zt sp i (k+1).toNat=zt sp i k.toNat:=by rw[yl k0,hh];simp
 refine⟨?_,?_,h.l,?_⟩
 ·rw[u];exact e
 ·rw[u];exact h.b
 ·rw[u];omega
theorem Vl {sp lg:aa}{i:Int}(hl:layOk sp lg=true)(h0:0<=i)(h1:i<sp.length):0<=slN (af sp i 1)/\slN (af sp i 1)<=16:=by
 have t:=ig ((FW hl).1 i h0 h1);have c:=gn t.2.2.1;omega
theorem MA {sp o:aa}{i k:Int}(h:H2 sp i k o)(i0:0<=i)(k1:k<=slN (af sp i 1))(k2:slN (af sp i 1)<=k)(hs:0<=slN (af sp i 1)/\slN (af sp i 1)<=16):Of sp (i+1) o:=by
 have ek:k=slN (af sp i 1):=by omega
 have e:=h.e;have b:=h.b;have l:=h.l;have m:=h.k;rw[ek, <-FF i0]at e b;rw[ek]at m;refine⟨e,b,?_⟩;rw[FF i0,List.length_append];omega
theorem Uq {sp lg o:aa}{i:Int}(h:Of sp i o)(h1:i<=sp.length)(h2:(sp.length:Int)<=i):JP sp lg 0 o:=by
 have ei:i.toNat=sp.length:=by omega
 have e:=h.e;have b:=h.b;have l:=h.l;rw[ei]at e b l;exact⟨by rw[e];simp[A1],by simpa[A1]using b,by simpa[A1]using l⟩
theorem FI {sp lg o:aa}{j:Int}(h:JP sp lg j o):o.length<=16*sp.length+j.toNat:=by
 have l:=h.l;rw[h.e,bV];exact l
theorem UA {sp lg:aa}{j:Int}(hl:layOk sp lg=true)(h0:0<=j)(h1:j<lg.length):0<=af lg j 0/\af lg j 0<=32:=by
 have t:=hY ((FW hl).2.1 j h0 h1);have b:=gJ t.1;omega
theorem PZ {sp lg o:aa}{j:Int}(h:JP sp lg j o)(j0:0<=j)(hb:0<=af lg j 0/\af lg j 0<=32):JP sp lg (j+1) (o++[[.i (af lg j 0*16)]]):=by
 have e:=h.e;have l:=h.l;refine⟨?_,?_,?_⟩
 ·rw[Bn j0, <-List.append_assoc,eg, <-e];rfl
 ·rw[Bn j0, <-List.append_assoc];exact Cp h.b (JX (by omega))
 ·rw[Bn j0, <-List.append_assoc,List.length_append,List.length_cons,List.length_nil];omega
theorem PY {sp lg o:aa}{j:Int}(h:JP sp lg j o)(h1:sp.length<=1073741824)(h2:j<=1073741824):Rw [tI] o/\o.length<=70368744177664:=by
 have l:=FI h;refine⟨?_,by omega⟩;have e:=h.e;have l2:=h.l;rw[e];exact pm (fun x hx=>by have:=h.b x hx;omega) (by omega)
theorem MD {sp lg o:aa}{j:Int}(h:JP sp lg j o)(j1:j<=lg.length)(j2:(lg.length:Int)<=j)(hl:layOk sp lg=true):srtL o=iaL sp lg:=by
 have ej:j.toNat=lg.length:=by omega
 have e:=h.e;rw[ej]at e;unfold iaL My;rw[if_pos hl, <-e]
theorem Uo {sp lg:aa}(hl:layOk sp lg=false):([]:aa)=iaL sp lg:=by unfold iaL;rw[hl];rfl
end Go.V
namespace Go.V
theorem sK :∀ {a b:List Int},a.Pairwise (· < ·)->b.Pairwise (· < ·)->(∀ x,x∈a↔x∈b)->a=b
 |[],[],_,_,_=>rfl
 |[],y::b,_,_,h=>by have:=(h y).2 (by simp);simp at this
 |x::a,[],_,_,h=>by have:=(h x).1 (by simp);simp at this
 | x::a,y::b,ha,hb,h=>by
   rw[List.pairwise_cons]at ha hb;have e:x=y:=by
    rcases List.mem_cons.1 ((h x).1 (by simp))with q|q
    ·exact q
    ·rcases List.mem_cons.1 ((h y).2 (by simp))with r|r
     ·exact r.symm
     ·have:=hb.1 x q;have:=ha.1 y r;omega
   subst e;rw[sK ha.2 hb.2 (fun z=>?_)]
   constructor
   ·intro m;rcases List.mem_cons.1 ((h z).1 (by simp[m]))with q|q
    ·have:=ha.1 z m;omega
    ·exact q
   ·intro m;rcases List.mem_cons.1 ((h z).2 (by simp[m]))with q|q
    ·have:=hb.1 z m;omega
    ·exact q
theorem kF {sp:aa}{x:Int}:∀ {n:Nat},x∈il sp n↔∃ i:Nat,i<n/\af sp i 0=x
 |0=>by simp[il]
 | n+1=>by
   rw[il,List.mem_append,kF,List.mem_singleton]
   constructor
   ·rintro(⟨i,h,e⟩|rfl)
    ·exact⟨i,by omega,e⟩
    ·exact⟨n,by omega,rfl⟩
   ·rintro⟨i,h,e⟩;by_cases c:i=n
    ·subst c;exact .inr e.symm
    ·exact .inl ⟨i,by omega,e⟩
theorem yx {p x:Int}:∀ {n:Nat},x∈kH p n↔p<=x/\x<p+n
 |0=>⟨(fun h=>by cases h),(fun h=>absurd h (by omega))⟩
 | n+1=>by
   rw[kH,List.mem_append,yx,List.mem_singleton];omega
theorem nD {lg:aa}{x:Int}:∀ {n:Nat},x∈ij lg n↔∃ j:Nat,j<n/\af lg j 0<=x/\x<af lg j 0+(af lg j 1).toNat
 |0=>by simp[ij]
 | n+1=>by
   rw[ij,List.mem_append,nD,yx]
   constructor
   ·rintro(⟨i,h,e⟩|h)
    ·exact⟨i,by omega,e⟩
    ·exact⟨n,by omega,h⟩
   ·rintro⟨i,h,e⟩;by_cases c:i=n
    ·subst c;exact .inr e
    ·exact .inl ⟨i,by omega,e⟩
theorem HC {sp:aa}:∀ {n:Nat},(il sp n).Nodup->∀ i i':Nat,i<i'->i'<n->af sp i 0≠af sp i' 0
 |0,_,i,i',_,h=>by omega
 | n+1,hn,i,i',h1,h2=>by
   rw[il,List.nodup_append]at hn;by_cases c:i'=n
   ·subst c;exact hn.2.2 _ (kF.2 ⟨i,h1,rfl⟩) _ (by simp)
   ·exact HC hn.1 i i' h1 (by omega)
theorem F2 {lg:aa}:∀ {n:Nat},(ij lg n).Nodup->∀ (j j':Nat) (x:Int),j<j'->j'<n->af lg j 0<=x->x<af lg j 0+(af lg j 1).toNat->af lg j' 0<=x->x<af lg j' 0+(af lg j' 1).toNat->False
 |0,_,j,j',x,_,h,_,_,_,_=>by omega
 | n+1,hn,j,j',x,h1,h2,a,b,c,d=>by
   rw[ij,List.nodup_append]at hn;by_cases e:j'=n
   ·subst e;exact hn.2.2 x (nD.2 ⟨j,h1,a,b⟩) x (yx.2 ⟨c,d⟩) rfl
   ·exact F2 hn.1 j j' x h1 (by omega) a b c d
structure Oi (sp lg:aa):Prop where
 s:∀ i:Nat,i<sp.length->spOk (af sp i 0) (af sp i 1) (af sp i 2)=true
 l:∀ j:Nat,j<lg.length->lgOk (af lg j 0) (af lg j 1) (af lg j 2)=true
 ss:∀ i i':Nat,i<sp.length->i'<sp.length->af sp i 0=af sp i' 0->i=i'
 sl:∀ i j:Nat,i<sp.length->j<lg.length->af lg j 0<=af sp i 0->af sp i 0<af lg j 0+af lg j 1->False
 ll:∀ (j j':Nat) (x:Int),j<lg.length->j'<lg.length->af lg j 0<=x->x<af lg j 0+af lg j 1->af lg j' 0<=x->x<af lg j' 0+af lg j' 1->j=j'
theorem Ot {sp lg:aa}(h:layOk sp lg=true):Oi sp lg:=by
 obtain⟨h1,h2,h3⟩:=FW h;unfold uV at h3;rw[List.nodup_append]at h3;have n0:∀ j:Nat,j<lg.length->((af lg j 1).toNat:Int)=af lg j 1:=fun j hj=>by
  have t:=hY (h2 j (by omega) (by omega));have b:=gJ t.1;omega
 refine⟨fun i hi=>h1 i (by omega) (by omega),fun j hj=>h2 j (by omega) (by omega),fun i i' a b e=>?_,fun i j a b c d=>?_,fun j j' x a b c d e f=>?_⟩
 ·rcases Nat.lt_trichotomy i i' with q|q|q
  ·exact absurd e (HC h3.1 i i' q b)
  ·exact q
  ·exact absurd e.symm (HC h3.1 i' i q a)
 ·exact h3.2.2 _ (kF.2 ⟨i,a,rfl⟩) _ (nD.2 ⟨j,b,c,by rw[n0 j b];exact d⟩) rfl
 ·rcases Nat.lt_trichotomy j j' with q|q|q
  ·exact(F2 h3.2.1 j j' x q b c (by rw[n0 j a];exact d) e (by rw[n0 j' b];exact f)).elim
  ·exact q
  ·exact(F2 h3.2.1 j' j x q a e (by rw[n0 j' b];exact f) c (by rw[n0 j a];exact d)).elim
theorem jO {p k b s:Int}(h:spOk p k b=true)(h0:0<=s)(h1:s<slN k):aaI p k b s=p*16+s*clsSz k/\0<=s*clsSz k/\s*clsSz k+clsSz k<=16/\1<=clsSz k:=by
 have t:=ig h;have c:=gn t.2.2.1;have a:LR p k b s=true:=by unfold LR;rw[h,bE.2 ⟨h0,by omega⟩];rfl
 have m0:0<=s*clsSz k:=Int.mul_nonneg h0 (by omega);have m1:(s+1)*clsSz k<=slN k*clsSz k:=Int.mul_le_mul_of_nonneg_right (by omega) (by omega);rw[Int.add_mul]at m1;unfold aaI;rw[if_pos a];exact⟨rfl,m0,by omega,by omega⟩
theorem sk {sp:aa}{i x:Int}:∀ {n:Nat},x∈zt sp i n↔∃ k:Nat,k<n/\hsB (af sp i 2) k=true/\x=aaI (af sp i 0) (af sp i 1) (af sp i 2) k
 |0=>by simp[zt]
 | n+1=>by
   rw[zt,List.mem_append,sk]
   constructor
   ·rintro(⟨k,h,e⟩|h)
    ·exact⟨k,by omega,e⟩
    ·by_cases c:hsB (af sp i 2) n=true
     ·rw[if_pos c,List.mem_singleton]at h;exact⟨n,by omega,c,h⟩
     ·rw[if_neg c]at h;simp at h
   ·rintro⟨k,h,c,e⟩;by_cases q:k=n
    ·subst q;rw[if_pos c];exact .inr (by simp[e])
    ·exact .inl ⟨k,by omega,c,e⟩
theorem sn {sp:aa}{x:Int}:∀ {n:Nat},x∈ym sp n↔∃ i k:Nat,i<n/\k<(slN (af sp i 1)).toNat/\hsB (af sp i 2) k=true/\x=aaI (af sp i 0) (af sp i 1) (af sp i 2) k
 |0=>by simp[ym]
 | n+1=>by
   rw[ym,List.mem_append,sn,sk]
   constructor
   ·rintro(⟨i,k,h,e⟩|⟨k,h⟩)
    ·exact⟨i,k,by omega,e⟩
    ·exact⟨n,k,by omega,h⟩
   ·rintro⟨i,k,h,e⟩;by_cases q:i=n
    ·subst q;exact .inr ⟨k,e⟩
    ·exact .inl ⟨i,k,by omega,e⟩
theorem sj {lg:aa}{x:Int}:∀ {n:Nat},x∈A1 lg n↔∃ j:Nat,j<n/\x=af lg j 0*16
 |0=>by simp[A1]
 | n+1=>by
   rw[A1,List.mem_append,sj,List.mem_singleton]
   constructor
   ·rintro(⟨i,h,e⟩|h)
    ·exact⟨i,by omega,e⟩
    ·exact⟨n,by omega,h⟩
   ·rintro⟨i,h,e⟩;by_cases q:i=n
    ·subst q;exact .inr e
    ·exact .inl ⟨i,by omega,e⟩
theorem Bo {sp:aa}{i:Nat}(h:spOk (af sp i 0) (af sp i 1) (af sp i 2)=true):∀ {n:Nat},n<=(slN (af sp i 1)).toNat->(zt sp i n).Nodup
 |0,_=>List.nodup_nil
 | n+1,hn=>by
   rw[zt];by_cases c:hsB (af sp i 2) n=true
   ·rw[if_pos c];refine gQ (Bo h (by omega)) (fun m=>?_);obtain⟨k,k1,_,k3⟩:=sk.1 m;have a:=jO (s:=(n:Int)) h (by omega) (by omega);have b:=jO (s:=(k:Int)) h (by omega) (by omega);have q:((k:Int)+1)*clsSz (af sp i 1)<=(n:Int)*clsSz (af sp i 1):=Int.mul_le_mul_of_nonneg_right (by omega) (by omega);rw[Int.add_mul]at q;omega
   ·rw[if_neg c,List.append_nil];exact Bo h (by omega)
theorem FE {sp lg:aa}(F:Oi sp lg):∀ {n:Nat},n<=sp.length->(ym sp n).Nodup
 |0,_=>List.nodup_nil
 | n+1,hn=>by
   rw[ym,List.nodup_append];refine⟨FE F (by omega),Bo (F.s n (by omega)) (Nat.le_refl _),fun x hx y hy e=>?_⟩;subst e;obtain⟨i,k,i1,k1,_,e1⟩:=sn.1 hx;obtain⟨k',k2,_,e2⟩:=sk.1 hy;have a:=jO (s:=(k:Int)) (F.s i (by omega)) (by omega) (by omega);have b:=jO (s:=(k':Int)) (F.s n (by omega)) (by omega) (by omega);have:=F.ss i n (by omega) (by omega) (by omega);omega
theorem FD {sp lg:aa}(F:Oi sp lg):∀ {n:Nat},n<=lg.length->(A1 lg n).Nodup
 |0,_=>List.nodup_nil
 | n+1,hn=>by
   rw[A1];refine gQ (FD F (by omega)) (fun m=>?_);obtain⟨j,j1,e⟩:=sj.1 m;have t:=hY (F.l j (by omega));have b:=gJ t.1;have t':=hY (F.l n (by omega));have b':=gJ t'.1;have:=F.ll j n (af lg j 0) (by omega) (by omega) (by omega) (by omega) (by omega) (by omega);omega
theorem Mz {sp lg:aa}(F:Oi sp lg):(My sp lg).Nodup:=by
 unfold My;rw[List.nodup_append];refine⟨FE F (Nat.le_refl _),FD F (Nat.le_refl _),fun x hx y hy e=>?_⟩;subst e;obtain⟨i,k,i1,k1,_,e1⟩:=sn.1 hx;obtain⟨j,j1,e2⟩:=sj.1 hy;have a:=jO (s:=(k:Int)) (F.s i (by omega)) (by omega) (by omega);have t:=hY (F.l j (by omega));have b:=gJ t.1;exact F.sl i j i1 j1 (by omega) (by omega)
end Go.V
namespace Go.V
theorem iP {p:Int->Bool}{n:Nat}(h:0<=ce p n):ce p n<n/\p (ce p n)=true:=by
 refine⟨by rcases ng (p:=p) (n:=n)with q|q<;>omega,?_⟩;unfold ce at h ⊢;split at h
 ·rename_i j e;have q:=List.find?_some e;exact q
 ·omega
theorem nh {p:Int->Bool}{n i:Nat}(h:i<n)(hp:p i=true):0<=ce p n:=by
 unfold ce;split
 ·omega
 ·rename_i e;rw[List.find?_eq_none]at e;exact absurd hp (e i (List.mem_range.2 h))
theorem Hk {sp:aa}{a i:Int}:yK sp a i=true↔A2 (af sp i 0) (af sp i 1) (af sp i 2) a=true:=by
 unfold yK;rw[decide_eq_true_eq]
 constructor
 ·intro h;cases c:A2 (af sp i 0) (af sp i 1) (af sp i 2) a with
  |true=>rfl
  |false=>rw[(xD c).1]at h;omega
 ·intro h;obtain⟨h1,h2,h3⟩:=Ay.1 h;have cb:=gn (ig h1).2.2.1;rw[(vg h).1];exact Int.ediv_nonneg (by omega) (by omega)
def TC (sp lg:aa)(x:Int):Prop:=(∃ i k:Nat,i<sp.length/\k<(slN (af sp i 1)).toNat/\hsB (af sp i 2) k=true/\x=aaI (af sp i 0) (af sp i 1) (af sp i 2) k)\/∃ j:Nat,j<lg.length/\x=af lg j 0*16
theorem C5 {sp lg:aa}{x:Int}:x∈My sp lg↔TC sp lg x:=by
 unfold My TC;rw[List.mem_append,sn,sj]
theorem O5 {sp lg:aa}{a:Int}(h:0<=iQ sp a):dnK sp lg a=(if hsB (af sp (iQ sp a) 2) (H0 sp a (iQ sp a))then 1 else 2)/\dnO sp lg a=Ow sp a (iQ sp a):=by
 unfold dnK dnO;rw[if_pos h,if_pos h];exact⟨rfl,rfl⟩
theorem O4 {sp lg:aa}{a:Int}(h:¬ 0<=iQ sp a)(g:0<=wy lg a):dnK sp lg a=3/\dnO sp lg a=TA lg a (wy lg a):=by
 unfold dnK dnO;rw[if_neg h,if_neg h,if_pos g,if_pos g];exact⟨rfl,rfl⟩
theorem TU {sp lg:aa}{a:Int}(h:¬ 0<=iQ sp a)(g:¬ 0<=wy lg a):dnK sp lg a=0/\dnO sp lg a=0:=by
 unfold dnK dnO;rw[if_neg h,if_neg h,if_neg g,if_neg g];exact⟨rfl,rfl⟩
theorem CY {sp lg:aa}{a:Int}(hl:layOk sp lg=true):rJ sp lg a=true↔dnO sp lg a=0/\(dnK sp lg a=1\/dnK sp lg a=3):=by
 unfold rJ dzO dzK;rw[if_pos hl,if_pos hl];simp only[Bool.and_eq_true,Bool.or_eq_true,decide_eq_true_eq]
theorem KG {sp lg:aa}{x:Int}(F:Oi sp lg)(hl:layOk sp lg=true)(h:rJ sp lg x=true):TC sp lg x:=by
 obtain⟨h1,h2⟩:=(CY hl).1 h;by_cases c:0<=iQ sp x
 ·obtain⟨d1,d2⟩:=O5 (lg:=lg) c;obtain⟨b,q⟩:=iP c;change iQ sp x<sp.length at b;change yK sp x (iQ sp x)=true at q;rw[d1]at h2;rw[d2]at h1;generalize hF:iQ sp x=f at*;obtain⟨f,rfl⟩:=Int.eq_ofNat_of_zero_le c;have bf:f<sp.length:=by omega
  have q':=Hk.1 q;obtain⟨a1,a2,a3⟩:=Ay.1 q';obtain⟨e1,e2⟩:=vg q';have cb:=gn (ig a1).2.2.1;have hh:hsB (af sp f 2) (H0 sp x f)=true:=by
   cases c:hsB (af sp f 2) (H0 sp x f)with
   |true=>rfl
   |false=>rw[c]at h2;simp at h2
  unfold Ow at h1;rw[e2]at h1;unfold H0 at hh;rw[e1]at hh;have dv:clsSz (af sp f 1)*((x-af sp f 0*16)/clsSz (af sp f 1))=x-af sp f 0*16:=Int.mul_ediv_cancel_of_emod_eq_zero h1;have nn:0<=(x-af sp f 0*16)/clsSz (af sp f 1):=Int.ediv_nonneg (by omega) (by omega);generalize hs:(x-af sp f 0*16)/clsSz (af sp f 1)=s at*;have lt:s<slN (af sp f 1):=by
   by_cases w:s<slN (af sp f 1)
   ·exact w
   ·have m:slN (af sp f 1)*clsSz (af sp f 1)<=s*clsSz (af sp f 1):=Int.mul_le_mul_of_nonneg_right (by omega) (by omega);rw[Int.mul_comm s]at m;omega
  obtain⟨s,rfl⟩:=Int.eq_ofNat_of_zero_le nn;have ae:=jO a1 nn lt;refine .inl ⟨f,s,bf,by omega,hh,?_⟩;have ae1:=ae.1;rw[Int.mul_comm (s:Int)]at ae1;show x=aaI (af sp f 0) (af sp f 1) (af sp f 2) s;rw[ae1];omega
 ·by_cases g:0<=wy lg x
  ·obtain⟨d1,d2⟩:=O4 c g;obtain⟨b,q⟩:=iP g;change wy lg x<lg.length at b;change Af lg x (wy lg x)=true at q;rw[d2]at h1;generalize hF:wy lg x=f at*;obtain⟨f,rfl⟩:=Int.eq_ofNat_of_zero_le g;refine .inr ⟨f,by omega,?_⟩;unfold TA loI at h1;unfold Af at q;rw[if_pos q]at h1;show x=af lg f 0*16;omega
  ·obtain⟨d1,d2⟩:=TU c g;rw[d1]at h2;omega
theorem Kq {sp lg:aa}{x:Int}(h:0<=iQ sp x):∃ f:Nat,iQ sp x=f/\f<sp.length/\A2 (af sp f 0) (af sp f 1) (af sp f 2) x=true:=by
 obtain⟨b,q⟩:=iP h;obtain⟨f,e⟩:=Int.eq_ofNat_of_zero_le h;refine⟨f,e,?_,?_⟩
 ·have:iQ sp x<sp.length:=b;rw[e]at this;exact Int.ofNat_lt.1 this
 ·have:yK sp x (iQ sp x)=true:=q;rw[e]at this;exact Hk.1 this
theorem Qk {sp lg:aa}{x:Int}(F:Oi sp lg)(hl:layOk sp lg=true)(h:TC sp lg x):rJ sp lg x=true:=by
 rw[CY hl];rcases h with⟨i,k,i1,k1,hh,e⟩|⟨j,j1,e⟩
 ·have a1:=F.s i i1;have cb:=gn (ig a1).2.2.1;have ae:=jO (s:=(k:Int)) a1 (by omega) (by omega);have sb:A2 (af sp i 0) (af sp i 1) (af sp i 2) x=true:=Ay.2 ⟨a1,by omega,by omega⟩;have c:0<=iQ sp x:=nh i1 (Hk.2 sb);obtain⟨f,e1,f1,f2⟩:=Kq (lg:=lg) c;obtain⟨_,g2,g3⟩:=Ay.1 f2;have:f=i:=F.ss f i f1 i1 (by omega);subst this;obtain⟨d1,d2⟩:=O5 (lg:=lg) c;rw[d1,d2,e1];obtain⟨y1,y2⟩:=vg sb;have xe:x-af sp f 0*16=k*clsSz (af sp f 1):=by omega
  unfold H0 Ow;rw[y1,y2,xe,Int.mul_ediv_cancel _ (by omega),if_pos hh];exact⟨Int.mul_emod_left _ _,.inl rfl⟩
 ·have t:=hY (F.l j j1);have b:=gJ t.1;have r:=bE.1 t.1;have c:¬ 0<=iQ sp x:=fun c=>by
   obtain⟨f,e1,f1,f2⟩:=Kq (lg:=lg) c;obtain⟨_,g2,g3⟩:=Ay.1 f2;exact F.sl f j f1 j1 (by omega) (by omega)
  have lb:lhB (af lg j 0) (af lg j 1) (af lg j 2) x=true:=MW.2 ⟨F.l j j1,by omega,by omega⟩;have g:0<=wy lg x:=nh j1 (show Af lg x j=true from lb);obtain⟨d1,d2⟩:=O4 c g;obtain⟨b1,q⟩:=iP g;change wy lg x<lg.length at b1;change Af lg x (wy lg x)=true at q;rw[d1,d2];generalize hF:wy lg x=f at*;obtain⟨f,rfl⟩:=Int.eq_ofNat_of_zero_le g;have f1:f<lg.length:=by omega
  have q':lhB (af lg f 0) (af lg f 1) (af lg f 2) x=true:=q;obtain⟨_,u1,u2⟩:=MW.1 q';have t2:=hY (F.l f f1);have b2:=gJ t2.1;have:f=j:=F.ll f j (af lg j 0) f1 j1 (by omega) (by omega) (by omega) (by omega);subst this;refine⟨?_,.inr rfl⟩;show loI (af lg f 0) (af lg f 1) (af lg f 2) x=0;unfold loI;rw[if_pos lb];omega
def KF (sp lg:aa):Nat->List Int
 |0=>[]
 |n+1=>KF sp lg n++(if rJ sp lg n then[(n:Int)]else[])
theorem uE {sp lg:aa}:∀ n:Nat,HY sp lg n=eM (KF sp lg n)
 |0=>rfl
 | n+1=>by
   rw[HY,KF,eg,uE n];by_cases c:rJ sp lg n=true
   ·rw[if_pos c,if_pos c];rfl
   ·rw[if_neg c,if_neg c];rfl
theorem nE {sp lg:aa}{x:Int}:∀ {n:Nat},x∈KF sp lg n↔0<=x/\x<n/\rJ sp lg x=true
 |0=>⟨(fun h=>by cases h),(fun h=>absurd h.2.1 (by omega))⟩
 | n+1=>by
   rw[KF,List.mem_append,nE]
   constructor
   ·rintro(h|h)
    ·exact⟨h.1,by omega,h.2.2⟩
    ·by_cases c:rJ sp lg n=true
     ·rw[if_pos c,List.mem_singleton]at h;subst h;exact⟨by omega,by omega,c⟩
     ·rw[if_neg c]at h;cases h
   ·rintro⟨h1,h2,h3⟩;by_cases q:x=n
    ·subst q;rw[if_pos h3];exact .inr (by simp)
    ·exact .inl ⟨h1,by omega,h3⟩
theorem BR {sp lg:aa}:∀ n:Nat,(KF sp lg n).Pairwise (· < ·)
 |0=>List.Pairwise.nil
 | n+1=>by
   rw[KF,List.pairwise_append];refine⟨BR n,?_,fun a ha b hb=>?_⟩
   ·by_cases c:rJ sp lg n=true
    ·rw[if_pos c];simp
    ·rw[if_neg c];simp
   ·have m:=nE.1 ha;by_cases c:rJ sp lg n=true
    ·rw[if_pos c,List.mem_singleton]at hb;omega
    ·rw[if_neg c]at hb;cases hb
theorem Jc {l:List Int}(h:l.Nodup):(l.mergeSort fun x y=>decide (x<=y)).Pairwise (· < ·):=by
 have p:=List.pairwise_mergeSort (le:=fun x y:Int=>decide (x<=y)) (fun a b c h1 h2=>by simp only[decide_eq_true_eq]at*;omega) (fun a b=>by simp only[Bool.or_eq_true,decide_eq_true_eq];omega) l;have n:(l.mergeSort fun x y=>decide (x<=y)).Nodup:=(List.mergeSort_perm l _).nodup_iff.2 h;refine List.Pairwise.imp₂ (R:=fun a b=>decide (a<=b)=true) (S:=(· ≠ ·)) (T:=(· < ·)) (fun a b h1 h2=>?_) p n;simp only[decide_eq_true_eq]at h1;omega
theorem IY {sp lg:aa}:iaL sp lg=laL sp lg:=by
 unfold iaL laL;by_cases hl:layOk sp lg=true
 ·rw[if_pos hl,if_pos hl];have F:=Ot hl;unfold srtL;rw[Bq,uE];refine congrArg eM (sK (Jc (Mz F)) (BR 512) (fun x=>?_));rw[(List.mergeSort_perm _ _).mem_iff,C5,nE]
  constructor
  ·intro h;have v:=Qk F hl h;refine⟨?_,?_,v⟩
   ·rcases h with⟨i,k,i1,k1,_,e⟩|⟨j,j1,e⟩
    ·have ae:=jO (s:=(k:Int)) (F.s i i1) (by omega) (by omega);have t:=ig (F.s i i1);omega
    ·have t:=hY (F.l j j1);omega
   ·rcases h with⟨i,k,i1,k1,_,e⟩|⟨j,j1,e⟩
    ·have ae:=jO (s:=(k:Int)) (F.s i i1) (by omega) (by omega);have t:=ig (F.s i i1);omega
    ·have t:=hY (F.l j j1);have b:=gJ t.1;omega
  ·rintro⟨_,_,h⟩;exact KG F hl h
 ·rw[if_neg hl,if_neg hl]
end Go.V
namespace Go.V
def wz (qs:aa)(a j:Int):Bool:=eqB (af qs j 0) a
def qtI (qs:aa)(a:Int):Int:=ce (wz qs a) qs.length
def qtB (qs:aa)(a:Int):Bool:=decide (0<=qtI qs a)
theorem NA {qs:aa}{a i:Int}(h:upto (co (wz qs a)) i)(h0:0<=i)(h1:i<qs.length)(e:af qs i 0=a):qtB qs a=true:=by
 unfold qtB qtI;rw[ed h h0 h1 (CB e)];exact decide_eq_true h0
theorem Rv {qs:aa}{a i:Int}(h:upto (co (wz qs a)) i)(h1:(qs.length:Int)<=i):qtB qs a=false:=by
 unfold qtB qtI;rw[dG h h1];rfl
end Go.V
namespace Go.V
structure JQ (ls:aa):Prop where
 w:Rw [.sl [tI]] ls
 l:ls.length<=1099511627776
 n:∀ i:Int,(ax ls i 0).length<=1099511627776
theorem JQ.el {ls:aa}(h:JQ ls){i:Int}(h0:0<=i)(h1:i<ls.length):Rw [tI] (ax ls i 0)/\(ax ls i 0).length<=1099511627776:=
 ⟨Rw.sub (fs:=[.sl [tI]]) h.w (by omega) rfl,h.n i⟩
end Go.V
namespace Go.V
def Df (b:aa)(i k:Int):Bool:=inR (af (ax b i 0) k 0) 0 ((b.length:Int)-1)&&decide (0<=af (ax b i 0) k 1)
def EL (x:aa)(i k:Int):Bool:=decide (0<=af (ax x i 0) k 0)
def NB (b x:aa)(i:Int):Bool:=ca (Df b i) (ax b i 0).length&&ca (EL x i) (ax x i 0).length
def I3 (b x:aa):Nat->Int
 |0=>0
 |n+1=>I3 b x n+((ax b n 0).length+(ax x n 0).length)
def mailOk (b x:aa):Bool:=inR b.length 1 4&&(decide (x.length=b.length)&&(ca (NB b x) b.length&&decide (I3 b x b.length<=30)))
structure rU (b x:aa):Prop where
 bw:Rw [.sl [tI,tI]] b
 xw:Rw [.sl [tI]] x
 bl:b.length<=1099511627776
 xl:x.length<=1099511627776
 bn:∀ i:Int,(ax b i 0).length<=1099511627776
 xn:∀ i:Int,(ax x i 0).length<=1099511627776
theorem KL {b x:aa}(h:rU b x):∀ n:Nat,0<=I3 b x n/\I3 b x n<=2199023255552*n
 |0=>⟨Int.le_refl _,Int.le_refl _⟩
 | n+1=>by
   have q:=KL h n;have p1:=h.bn n;have p2:=h.xn n;rw[I3];omega
structure H7 (b x:aa)(i t:Int):Prop where
 ok:upto (NB b x) i
 t:t=I3 b x i.toNat
theorem UH {b x:aa}:H7 b x 0 0:=⟨bj,rfl⟩
theorem Qt {b x:aa}{i t:Int}(N:rU b x)(h:H7 b x i t)(i0:0<=i)(i1:i<=4):0<=t/\t<=8796093022208:=by
 have q:=KL N i.toNat;have e:=h.t;omega
theorem Qu {b x:aa}{i t k j:Int}(h:H7 b x i t)(i0:0<=i)(hp:upto (Df b i) k)(k1:((ax b i 0).length:Int)<=k)(ha:upto (EL x i) j)(j1:((ax x i 0).length:Int)<=j):H7 b x (i+1) (t+((ax b i 0).length+(ax x i 0).length)):=by
 refine⟨aW h.ok ?_,?_⟩
 ·unfold NB;rw[bp hp k1,bp ha j1];rfl
 ·rw[show(i+1).toNat=i.toNat+1 from by omega,I3, <-h.t,Int.toNat_of_nonneg i0]
theorem M7 {b x:aa}(h:inR b.length 1 4=false):mailOk b x=false:=by unfold mailOk;rw[h];rfl
theorem M8 {b x:aa}(h:(x.length:Int)≠b.length):mailOk b x=false:=by
 unfold mailOk;rw[decide_eq_false (p:=x.length=b.length) (by omega)];simp
theorem KJ {b x:aa}{i:Int}(i0:0<=i)(i1:i<b.length)(h:NB b x i=false):mailOk b x=false:=by
 unfold mailOk;rw[bK i0 i1 h];simp
theorem Gp {b x:aa}{i k:Int}(i0:0<=i)(i1:i<b.length)(k0:0<=k)(k1:k<(ax b i 0).length)(h:Df b i k=false):mailOk b x=false:=
 KJ i0 i1 (by unfold NB;rw[bK k0 k1 h];rfl)
theorem M9 {b x:aa}{i k:Int}(i0:0<=i)(i1:i<b.length)(k0:0<=k)(k1:k<(ax x i 0).length)(h:EL x i k=false):mailOk b x=false:=
 KJ i0 i1 (by unfold NB;rw[bK k0 k1 h,Bool.and_false])
theorem M6 {b x:aa}{i t:Int}(h:H7 b x i t)(h1:inR b.length 1 4=true)(h2:(x.length:Int)=b.length)(i1:i<=b.length)(i2:(b.length:Int)<=i):mailOk b x=decide (t<=30):=by
 have e:i.toNat=b.length:=by omega
 have q:=h.t;rw[e]at q;unfold mailOk;rw[h1,decide_eq_true (p:=x.length=b.length) (by omega),bp h.ok i2, <-q];rfl
theorem Q1 {b:aa}{i k:Int}(h:inR (af (ax b i 0) k 0) 0 ((b.length:Int)-1)=false):Df b i k=false:=by unfold Df;rw[h];rfl
theorem Q2 {b:aa}{i k:Int}(h:af (ax b i 0) k 1<0):Df b i k=false:=by unfold Df;rw[decide_eq_false (by omega),Bool.and_false]
theorem Q3 {b:aa}{i k:Int}(h:inR (af (ax b i 0) k 0) 0 ((b.length:Int)-1)=true)(g:0<=af (ax b i 0) k 1):Df b i k=true:=by unfold Df;rw[h,decide_eq_true g];rfl
theorem TJ {x:aa}{i k:Int}(h:af (ax x i 0) k 0<0):EL x i k=false:=by unfold EL;rw[decide_eq_false (by omega)]
theorem OJ {x:aa}{i k:Int}(h:0<=af (ax x i 0) k 0):EL x i k=true:=by unfold EL;rw[decide_eq_true h]
end Go.V
namespace Go.V
def Kn (b:aa)(i:Int):Nat->aa
 |0=>[]
 |n+1=>Kn b i n++[[.i (af (ax b i 0) n 1)]]
def Fh (b:aa):Nat->aa
 |0=>[]
 |n+1=>Fh b n++Kn b n (ax b n 0).length
def HX (x:aa):Nat->aa
 |0=>[]
 |n+1=>HX x n++ax x n 0
def ifL (b x:aa):aa:=if mailOk b x then Fh b b.length++HX x x.length else[]
theorem Na {b x:aa}(h:mailOk b x=true):b.length<=4/\x.length=b.length:=by
 unfold mailOk at h;simp only[Bool.and_eq_true,decide_eq_true_eq,bE]at h;omega
structure JL (b:aa)(i:Int)(o:aa):Prop where
 e:o=Fh b i.toNat
 l:o.length<=1099511627776*i.toNat
structure JM (b:aa)(i k:Int)(o:aa):Prop where
 e:o=Fh b i.toNat++Kn b i k.toNat
 l:o.length<=1099511627776*i.toNat+k.toNat
structure JN (b x:aa)(j:Int)(o:aa):Prop where
 e:o=Fh b b.length++HX x j.toNat
 l:o.length<=1099511627776*b.length+1099511627776*j.toNat
theorem TX {b:aa}:JL b 0 []:=⟨rfl,Nat.zero_le _⟩
theorem TY {b o:aa}{i:Int}(h:JL b i o):JM b i 0 o:=⟨by rw[h.e];simp[Kn],by have:=h.l;omega⟩
theorem Pg {b o:aa}{i k:Int}(h:JM b i k o)(k0:0<=k):JM b i (k+1) (o++[[.i (af (ax b i 0) k 1)]]):=by
 have l:=h.l;have e:=h.e;refine⟨?_,?_⟩
 ·rw[show(k+1).toNat=k.toNat+1 from by omega,Kn,Int.toNat_of_nonneg k0, <-List.append_assoc, <-e]
 ·rw[List.length_append,List.length_cons,List.length_nil];omega
theorem Mf {b o:aa}{i k:Int}(h:JM b i k o)(i0:0<=i)(hn:(ax b i 0).length<=1099511627776)(k1:k<=((ax b i 0).length:Int))(k2:((ax b i 0).length:Int)<=k):JL b (i+1) o:=by
 have l:=h.l;have e:=h.e;have ek:k.toNat=(ax b i 0).length:=by omega
 refine⟨?_,by omega⟩;rw[show(i+1).toNat=i.toNat+1 from by omega,Fh,Int.toNat_of_nonneg i0, <-ek];exact e
theorem T6 {b x o:aa}{i:Int}(h:JL b i o)(i1:i<=b.length)(i2:(b.length:Int)<=i):JN b x 0 o:=by
 have l:=h.l;have e:=h.e;have ei:i.toNat=b.length:=by omega
 rw[ei]at e l;exact⟨by rw[e];simp[HX],by omega⟩
theorem Pm {b x o:aa}{j:Int}(h:JN b x j o)(j0:0<=j)(hn:(ax x j 0).length<=1099511627776):JN b x (j+1) (o++ax x j 0):=by
 have l:=h.l;have e:=h.e;refine⟨?_,?_⟩
 ·rw[show(j+1).toNat=j.toNat+1 from by omega,HX,Int.toNat_of_nonneg j0, <-List.append_assoc, <-e]
 ·rw[List.length_append];omega
theorem Ml {b x o:aa}{j:Int}(h:JN b x j o)(hm:mailOk b x=true)(j1:j<=x.length)(j2:(x.length:Int)<=j):o=ifL b x:=by
 have e:=h.e;rw[show j.toNat=x.length from by omega]at e;unfold ifL;rw[if_pos hm];exact e
theorem Ur {b x:aa}(hm:mailOk b x=false):([]:aa)=ifL b x:=by unfold ifL;rw[hm];rfl
end Go.V
namespace Go.V
structure VA (cs:aa):Prop where
 w:Rw [.sl [.sl [tI]]] cs
 l:cs.length<=1099511627776
 n:∀ i:Int,0<=i->i<cs.length->JQ (ax cs i 0)
end Go.V
namespace Go.V
theorem wN :∀ {fs:List Ty} {e:ay} {j:Nat},bM fs e->fs[j]?=some tI->∃ n,e[j]?=some (.i n)/\ -9223372036854775808<=n/\n<=9223372036854775807
 |[],_,j,_,h=>by simp at h
 |_::_,[],j,h,_=>h.elim
 | t::ts,l::ls,0,h,e=>by
   simp at e;subst e;have h1:=h.1;cases l with
   | v x=>cases x with
     |int k n=>simp only[cn]at h1;exact⟨n,by simp[h1.1],gI h1.2⟩
     |_=>simp[cn]at h1
   |_=>simp[cn]at h1
 | t::ts,l::ls,j+1,h,e=>by
   simp at e;obtain⟨n,h1,h2⟩:=wN h.2 e;exact⟨n,by simpa using h1,h2⟩
theorem pT {fs:List Ty}{es:aa}{i:Int}{j:Nat}(h:Rw fs es)(hj:fs[j]?=some tI)(h1:i.toNat<es.length): -9223372036854775808<=af es i j/\af es i j<=9223372036854775807:=by
 obtain⟨n,e,b⟩:=wN (h.at h1) hj;unfold af;rw[List.getD_eq_getElem?_getD (l:=es.getD i.toNat []),e];exact b
theorem RD {x:Int}(h: -9223372036854775808<=x/\x<=9223372036854775807):Rw [tI] [[.i x]]:=Rw.one (fs:=[tI]) ⟨⟨rfl,h⟩,trivial⟩
def Ou (os:aa)(f:Nat):Nat->aa
 |0=>[]
 |n+1=>Ou os f n++[[.i (af os n f)]]
def TN (ls:aa):Nat->aa
 |0=>[]
 |n+1=>TN ls n++ax ls n 0
def Tv (cs:aa):Nat->aa
 |0=>[]
 |n+1=>Tv cs n++TN (ax cs n 0) (ax cs n 0).length
theorem ux {es:aa}{n j:Nat}(h:n<es.length):ag (ax es n j)<=cz (es.getD n []):=by
 unfold ax;rw[Int.toNat_natCast];generalize es.getD n []=r;cases e:r[j]? with
 |none=>rw[List.getD_eq_getElem?_getD,e];exact Nat.zero_le _
 | some l=>
   rw[List.getD_eq_getElem?_getD,e];have q:=Cv e;cases l with
   |s sz es=>exact q
   |_=>exact Nat.zero_le _
theorem iL {es:aa}{n:Nat}(h:n<es.length):bz (es.take (n+1))=bz (es.take n)+cz (es.getD n []):=by
 rw[di (d:=[]) h,dp];simp[bz]
theorem zK {es:aa}{n:Nat}:bz (es.take n)<=bz es:=by
 conv=>rhs;rw[<-List.take_append_drop n es,dp]
 omega
theorem ni {b:aa}{i:Int}:∀ n,(Kn b i n).length=n
 |0=>rfl
 |n+1=>by rw[Kn,List.length_append,ni n];rfl
theorem GD {b x:aa}:∀ n:Nat,(((Fh b n).length+(HX x n).length:Nat):Int)=I3 b x n
 |0=>rfl
 | n+1=>by
   have q:=GD (b:=b) (x:=x) n;rw[I3,Fh,HX,List.length_append,List.length_append,ni, <-q];omega
theorem Bp {b x:aa}:(ifL b x).length<=30:=by
 unfold ifL;by_cases c:mailOk b x=true
 ·rw[if_pos c,List.length_append];have t:=Na c;unfold mailOk at c;simp only[Bool.and_eq_true,decide_eq_true_eq]at c;have q:=GD (b:=b) (x:=x) b.length;rw[t.2];omega
 ·rw[if_neg c];exact Nat.zero_le _
theorem Fl {b x:aa}{i:Int}(h:rU b x)(i0:0<=i)(i1:i<b.length):∀ n,n<=(ax b i 0).length->Rw [tI] (Kn b i n)
 |0,_=>Rw.nil
 | n+1,hn=>Rw.append (Fl h i0 i1 n (by omega)) (RD (pT (fs:=[tI,tI]) (Rw.sub (fs:=[.sl [tI,tI]]) h.bw (by omega) rfl) rfl (by omega))) (by
    have:=h.bn i;rw[ni];unfold maxLen;simp only[List.length_cons,List.length_nil];omega)
theorem Fi {b x:aa}(h:rU b x)(hb:b.length<=4):∀ n,n<=b.length->Rw [tI] (Fh b n)/\(Fh b n).length<=n*1099511627776
 |0,_=>⟨Rw.nil,Nat.zero_le _⟩
 | n+1,hn=>by
   obtain⟨q1,q2⟩:=Fi h hb n (by omega);have l:=h.bn n;refine⟨Rw.append q1 (Fl h (by omega) (by omega) _ (Nat.le_refl _)) (by rw[ni];unfold maxLen;omega),?_⟩;rw[Fh,List.length_append,ni];omega
theorem Fs {b x:aa}(h:rU b x)(hb:x.length<=4):∀ n,n<=x.length->Rw [tI] (HX x n)/\(HX x n).length<=n*1099511627776
 |0,_=>⟨Rw.nil,Nat.zero_le _⟩
 | n+1,hn=>by
   obtain⟨q1,q2⟩:=Fs h hb n (by omega);have l:=h.xn n;refine⟨Rw.append q1 (Rw.sub (fs:=[.sl [tI]]) h.xw (by omega) rfl) (by unfold maxLen;omega),?_⟩;rw[HX,List.length_append];omega
theorem FJ {b x:aa}(h:rU b x):Rw [tI] (ifL b x):=by
 unfold ifL;by_cases c:mailOk b x=true
 ·rw[if_pos c];have t:=Na c;obtain⟨q1,l1⟩:=Fi h t.1 b.length (Nat.le_refl _);obtain⟨q2,l2⟩:=Fs h (by omega) x.length (Nat.le_refl _);exact Rw.append q1 q2 (by unfold maxLen;omega)
 ·rw[if_neg c];exact Rw.nil
structure zq (sp lg os cs b x qs:aa):Prop where
 sw:Rw [tI,tI,tI] sp
 lw:Rw [tI,tI,tI] lg
 ow:Rw [tI,tI,tI,tI] os
 cw:Rw [.sl [.sl [tI]]] cs
 qw:Rw [tI,tI,tI] qs
 m:rU b x
 c:VA cs
 sl:sp.length<=1073741824
 ll:lg.length<=1073741824
 ol:os.length<=1073741824
 ql:qs.length<=1073741824
 cl:ag cs<=1073741824
structure W8 (os:aa)(i:Int)(o:aa):Prop where
 e:o=Ou os 1 i.toNat
structure W9 (os cs:aa)(i:Int)(o:aa):Prop where
 e:o=Ou os 1 os.length++Tv cs i.toNat
structure Xa (os cs:aa)(i k:Int)(o:aa):Prop where
 e:o=Ou os 1 os.length++Tv cs i.toNat++TN (ax cs i 0) k.toNat
structure Xb (os cs qs:aa)(j:Int)(o:aa):Prop where
 e:o=Ou os 1 os.length++Tv cs cs.length++Ou qs 0 j.toNat
section
variable {sp lg os cs b x qs o : aa} {i k j : Int}
end
def IJ (e:ay):Int:=MU (e.getD 0 .g)
theorem xi {l:aa}{a:Int}:hasB l a=true↔a∈l.map IJ:=by
 rw[CF,List.mem_map]
 constructor
 ·rintro⟨k,hk,e⟩;refine⟨l[k],List.getElem_mem _,?_⟩;rw[<-e];unfold af IJ;rw[Int.toNat_natCast,List.getD_eq_getElem?_getD (l:=l),List.getElem?_eq_getElem hk];rfl
 ·rintro⟨e,he,q⟩;obtain⟨k,hk,rfl⟩:=List.mem_iff_getElem.1 he;refine⟨k,hk,?_⟩;rw[<-q];unfold af IJ;rw[Int.toNat_natCast,List.getD_eq_getElem?_getD (l:=l),List.getElem?_eq_getElem hk];rfl
theorem IH {l m:aa}{a:Int}:hasB (l++m) a=(hasB l a||hasB m a):=by
 refine eh ?_;rw[Bool.or_eq_true,xi,xi,xi,List.map_append,List.mem_append]
theorem II {x a:Int}:hasB [[.i x]] a=true↔x=a:=by
 rw[xi];show a∈[x]↔x=a;rw[List.mem_singleton];exact⟨Eq.symm,Eq.symm⟩
theorem wX {p:Int->Bool}{n:Nat}:0<=ce p n↔∃ k:Nat,k<n/\p k=true:=by
 constructor
 ·intro h;obtain⟨h1,h2⟩:=iP h;obtain⟨k,e⟩:=Int.eq_ofNat_of_zero_le h;rw[e]at h1 h2;exact⟨k,by omega,h2⟩
 ·rintro⟨k,h1,h2⟩;exact nh h1 h2
def VK (p:Int->Bool)(l:aa):Nat->aa
 |0=>[]
 |n+1=>VK p l n++(if p (af l n 0)then[[.i (af l n 0)]]else[])
structure Wa (p:Int->Bool)(l:aa)(i:Int)(o:aa):Prop where
 e:o=VK p l i.toNat
 l:o.length<=i.toNat
section
variable {p : Int -> Bool} {l o : aa} {i : Int}
end
theorem FU {sp lg:aa}:(laL sp lg).length<=512:=by
 have k:∀ n,(HY sp lg n).length<=n:=by
  intro n
  induction n with
  |zero=>exact Nat.le_refl _
  |succ n ih=>rw[HY,List.length_append];split<;>simp<;>omega
 unfold laL;split
 ·exact k 512
 ·exact Nat.zero_le _
theorem P8 {sp lg:aa}:Rw [tI] (laL sp lg):=by
 unfold laL;by_cases c:layOk sp lg=true
 ·rw[if_pos c,uE];refine pm (fun x hx=>?_) ?_
  ·have:=nE.1 hx;omega
  ·have q:=FU (sp:=sp) (lg:=lg);unfold laL at q;rw[if_pos c,uE,bV]at q;omega
 ·rw[if_neg c];exact Rw.nil
theorem xx {l:aa}{i:Int}(h:Rw [tI] l)(h0:0<=i)(h1:i<l.length):∃ rec o,bL (L.s 1 l) [(i.toNat,0)]=some (rec,o)/\o+[L.v (Value.int IntKind.i64 0)].length<=rec.length/\List.take [L.v (Value.int IntKind.i64 0)].length (List.drop o rec)=hK ai (L.s 1 l) [(i.toNat,0)] 0 [L.v (Value.int IntKind.i64 0)]:=
 ku (z0:=[.i 0]) (z:=[.i 0]) h.wf (by omega) rfl (by decide)
theorem hN {es:aa}{i:Int}{j:Nat}:ag (ax es i j)<=ag es:=by
 by_cases c:i.toNat<es.length
 ·have q:=ux (j:=j) c;rw[show ax es (i.toNat:Nat) j=ax es i j from by unfold ax;rw[Int.toNat_natCast]]at q;have d:=iL c;have e:=zK (es:=es) (n:=i.toNat+1);unfold ag at q ⊢;omega
 ·have e:ax es i j=[]:=by
   unfold ax;rw[List.getD_eq_getElem?_getD (l:=es),List.getElem?_eq_none (by omega)];simp[F1]
  rw[e];exact Nat.zero_le _
theorem Nm {ls:aa}(h:Rw [.sl [tI]] ls)(hc:ag ls<=1073741824):JQ ls:=by
 refine⟨h,by unfold ag at hc;omega,fun i=>?_⟩;have:=hN (es:=ls) (i:=i) (j:=0);unfold ag at this hc;omega
theorem Nl {cs:aa}(h:Rw [.sl [.sl [tI]]] cs)(hc:ag cs<=1073741824):VA cs:=by
 refine⟨h,by unfold ag at hc;omega,fun i i0 i1=>Nm (Rw.sub (fs:=[.sl [.sl [tI]]]) h (by omega) rfl) ?_⟩;exact Nat.le_trans hN hc
theorem BH {b x:aa}(hb:Rw [.sl [tI,tI]] b)(hx:Rw [.sl [tI]] x)(cb:ag b<=1073741824)(cx:ag x<=1073741824):rU b x:=by
 refine⟨hb,hx,by unfold ag at cb;omega,by unfold ag at cx;omega,fun i=>?_,fun i=>?_⟩
 ·have:=hN (es:=b) (i:=i) (j:=0);unfold ag at this cb;omega
 ·have:=hN (es:=x) (i:=i) (j:=0);unfold ag at this cx;omega
end Go.V
namespace Go.V
theorem wD {i:Int}(h:0<=i)(h1:i<=9223372036854775807):bH .sub .i64 i 1=i-1:=cB (by omega)
theorem pw {es:aa}{i:Int}:lU es (Int.toNat 0) (wR i 0)=es.take i.toNat:=by simp[lU,wR]
theorem cmp_eq {a b:Int}:cr .eql a b=decide (a=b):=by unfold cr;by_cases c:a=b<;>simp[c]
theorem x9 {a b:Int}:cr .neq a b=decide (a≠b):=by unfold cr;by_cases c:a=b<;>simp[c]
def rngIn (n a l:Int):Bool:=inR l 1 n&&inR a 0 (n-l)
def rL (n:Int)(rs:aa)(i:Int):Bool:=rngIn n (af rs i 0) (af rs i 1)&& !(decide (0<i)&&decide (af rs i 0<=bH .add .i64 (af rs (i-1) 0) (af rs (i-1) 1)))
def rgOk (n:Int)(rs:aa):Bool:=ca (rL n rs) rs.length&&inR n 1 32
section
variable {n i : Int} {rs : aa}
theorem ND (i0:0<=i)(i1:i<rs.length)(h:rngIn n (af rs i 0) (af rs i 1)=false):rgOk n rs=false:=by
 unfold rgOk;rw[bK i0 i1 (by unfold rL;rw[h];rfl)];rfl
theorem NE (i0:0<=i)(i1:i<rs.length)(h:0<i)(g:af rs i 0<=bH .add .i64 (af rs (i-1) 0) (af rs (i-1) 1)):rgOk n rs=false:=by
 unfold rgOk;rw[bK i0 i1 (by unfold rL;rw[decide_eq_true h,decide_eq_true g];simp)];rfl
theorem Ji (h:rngIn n (af rs i 0) (af rs i 1)=true)(g:i<=0):rL n rs i=true:=by
 unfold rL;rw[h,decide_eq_false (by omega)];rfl
theorem Jj (h:rngIn n (af rs i 0) (af rs i 1)=true)(g:bH .add .i64 (af rs (i-1) 0) (af rs (i-1) 1)<af rs i 0):rL n rs i=true:=by
 unfold rL;rw[h,decide_eq_false (p:=af rs i 0<=_) (by omega)];simp
theorem NC (h:upto (rL n rs) i)(g:(rs.length:Int)<=i):inR n 1 32=rgOk n rs:=by unfold rgOk;rw[bp h g];rfl
end
def nu (rs:aa)(p j:Int):Bool:=decide (af rs j 0<=p)&&decide (p<bH .add .i64 (af rs j 0) (af rs j 1))
def rhI (rs:aa)(p:Int):Int:=ce (nu rs p) rs.length
def rhB (rs:aa)(p:Int):Bool:=decide (0<=rhI rs p)
def rh1 (a l p:Int):Bool:=decide (a<=p)&&decide (p<bH .add .i64 a l)
theorem NF {rs:aa}{p i:Int}(h:upto (co (nu rs p)) i)(h0:0<=i)(h1:i<rs.length)(a:af rs i 0<=p)(b:p<bH .add .i64 (af rs i 0) (af rs i 1)):rhB rs p=true:=by
 unfold rhB rhI;rw[ed h h0 h1 (by unfold nu;rw[decide_eq_true a,decide_eq_true b];rfl)];exact decide_eq_true h0
theorem RA {rs:aa}{p i:Int}(h:upto (co (nu rs p)) i)(h1:(rs.length:Int)<=i):rhB rs p=false:=by
 unfold rhB rhI;rw[dG h h1];rfl
theorem Ry {rs:aa}{p i:Int}(a:p<af rs i 0):co (nu rs p) i=true:=by unfold co nu;rw[decide_eq_false (by omega)];rfl
theorem Rz {rs:aa}{p i:Int}(b:bH .add .i64 (af rs i 0) (af rs i 1)<=p):co (nu rs p) i=true:=by unfold co nu;rw[decide_eq_false (p:=p<_) (by omega)];simp
def mshB (p1 k1 b1 p2 k2 b2:Int):Bool:=spOk p1 k1 b1&&(spOk p2 k2 b2&&(decide (k1=k2)&&(decide (p1≠p2)&&decide (bH .and .i64 b1 b2=0))))
def Ny (qs:aa):Nat->Int
 |0=>0
 |n+1=>Ny qs n+clsSz (af qs n 1)
def qcI (qs:aa):Int:=Ny qs qs.length
theorem Ct {k:Int}:0<=clsSz k/\clsSz k<=8:=by
 unfold clsSz;repeat' split
 all_goals omega
theorem K9 {qs:aa}:∀ n:Nat,0<=Ny qs n/\Ny qs n<=8*n
 |0=>⟨Int.le_refl _,Int.le_refl _⟩
 |n+1=>by have q:=K9 (qs:=qs) n;have c:=Ct (k:=af qs n 1);rw[Ny];omega
structure H8 (qs:aa)(i t:Int):Prop where
 e:t=Ny qs i.toNat
theorem UT {qs:aa}:H8 qs 0 0:=⟨rfl⟩
theorem UU {qs:aa}{i t:Int}(h:H8 qs i t)(i0:0<=i):0<=t/\t<=8*i:=by have q:=K9 (qs:=qs) i.toNat;rw[<-h.e]at q;omega
theorem Ro {qs:aa}{i t:Int}(h:H8 qs i t)(i0:0<=i)(i1:i<=1099511627776):H8 qs (i+1) (bH .add .i64 t (clsSz (af qs i 1))):=by
 have b:=UU h i0;have c:=Ct (k:=af qs i 1);refine⟨?_⟩;rw[show bH .add .i64 t (clsSz (af qs i 1))=t+clsSz (af qs i 1)from bA (by omega),show(i+1).toNat=i.toNat+1 from by omega,Ny, <-h.e,Int.toNat_of_nonneg i0]
theorem Nz {qs:aa}{i t:Int}(h:H8 qs i t)(i1:i<=qs.length)(i2:(qs.length:Int)<=i):t=qcI qs:=by unfold qcI;rw[h.e,show i.toNat=qs.length from by omega]
def stlOk (b:aa)(a c s:Int):Bool:=inR c 0 3&&(decide (0<=a)&&(decide (0<=s)&&(!qtB b a&&(decide (b.length=0)||decide (af b (b.length-1:Int) 2<=s)))))
def Aq (qs:aa)(i:Int):Bool:=stlOk (qs.take i.toNat) (af qs i 0) (af qs i 1) (af qs i 2)
def quarOk (rm:Int)(qs:aa):Bool:=ca (Aq qs) qs.length&&(inR rm 0 500&&decide (qcI qs<=rm))
def staB (a c s:Int):Bool:=inR c 0 3&&(decide (0<=a)&&decide (0<=s))
theorem sf {es:aa}{n:Nat}{i:Int}{j:Nat}(h:i.toNat<n):af (es.take n) i j=af es i j:=by
 unfold af;rw[List.getD_eq_getElem?_getD (l:=es.take n),List.getElem?_take,if_pos h,List.getD_eq_getElem?_getD (l:=es)]
section
variable {rm i : Int} {qs : aa}
theorem Dn (i0:0<=i)(i1:i<qs.length)(h:Aq qs i=false):quarOk rm qs=false:=by unfold quarOk;rw[bK i0 i1 h];rfl
theorem Ha (h:upto (Aq qs) i)(g:(qs.length:Int)<=i):quarOk rm qs=(inR rm 0 500&&decide (qcI qs<=rm)):=by unfold quarOk;rw[bp h g];rfl
theorem Rj (h:staB (af qs i 0) (af qs i 1) (af qs i 2)=false):Aq qs i=false:=by
 unfold Aq stlOk;unfold staB at h
 revert h
 cases inR (af qs i 1) 0 3<;>cases decide (0<=af qs i 0)<;>cases decide (0<=af qs i 2)<;>simp
theorem Dm (i0:0<i)(i1:i<qs.length):(decide ((qs.take i.toNat).length=0)||decide (af (qs.take i.toNat) ((qs.take i.toNat).length-1:Int) 2<=af qs i 2))=decide (af qs (i-1) 2<=af qs i 2):=by
 have e:(qs.take i.toNat).length=i.toNat:=by rw[List.length_take];omega
 rw[e,sf (by omega),decide_eq_false (p:=i.toNat=0) (by omega),show((i.toNat:Nat):Int)-1=i-1 from by omega];rfl
theorem Rk (i0:0<i)(i1:i<qs.length)(h:af qs i 2<af qs (i-1) 2):Aq qs i=false:=by
 unfold Aq stlOk;rw[Dm i0 i1,decide_eq_false (p:=af qs (i-1) 2<=af qs i 2) (by omega)];simp
theorem Rl (h:qtB (qs.take i.toNat) (af qs i 0)=true):Aq qs i=false:=by unfold Aq stlOk;rw[h];simp
theorem Rm (h:staB (af qs i 0) (af qs i 1) (af qs i 2)=true)(g:qtB (qs.take i.toNat) (af qs i 0)=false)(i0:0<=i)(z:i<=0):Aq qs i=true:=by
 unfold Aq stlOk;unfold staB at h;simp only[Bool.and_eq_true]at h;have e:i=0:=by omega
 subst e;rw[h.1,h.2.1,h.2.2,g];rfl
theorem Rn (h:staB (af qs i 0) (af qs i 1) (af qs i 2)=true)(g:qtB (qs.take i.toNat) (af qs i 0)=false)(i0:0<i)(i1:i<qs.length)(z:af qs (i-1) 2<=af qs i 2):Aq qs i=true:=by
 unfold Aq stlOk;unfold staB at h;simp only[Bool.and_eq_true]at h;rw[Dm i0 i1,h.1,h.2.1,h.2.2,g,decide_eq_true z];rfl
end
def rV (ls:aa)(i:Int):Nat->List Int
 |0=>[]
 |n+1=>rV ls i n++[af (ax ls i 0) n 0]
def rX (ls:aa):Nat->List Int
 |0=>[]
 |n+1=>rX ls n++rV ls n (ax ls n 0).length
def J0 (ls:aa)(i k:Int):Bool:=inR (af (ax ls i 0) k 0) 0 511&&decide (bH .rem .i64 (af (ax ls i 0) k 0) (clsSz i)=0)
def LY (ls:aa)(i:Int):Bool:=decide ((ax ls i 0).length<=8)&&ca (J0 ls i) (ax ls i 0).length
def caOk (ls:aa):Bool:=decide (ls.length=4)&&(ca (LY ls) 4&&decide ((rX ls 4).Nodup))
theorem rW {ls:aa}{i:Int}:∀ n,(rV ls i n).length=n
 |0=>rfl
 |n+1=>by rw[rV,List.length_append,rW n];rfl
theorem Cq {ls:aa}{i:Int}:∀ (m n:Nat),n<=m->∃ r,rV ls i m=rV ls i n++r
 |0,n,h=>⟨[],by rw[show n=0 from by omega];rfl⟩
 | m+1,n,h=>by
   by_cases c:n=m+1
   ·subst c;exact⟨[],by simp⟩
   ·obtain⟨r,e⟩:=Cq (ls:=ls) (i:=i) m n (by omega);exact⟨r++[af (ax ls i 0) m 0],by rw[rV,e,List.append_assoc]⟩
theorem Cr {ls:aa}:∀ (m n:Nat),n<=m->∃ r,rX ls m=rX ls n++r
 |0,n,h=>⟨[],by rw[show n=0 from by omega];rfl⟩
 | m+1,n,h=>by
   by_cases c:n=m+1
   ·subst c;exact⟨[],by simp⟩
   ·obtain⟨r,e⟩:=Cr (ls:=ls) m n (by omega);exact⟨r++rV ls m (ax ls m 0).length,by rw[rX,e,List.append_assoc]⟩
theorem tX {ls:aa}{i k:Int}(h:0<=k):rV ls i (k+1).toNat=rV ls i k.toNat++[af (ax ls i 0) k 0]:=by
 rw[show(k+1).toNat=k.toNat+1 from by omega,rV,Int.toNat_of_nonneg h]
theorem tY {ls:aa}{i:Int}(h:0<=i):rX ls (i+1).toNat=rX ls i.toNat++rV ls i (ax ls i 0).length:=by
 rw[show(i+1).toNat=i.toNat+1 from by omega,rX,Int.toNat_of_nonneg h]
structure Ly (ls:aa)(i:Int):Prop where
 ok:upto (LY ls) i
 nd:(rX ls i.toNat).Nodup
 l:i<=4
 b:∀ x∈rX ls i.toNat,0<=x/\x<=511
 n:(rX ls i.toNat).length<=8*i.toNat
structure N8 (ls:aa)(i k:Int):Prop where
 ok:upto (LY ls) i
 nd:(rX ls i.toNat++rV ls i k.toNat).Nodup
 l:i<=3
 s:(ax ls i 0).length<=8
 bk:upto (J0 ls i) k
 b:∀ x∈rX ls i.toNat++rV ls i k.toNat,0<=x/\x<=511
 n:(rX ls i.toNat).length<=8*i.toNat
section
variable {ls : aa} {i k : Int}
theorem OL :Ly ls 0:=⟨bj,List.nodup_nil,by omega,(fun x hx=>by cases hx),Nat.zero_le _⟩
theorem ON (h:Ly ls i)(i0:0<=i)(c:inR i 0 3=true)(s:(ax ls i 0).length<=8):N8 ls i 0:=
 ⟨h.ok,by simpa[rV]using h.nd,(bE.1 c).2,s,bj,by simpa[rV]using h.b,h.n⟩
theorem J5 (h:N8 ls i k)(k0:0<=k)(h1:inR (af (ax ls i 0) k 0) 0 511=true)(h2:bH .rem .i64 (af (ax ls i 0) k 0) (clsSz i)=0)(h3:af (ax ls i 0) k 0∉rX ls i.toNat++rV ls i k.toNat):N8 ls i (k+1):=by
 refine⟨h.ok,?_,h.l,h.s,aW h.bk (by unfold J0;rw[h1,decide_eq_true h2];rfl),?_,h.n⟩
 ·rw[tX k0, <-List.append_assoc];exact gQ h.nd h3
 ·rw[tX k0, <-List.append_assoc];intro x hx;rcases List.mem_append.1 hx with q|q
  ·exact h.b x q
  ·simp at q;subst q;exact bE.1 h1
theorem J2 (h:N8 ls i k)(i0:0<=i)(k1:k<=((ax ls i 0).length:Int))(k2:((ax ls i 0).length:Int)<=k):Ly ls (i+1):=by
 have e:k.toNat=(ax ls i 0).length:=by omega
 have nd:=h.nd;have b:=h.b;have n:=h.n;have s:=h.s;have l:=h.l;rw[e, <-tY i0]at nd b;refine⟨aW h.ok (by unfold LY;rw[decide_eq_true h.s,bp h.bk k2];rfl),nd,by omega,b,?_⟩;rw[tY i0,List.length_append,rW];omega
theorem x6 (h:(ls.length:Int)≠4):caOk ls=false:=by unfold caOk;rw[decide_eq_false (by omega)];rfl
theorem J1 (i0:0<=i)(l:i<=3)(h:LY ls i=false):caOk ls=false:=by unfold caOk;rw[bK (n:=4) i0 (by omega) h];simp
theorem E3 (i0:0<=i)(h:8<(ax ls i 0).length)(l:i<=3):caOk ls=false:=J1 i0 l (by unfold LY;rw[decide_eq_false (by omega)];rfl)
theorem x7 (i0:0<=i)(l:i<=3)(k0:0<=k)(k1:k<(ax ls i 0).length)(h:J0 ls i k=false):caOk ls=false:=J1 i0 l (by unfold LY;rw[bK k0 k1 h,Bool.and_false])
theorem J3 (h:inR (af (ax ls i 0) k 0) 0 511=false):J0 ls i k=false:=by unfold J0;rw[h];rfl
theorem J4 (h:bH .rem .i64 (af (ax ls i 0) k 0) (clsSz i)≠0):J0 ls i k=false:=by unfold J0;rw[decide_eq_false h,Bool.and_false]
theorem E2 (i0:0<=i)(l:i<=3)(k0:0<=k)(k1:k<(ax ls i 0).length)(h:af (ax ls i 0) k 0∈rX ls i.toNat++rV ls i k.toNat):caOk ls=false:=by
 obtain⟨r,e⟩:=Cr (ls:=ls) 4 (i+1).toNat (by omega);obtain⟨r2,e2⟩:=Cq (ls:=ls) (i:=i) (ax ls i 0).length (k+1).toNat (by omega);rw[tY i0,e2,tX k0]at e;have:¬ (rX ls 4).Nodup:=dup (a:=rX ls i.toNat++rV ls i k.toNat) (b:=r2++r) (x:=af (ax ls i 0) k 0) (by rw[e];simp only[List.append_assoc];rfl) h;unfold caOk;rw[decide_eq_false this];simp
theorem E4 (h:Ly ls i)(h1:(ls.length:Int)=4)(i2:4<=i):caOk ls=true:=by
 have l:=h.l;have e:i=4:=by omega
 subst e;unfold caOk;rw[decide_eq_true (by omega),bp h.ok (by omega),decide_eq_true (p:=(rX ls 4).Nodup) h.nd];rfl
theorem LZ (h:Ly ls i)(i1:i<=ls.length)(i2:(ls.length:Int)<=i):decide ((ls.length:Int)=4)=caOk ls:=by
 by_cases c:(ls.length:Int)=4
 ·rw[E4 h c (by omega)];exact decide_eq_true c
 ·rw[x6 c];exact decide_eq_false c
end
structure OI (ls:aa)(i:Int)(o:aa):Prop where
 p:Ly ls i
 e:o=eM (rX ls i.toNat)
structure JS (ls:aa)(i k:Int)(o:aa):Prop where
 p:N8 ls i k
 e:o=eM (rX ls i.toNat++rV ls i k.toNat)
structure A5 (ls:aa)(i:Int)(es:aa):Prop where
 p:Ly ls i
 s:kW es (rX ls i.toNat)
structure A6 (ls:aa)(i k:Int)(es:aa):Prop where
 p:N8 ls i k
 s:kW es (rX ls i.toNat++rV ls i k.toNat)
section
variable {ls o es : aa} {i k : Int}
theorem Vj :OI ls 0 []:=⟨OL,rfl⟩
theorem Vk (h:OI ls i o)(i0:0<=i)(i1:i<4)(s:(ax ls i 0).length<=8):JS ls i 0 o:=⟨ON h.p i0 (bE.2 (by omega)) s,by rw[h.e];simp[rV]⟩
theorem RS (h:JS ls i k o)(k0:0<=k)(h1:inR (af (ax ls i 0) k 0) 0 511=true)(h2:bH .rem .i64 (af (ax ls i 0) k 0) (clsSz i)=0)(h3:hasB o (af (ax ls i 0) k 0)=false):JS ls i (k+1) (o++[[.i (af (ax ls i 0) k 0)]]):=by
 have e:=h.e;rw[e]at h3;refine⟨J5 h.p k0 h1 h2 (sg h3),?_⟩;rw[tX k0, <-List.append_assoc,eg, <-e];rfl
theorem RR (h:JS ls i k o)(i0:0<=i)(k1:k<=((ax ls i 0).length:Int))(k2:((ax ls i 0).length:Int)<=k):OI ls (i+1) o:=
 ⟨J2 h.p i0 k1 k2,by rw[tY i0,h.e,show k.toNat=(ax ls i 0).length from by omega]⟩
theorem NI (h:JS ls i k o)(i0:0<=i)(k0:0<=k)(k1:k<(ax ls i 0).length)(h3:hasB o (af (ax ls i 0) k 0)=true):caOk ls=false:=by
 rw[h.e,kC]at h3;exact E2 i0 h.p.l k0 k1 h3
theorem NJ (h:JS ls i k o)(k0:0<=k):o.length<=40+k.toNat/\Rw [tI] o:=by
 have n:=h.p.n;have l:=h.p.l;have s:=h.p.s;have q:o.length<=40+k.toNat:=by rw[h.e,bV,List.length_append,rW];omega
 refine⟨q,?_⟩;rw[h.e];have nd:=h.p.nd;refine pm (fun x hx=>by have:=h.p.b x hx;omega) ?_;rw[<-bV, <-h.e];have bd:k.toNat<=512\/512<k.toNat:=by omega
 rcases bd with bd|bd
 ·omega
 ·exfalso;have c:=List.Nodup.length_le_of_subset (l₁:=rX ls i.toNat++rV ls i k.toNat) (l₂:=(List.range 512).map fun j:Nat=>(j:Int)) nd (fun x hx=>by
   have b:=h.p.b x hx;rw[List.mem_map];exact⟨x.toNat,List.mem_range.2 (by omega),by omega⟩)
  rw[List.length_append,rW,List.length_map,List.length_range]at c;omega
theorem P0 :A5 ls 0 []:=⟨OL,BW⟩
theorem P1 (h:A5 ls i es)(i0:0<=i)(c:inR i 0 3=true)(s:(ax ls i 0).length<=8):A6 ls i 0 es:=⟨ON h.p i0 c s,by simpa[rV]using h.s⟩
theorem MF (h:A6 ls i k es)(k0:0<=k)(h1:inR (af (ax ls i 0) k 0) 0 511=true)(h2:bH .rem .i64 (af (ax ls i 0) k 0) (clsSz i)=0)(h3:mgbI es (af (ax ls i 0) k 0)=false):A6 ls i (k+1) (iH es (af (ax ls i 0) k 0) (.v (.bool true))):=by
 refine⟨J5 h.p k0 h1 h2 (fun m=>by rw[(h.s.at_ _).2 m]at h3;cases h3),?_⟩;rw[tX k0, <-List.append_assoc];exact sx h.s
theorem ME (h:A6 ls i k es)(i0:0<=i)(k1:k<=((ax ls i 0).length:Int))(k2:((ax ls i 0).length:Int)<=k):A5 ls (i+1) es:=
 ⟨J2 h.p i0 k1 k2,by have s:=h.s;rw[show k.toNat=(ax ls i 0).length from by omega]at s;rw[tY i0];exact s⟩
theorem IP (h:A6 ls i k es)(i0:0<=i)(k0:0<=k)(k1:k<(ax ls i 0).length)(h3:mgbI es (af (ax ls i 0) k 0)=true):caOk ls=false:=E2 i0 h.p.l k0 k1 ((h.s.at_ _).1 h3)
theorem IL (h:A5 ls i es)(i0:0<=i)(s:8<(ax ls i 0).length)(i1:i<ls.length):caOk ls=false:=by
 by_cases c:(ls.length:Int)=4
 ·exact E3 i0 s (by omega)
 ·exact x6 c
theorem IM (h:A5 ls i es)(i0:0<=i)(c:inR i 0 3=false)(i1:i<ls.length):caOk ls=false:=by
 have:=uA.1 c;exact x6 (by omega)
end
def EF (cs:aa)(i:Int):Bool:=inR (af cs i 0) 0 15&& !(decide (0<i)&&decide (af cs i 0<=af cs (i-1) 0))
def plOk (k m:Int)(cs:aa):Bool:=ca (EF cs) cs.length&&(inR k 0 31&&(inR m 0 31&&decide (k≠m)))
def jbOk (k m:Int)(cs:aa)(ph nx:Int):Bool:=plOk k m cs&&(inR ph 0 5&&inR nx 0 cs.length)
section
variable {k m i : Int} {cs : aa}
theorem G6 (i0:0<=i)(i1:i<cs.length)(h:inR (af cs i 0) 0 15=false):plOk k m cs=false:=by
 unfold plOk;rw[bK i0 i1 (by unfold EF;rw[h];rfl)];rfl
theorem G7 (i0:0<=i)(i1:i<cs.length)(h:0<i)(g:af cs i 0<=af cs (i-1) 0):plOk k m cs=false:=by
 unfold plOk;rw[bK i0 i1 (by unfold EF;rw[decide_eq_true h,decide_eq_true g];simp)];rfl
theorem Di (h:inR (af cs i 0) 0 15=true)(g:i<=0):EF cs i=true:=by unfold EF;rw[h,decide_eq_false (by omega)];rfl
theorem Dj (h:inR (af cs i 0) 0 15=true)(g:af cs (i-1) 0<af cs i 0):EF cs i=true:=by
 unfold EF;rw[h,decide_eq_false (p:=af cs i 0<=_) (by omega)];simp
theorem yG (h:upto (EF cs) i)(g:(cs.length:Int)<=i):plOk k m cs=(inR k 0 31&&(inR m 0 31&&decide (k≠m))):=by unfold plOk;rw[bp h g];rfl
end
end Go.V
namespace Go.V
theorem Kg {sp lg:aa}{a:Int}(h:layOk sp lg=true):dzK sp lg a=dnK sp lg a:=by unfold dzK;rw[if_pos h]
theorem Kh {sp lg:aa}{a:Int}(h:layOk sp lg=true):dzI sp lg a=dnI sp lg a:=by unfold dzI;rw[if_pos h]
theorem Ki {sp lg:aa}{a:Int}(h:layOk sp lg=true):dzO sp lg a=dnO sp lg a:=by unfold dzO;rw[if_pos h]
theorem Cy {sp lg:aa}{a:Int}(h:dnK sp lg a=1):0<=dnI sp lg a/\dnI sp lg a<sp.length:=by
 unfold dnK at h;by_cases c:0<=iQ sp a
 ·unfold dnI;rw[if_pos c];rcases ng (p:=yK sp a) (n:=sp.length)with q|q
  ·have:iQ sp a= -1:=q;omega
  ·exact q
 ·rw[if_neg c]at h;by_cases d:0<=wy lg a
  ·rw[if_pos d]at h;omega
  ·rw[if_neg d]at h;omega
theorem Ke {sp lg:aa}{a:Int}(h:dnK sp lg a=3):0<=dnI sp lg a/\dnI sp lg a<lg.length:=by
 unfold dnK at h;by_cases c:0<=iQ sp a
 ·rw[if_pos c]at h;split at h<;>omega
 ·rw[if_neg c]at h;by_cases d:0<=wy lg a
  ·unfold dnI;rw[if_neg c,if_pos d];rcases ng (p:=Af lg a) (n:=lg.length)with q|q
   ·have:wy lg a= -1:=q;omega
   ·exact q
  ·rw[if_neg d]at h;omega
def Bs (os:aa)(x j:Int):Bool:=eqB (af os j 0) x
def oiI (os:aa)(x:Int):Int:=ce (Bs os x) os.length
def oiB (os:aa)(x:Int):Bool:=decide (0<=oiI os x)
def okO (sp lg:aa)(a s:Int):Bool:=decide (dnO sp lg a=0)&&((decide (dnK sp lg a=1)&&decide (af sp (dnI sp lg a) 1=clsOf s))||(decide (dnK sp lg a=3)&&decide (af lg (dnI sp lg a) 2=s)))
def xt (sp lg os cs:aa)(nx i:Int):Bool:=
 !(decide (0<i)&&decide (af os i 1<=af os (i-1) 1))&&(inR (af os i 0) 1 (bH .sub .i64 nx 1)&&(inR (af os i 3) 0 (cs.length-1:Int)&&(!oiB (os.take i.toNat) (af os i 0)&&okO sp lg (af os i 1) (af os i 2))))
def objOk (sp lg os cs:aa)(nx:Int):Bool:=ca (xt sp lg os cs nx) os.length
section
variable {sp lg os cs : aa} {nx i k : Int}
theorem jH (i0:0<=i)(i1:i<os.length)(h:xt sp lg os cs nx i=false):objOk sp lg os cs nx=false:=bK i0 i1 h
theorem GO (h:upto (xt sp lg os cs nx) i)(g:(os.length:Int)<=i):objOk sp lg os cs nx=true:=bp h g
theorem KR (h:0<i)(g:af os i 1<=af os (i-1) 1):xt sp lg os cs nx i=false:=by unfold xt;rw[decide_eq_true h,decide_eq_true g];rfl
theorem KS (h:inR (af os i 0) 1 (bH .sub .i64 nx 1)=false):xt sp lg os cs nx i=false:=by unfold xt;rw[h];simp
theorem KT (h:inR (af os i 3) 0 (cs.length-1:Int)=false):xt sp lg os cs nx i=false:=by unfold xt;rw[h];simp
theorem KU (h:oiB (os.take i.toNat) (af os i 0)=true):xt sp lg os cs nx i=false:=by unfold xt;rw[h];simp
theorem Db (h:okO sp lg (af os i 1) (af os i 2)=false):xt sp lg os cs nx i=false:=by unfold xt;rw[h];simp
theorem I8 (h1:i<=0\/af os (i-1) 1<af os i 1)(h2:inR (af os i 0) 1 (bH .sub .i64 nx 1)=true)(h3:inR (af os i 3) 0 (cs.length-1:Int)=true)(h4:oiB (os.take i.toNat) (af os i 0)=false)(h5:okO sp lg (af os i 1) (af os i 2)=true):xt sp lg os cs nx i=true:=by
 unfold xt;rw[h2,h3,h4,h5];rcases h1 with h|h
 ·rw[decide_eq_false (p:=0<i) (by omega)];rfl
 ·rw[decide_eq_false (p:=af os i 1<=af os (i-1) 1) (by omega)];simp
theorem KV {a s:Int}(h:dnO sp lg a≠0):okO sp lg a s=false:=by unfold okO;rw[decide_eq_false h];rfl
theorem QV {a s:Int}(h1:dnK sp lg a≠1\/af sp (dnI sp lg a) 1≠clsOf s)(h2:dnK sp lg a≠3\/af lg (dnI sp lg a) 2≠s):okO sp lg a s=false:=by
 unfold okO;rcases h1 with h|h<;>rcases h2 with g|g<;>simp[h,g]
theorem KW {a s:Int}(h0:dnO sp lg a=0)(h1:dnK sp lg a=1)(h2:af sp (dnI sp lg a) 1=clsOf s):okO sp lg a s=true:=by unfold okO;rw[decide_eq_true h0,decide_eq_true h1,decide_eq_true h2];rfl
theorem KX {a s:Int}(h0:dnO sp lg a=0)(h1:dnK sp lg a=3)(h2:af lg (dnI sp lg a) 2=s):okO sp lg a s=true:=by unfold okO;rw[decide_eq_true h0,decide_eq_true h1,decide_eq_true h2];simp
theorem Np (k0:0<=k)(k1:k<i)(i1:i<os.length)(h:af os k 0=af os i 0):oiB (os.take i.toNat) (af os i 0)=true:=by
 unfold oiB oiI;rw[decide_eq_true_eq,wX];refine⟨k.toNat,by rw[List.length_take];omega,?_⟩;unfold Bs;rw[Int.toNat_of_nonneg k0,sf (by omega)];exact CB h
theorem QU {x:Int}(h:upto (fun j=> !eqB (af os j 0) x) k)(k1:i<=k)(i0:0<=i):oiB (os.take i.toNat) x=false:=by
 unfold oiB oiI;refine decide_eq_false (fun c=>?_);obtain⟨m,m1,m2⟩:=wX.1 c;rw[List.length_take]at m1;have q:=h m (by omega) (by omega);unfold Bs at m2;rw[sf (by omega)]at m2;simp only at q;rw[m2]at q;cases q
end
end Go.V
namespace Go.V
def Tt (es:aa):Prop:=∀ e∈es,∃ k b:Int,e=[.i k,.i b]
theorem pV {k b:Int}{es:aa}{n:Int}:cU ([.i k,.i b]::es) n=if k=n then some (0,.int .i64 b)else(cU es n).map fun p=>(p.1+1,p.2):=rfl
theorem kf {k b:Int}{es:aa}{n:Int}:ff ([.i k,.i b]::es) n=if k=n then b else ff es n:=by
 unfold ff;rw[pV];by_cases c:k=n
 ·rw[if_pos c,if_pos c]
 ·rw[if_neg c,if_neg c];cases cU es n with
  |none=>rfl
  |some p=>obtain⟨j,v⟩:=p;cases v<;>rfl
theorem GI {k b x:Int}{es:aa}{n:Int}:iH ([.i k,.i b]::es) n (.i x)=if k=n then[.i n,.i x]::es else[.i k,.i b]::iH es n (.i x):=by
 unfold iH;rw[pV];by_cases c:k=n
 ·rw[if_pos c,if_pos c];rfl
 ·rw[if_neg c,if_neg c];cases cU es n with
  |none=>rfl
  |some p=>rfl
theorem QM {x n:Int}:∀ {es:aa},Tt es->Tt (iH es n (.i x))/\∀ m,ff (iH es n (.i x)) m=if m=n then x else ff es m
 | [],_=>by
   refine⟨fun e he=>?_,fun m=>?_⟩
   ·have:e=[.i n,.i x]:=by simpa[iH,cU]using he
    exact⟨n,x,this⟩
   ·show ff [[.i n,.i x]] m=_;rw[kf];by_cases c:m=n
    ·rw[if_pos c.symm,if_pos c]
    ·rw[if_neg (fun e=>c e.symm),if_neg c]
 | e::es,h=>by
   obtain⟨k,b,rfl⟩:=h e (by simp);have h':Tt es:=fun e he=>h e (by simp[he])
   obtain⟨a1,a2⟩:=QM (x:=x) (n:=n) h';rw[GI];by_cases c:k=n
   ·rw[if_pos c];refine⟨fun e he=>?_,fun m=>?_⟩
    ·rcases List.mem_cons.1 he with rfl|he
     ·exact⟨n,x,rfl⟩
     ·exact h' e he
    ·rw[kf,kf];by_cases d:m=n
     ·rw[if_pos d.symm,if_pos d]
     ·rw[if_neg (fun e=>d e.symm),if_neg d,if_neg (fun e=>d (by rw[<-e,c]))]
   ·rw[if_neg c];refine⟨fun e he=>?_,fun m=>?_⟩
    ·rcases List.mem_cons.1 he with rfl|he
     ·exact⟨k,b,rfl⟩
     ·exact a1 e he
    ·rw[kf,kf,a2 m];by_cases d:k=m
     ·rw[if_pos d,if_pos d,if_neg (fun e=>c (d.trans e))]
     ·rw[if_neg d,if_neg d]
def huI (es:aa)(a:Int):aa:=iH es a (.i (bH .add .i64 (ff es a) 1))
structure xK (es:aa)(l:List Int):Prop where
 wf:Tt es
 c:∀ m,ff es m=(l.count m:Int)
theorem TO :xK [] []:=⟨(fun e he=>by cases he),fun m=>rfl⟩
theorem Cu {es:aa}{l:List Int}{a:Int}(h:xK es l)(hl:l.length<=1099511627776):xK (huI es a) (l++[a]):=by
 have q:=QM (x:=bH .add .i64 (ff es a) 1) (n:=a) h.wf;refine⟨q.1,fun m=>?_⟩;show ff (iH es a _) m=_;have b:l.count a<=l.length:=List.count_le_length;have e:=h.c a;rw[q.2 m,List.count_append,show bH .add .i64 (ff es a) 1=ff es a+1 from bA (by omega)];by_cases c:m=a
 ·subst c;rw[if_pos rfl,e];simp
 ·rw[if_neg c,h.c m];have:[a].count m=0:=List.count_eq_zero.2 (by simpa using c);rw[this];rfl
def gq (l:aa)(f:Nat):Nat->List Int
 |0=>[]
 |n+1=>gq l f n++[af l n f]
def ww (ls:aa):Nat->List Int
 |0=>[]
 |n+1=>ww ls n++gq (ax ls n 0) 0 (ax ls n 0).length
def oh (cs:aa):Nat->List Int
 |0=>[]
 |n+1=>oh cs n++ww (ax cs n 0) (ax cs n 0).length
theorem cI {l:aa}{f:Nat}:∀ n,(gq l f n).length=n
 |0=>rfl
 |n+1=>by rw[gq,List.length_append,cI n];rfl
theorem j9 {l:aa}{f:Nat}{i:Int}(h:0<=i):gq l f (i+1).toNat=gq l f i.toNat++[af l i f]:=by
 rw[show(i+1).toNat=i.toNat+1 from by omega,gq,Int.toNat_of_nonneg h]
theorem E7 {l:aa}{i:Int}(h:0<=i):ww l (i+1).toNat=ww l i.toNat++gq (ax l i 0) 0 (ax l i 0).length:=by
 rw[show(i+1).toNat=i.toNat+1 from by omega,ww,Int.toNat_of_nonneg h]
theorem E6 {l:aa}{i:Int}(h:0<=i):oh l (i+1).toNat=oh l i.toNat++ww (ax l i 0) (ax l i 0).length:=by
 rw[show(i+1).toNat=i.toNat+1 from by omega,oh,Int.toNat_of_nonneg h]
theorem kE {l:aa}{f:Nat}{x:Int}:∀ {n},x∈gq l f n↔∃ k:Nat,k<n/\x=af l k f
 |0=>⟨(fun h=>by cases h),fun⟨k,h,_⟩=>absurd h (Nat.not_lt_zero _)⟩
 | n+1=>by
   rw[gq,List.mem_append,kE,List.mem_singleton]
   constructor
   ·rintro(⟨k,h,e⟩|e)
    ·exact⟨k,by omega,e⟩
    ·exact⟨n,by omega,e⟩
   ·rintro⟨k,h,e⟩;by_cases c:k=n
    ·subst c;exact .inr e
    ·exact .inl ⟨k,by omega,e⟩
theorem yw {ls:aa}{x:Int}:∀ {n},x∈ww ls n↔∃ k:Nat,k<n/\x∈gq (ax ls k 0) 0 (ax ls k 0).length
 |0=>⟨(fun h=>by cases h),fun⟨k,h,_⟩=>absurd h (Nat.not_lt_zero _)⟩
 | n+1=>by
   rw[ww,List.mem_append,yw]
   constructor
   ·rintro(⟨k,h,e⟩|e)
    ·exact⟨k,by omega,e⟩
    ·exact⟨n,by omega,e⟩
   ·rintro⟨k,h,e⟩;by_cases c:k=n
    ·subst c;exact .inr e
    ·exact .inl ⟨k,by omega,e⟩
theorem yv {cs:aa}{x:Int}:∀ {n},x∈oh cs n↔∃ k:Nat,k<n/\x∈ww (ax cs k 0) (ax cs k 0).length
 |0=>⟨(fun h=>by cases h),fun⟨k,h,_⟩=>absurd h (Nat.not_lt_zero _)⟩
 | n+1=>by
   rw[oh,List.mem_append,yv]
   constructor
   ·rintro(⟨k,h,e⟩|e)
    ·exact⟨k,by omega,e⟩
    ·exact⟨n,by omega,e⟩
   ·rintro⟨k,h,e⟩;by_cases c:k=n
    ·subst c;exact .inr e
    ·exact .inl ⟨k,by omega,e⟩
theorem x8 {ls:aa}:∀ n,n<=ls.length->(ww ls n).length<=bz (ls.take n)
 |0,_=>Nat.zero_le _
 | n+1,h=>by
   have q:=x8 n (by omega:n<=ls.length);have c:=ux (es:=ls) (n:=n) (j:=0) (by omega);unfold ag at c;rw[ww,List.length_append,cI,iL (by omega)];omega
theorem gO {cs:aa}:∀ n,n<=cs.length->(oh cs n).length<=bz (cs.take n)
 |0,_=>Nat.zero_le _
 | n+1,h=>by
   have q:=gO n (by omega:n<=cs.length);have c:=ux (es:=cs) (n:=n) (j:=0) (by omega);have d:=x8 (ls:=ax cs n 0) (ax cs n 0).length (Nat.le_refl _);rw[List.take_length]at d;unfold ag at c;rw[oh,List.length_append,iL (by omega)];omega
theorem Iu {cs:aa}{i k:Int}(i0:0<=i)(i1:i<cs.length)(k1:k<=(ax cs i 0).length):(oh cs i.toNat++ww (ax cs i 0) k.toNat).length+bz ((ax cs i 0).drop k.toNat)<=bz cs:=by
 have q:=gO (cs:=cs) i.toNat (by omega);have c:=zK (es:=cs) (n:=i.toNat+1);have d:=iL (es:=cs) (n:=i.toNat) (by omega);have e:=ux (es:=cs) (n:=i.toNat) (j:=0) (by omega);rw[Int.toNat_of_nonneg i0]at e;have f:=x8 (ls:=ax cs i 0) k.toNat (by omega);have g:bz (ax cs i 0)=bz ((ax cs i 0).take k.toNat)+bz ((ax cs i 0).drop k.toNat):=by rw[<-dp,List.take_append_drop]
 rw[List.length_append];unfold ag at e;omega
theorem Cs {cs:aa}{i k j:Int}(i0:0<=i)(i1:i<cs.length)(k0:0<=k)(k1:k<(ax cs i 0).length)(j0:0<=j)(j1:j<=(ax (ax cs i 0) k 0).length):(oh cs i.toNat++ww (ax cs i 0) k.toNat++gq (ax (ax cs i 0) k 0) 0 j.toNat).length<=bz cs:=by
 have q:=Iu i0 i1 (by omega:k<=(ax cs i 0).length);have e:=ux (es:=ax cs i 0) (n:=k.toNat) (j:=0) (by omega);rw[Int.toNat_of_nonneg k0]at e;have d:cz ((ax cs i 0).getD k.toNat [])<=bz ((ax cs i 0).drop k.toNat):=by
  rw[List.drop_eq_getElem_cons (by omega)];rw[List.getD_eq_getElem?_getD,List.getElem?_eq_getElem (by omega)];simp[bz]
 rw[List.length_append,cI];unfold ag at e;omega
def hlB (sp lg:aa)(a k:Int):Bool:=decide (dnK sp lg a=1)&&(decide (dnO sp lg a=0)&&(decide (k<0)||decide (af sp (dnI sp lg a) 1=k)))
def jA (sp lg l:aa)(k j:Int):Bool:=hlB sp lg (af l j 0) k
def kA (sp lg ls:aa)(k:Int):Bool:=ca (jA sp lg (ax ls k 0) k) (ax ls k 0).length
def iA (sp lg cs:aa)(i:Int):Bool:=ca (kA sp lg (ax cs i 0)) (ax cs i 0).length
def qA (sp lg qs:aa)(i:Int):Bool:=hlB sp lg (af qs i 0) (af qs i 1)
def sA (qs:aa)(c i:Int):Bool:=decide (af qs i 2<=c)
def Do (sp lg qs:aa)(c i:Int):Bool:=qA sp lg qs i&&sA qs c i
def IK (os cs qs fl:aa):List Int:=oh cs cs.length++gq qs 0 qs.length++gq fl 0 fl.length++gq os 1 os.length
def Bl (os cs qs fl:aa):List Int:=gq os 1 os.length++oh cs cs.length++gq qs 0 qs.length++gq fl 0 fl.length
def JZ (l:List Int)(lv:aa)(i:Int):Bool:=decide (l.count (af lv i 0)=1)
def hoI (sp lg os cs b x qs:aa)(c:Int):Bool:=ca (iA sp lg cs) cs.length&&(ca (Do sp lg qs c) qs.length&&(ca (jA sp lg (ifL b x) (-1)) (ifL b x).length&&ca (JZ (IK os cs qs (ifL b x)) (laL sp lg)) (laL sp lg).length))
def hoS (sp lg os cs b x qs:aa):Bool:=ca (iA sp lg cs) cs.length&&(ca (qA sp lg qs) qs.length&&(ca (jA sp lg (ifL b x) (-1)) (ifL b x).length&&(decide ((Bl os cs qs (ifL b x)).Nodup)&&decide ((Bl os cs qs (ifL b x)).length=(laL sp lg).length))))
section
variable {sp lg os cs b x qs fl es : aa} {i k j c : Int}
theorem PW (k0:0<=k)(k1:k<(ax cs i 0).length)(j0:0<=j)(j1:j<(ax (ax cs i 0) k 0).length)(h:hlB sp lg (af (ax (ax cs i 0) k 0) j 0) k=false):iA sp lg cs i=false:=
 bK k0 k1 (bK (p:=jA sp lg (ax (ax cs i 0) k 0) k) j0 j1 h)
theorem Mo (i0:0<=i)(i1:i<cs.length)(h:iA sp lg cs i=false):hoI sp lg os cs b x qs c=false:=by unfold hoI;rw[bK i0 i1 h];rfl
theorem Fz (i0:0<=i)(i1:i<qs.length)(h:Do sp lg qs c i=false):hoI sp lg os cs b x qs c=false:=by unfold hoI;rw[bK i0 i1 h];simp
theorem Mp (i0:0<=i)(i1:i<(ifL b x).length)(h:hlB sp lg (af (ifL b x) i 0) (-1)=false):hoI sp lg os cs b x qs c=false:=by unfold hoI;rw[bK (p:=jA sp lg (ifL b x) (-1)) i0 i1 h];simp
theorem Mq (i0:0<=i)(i1:i<(laL sp lg).length)(h:JZ (IK os cs qs (ifL b x)) (laL sp lg) i=false):hoI sp lg os cs b x qs c=false:=by unfold hoI;rw[bK i0 i1 h];simp
theorem Mr (i0:0<=i)(i1:i<cs.length)(h:iA sp lg cs i=false):hoS sp lg os cs b x qs=false:=by unfold hoS;rw[bK i0 i1 h];rfl
theorem Ms (i0:0<=i)(i1:i<qs.length)(h:qA sp lg qs i=false):hoS sp lg os cs b x qs=false:=by unfold hoS;rw[bK i0 i1 h];simp
theorem Mt (i0:0<=i)(i1:i<(ifL b x).length)(h:hlB sp lg (af (ifL b x) i 0) (-1)=false):hoS sp lg os cs b x qs=false:=by unfold hoS;rw[bK (p:=jA sp lg (ifL b x) (-1)) i0 i1 h];simp
theorem Rt (h:hlB sp lg (af qs i 0) (af qs i 1)=false):Do sp lg qs c i=false:=by unfold Do qA;rw[h];rfl
theorem Ru (h:c<af qs i 2):Do sp lg qs c i=false:=by unfold Do sA;rw[decide_eq_false (by omega),Bool.and_false]
theorem U3 (h:hlB sp lg (af qs i 0) (af qs i 1)=true)(g:af qs i 2<=c):Do sp lg qs c i=true:=by unfold Do qA sA;rw[h,decide_eq_true g];rfl
structure Ob (sp lg cs:aa)(i:Int)(es:aa):Prop where
 ok:upto (iA sp lg cs) i
 c:xK es (oh cs i.toNat)
structure Od (sp lg cs:aa)(i k:Int)(es:aa):Prop where
 ok:upto (iA sp lg cs) i
 ok2:upto (kA sp lg (ax cs i 0)) k
 c:xK es (oh cs i.toNat++ww (ax cs i 0) k.toNat)
structure Oc (sp lg cs:aa)(i k j:Int)(es:aa):Prop where
 ok:upto (iA sp lg cs) i
 ok2:upto (kA sp lg (ax cs i 0)) k
 ok3:upto (jA sp lg (ax (ax cs i 0) k 0) k) j
 c:xK es (oh cs i.toNat++ww (ax cs i 0) k.toNat++gq (ax (ax cs i 0) k 0) 0 j.toNat)
structure Oe (sp lg cs qs:aa)(t j:Int)(es:aa):Prop where
 ok:ca (iA sp lg cs) cs.length=true
 ok2:upto (Do sp lg qs t) j
 c:xK es (oh cs cs.length++gq qs 0 j.toNat)
structure Oa (sp lg cs qs fl:aa)(t j:Int)(es:aa):Prop where
 ok:ca (iA sp lg cs) cs.length=true
 ok2:ca (Do sp lg qs t) qs.length=true
 ok3:upto (jA sp lg fl (-1)) j
 c:xK es (oh cs cs.length++gq qs 0 qs.length++gq fl 0 j.toNat)
structure LA (sp lg os cs qs fl:aa)(t j:Int)(es:aa):Prop where
 ok:ca (iA sp lg cs) cs.length=true
 ok2:ca (Do sp lg qs t) qs.length=true
 ok3:ca (jA sp lg fl (-1)) fl.length=true
 c:xK es (oh cs cs.length++gq qs 0 qs.length++gq fl 0 fl.length++gq os 1 j.toNat)
theorem Uc :Ob sp lg cs 0 []:=⟨bj,TO⟩
theorem Ue (h:Ob sp lg cs i es):Od sp lg cs i 0 es:=⟨h.ok,bj,by simpa[ww]using h.c⟩
theorem Ud (h:Od sp lg cs i k es):Oc sp lg cs i k 0 es:=⟨h.ok,h.ok2,bj,by simpa[gq]using h.c⟩
theorem Pq (h:Oc sp lg cs i k j es)(i0:0<=i)(i1:i<cs.length)(k0:0<=k)(k1:k<(ax cs i 0).length)(j0:0<=j)(j1:j<(ax (ax cs i 0) k 0).length)(hc:ag cs<=1073741824)(hh:hlB sp lg (af (ax (ax cs i 0) k 0) j 0) k=true):
 Oc sp lg cs i k (j+1) (huI es (af (ax (ax cs i 0) k 0) j 0)):=by
 have l:=Cs (cs:=cs) i0 i1 k0 k1 j0 (by omega);unfold ag at hc;exact⟨h.ok,h.ok2,aW h.ok3 hh,by rw[j9 j0, <-List.append_assoc];exact Cu h.c (by omega)⟩
theorem Ps (h:Oc sp lg cs i k j es)(k0:0<=k)(j1:j<=((ax (ax cs i 0) k 0).length:Int))(j2:((ax (ax cs i 0) k 0).length:Int)<=j):Od sp lg cs i (k+1) es:=by
 refine⟨h.ok,aW h.ok2 (bp h.ok3 j2),?_⟩;have c:=h.c;rw[show j.toNat=(ax (ax cs i 0) k 0).length from by omega,List.append_assoc, <-E7 k0]at c;exact c
theorem Pp (h:Od sp lg cs i k es)(i0:0<=i)(k1:k<=((ax cs i 0).length:Int))(k2:((ax cs i 0).length:Int)<=k):Ob sp lg cs (i+1) es:=by
 refine⟨aW h.ok (bp h.ok2 k2),?_⟩;have c:=h.c;rw[show k.toNat=(ax cs i 0).length from by omega, <-E6 i0]at c;exact c
theorem Um (h:Ob sp lg cs i es)(i1:i<=cs.length)(i2:(cs.length:Int)<=i):Oe sp lg cs qs c 0 es:=
 ⟨bp h.ok i2,bj,by have c:=h.c;rw[show i.toNat=cs.length from by omega]at c;simpa[gq]using c⟩
theorem PO (h:Oe sp lg cs qs c j es)(j0:0<=j)(j1:j<qs.length)(hc:ag cs<=1073741824)(hq:qs.length<=1073741824)(hh:Do sp lg qs c j=true):Oe sp lg cs qs c (j+1) (huI es (af qs j 0)):=by
 have l:=gO (cs:=cs) cs.length (Nat.le_refl _);rw[List.take_length]at l;unfold ag at hc;refine⟨h.ok,aW h.ok2 hh,?_⟩;rw[j9 j0, <-List.append_assoc];refine Cu h.c ?_;rw[List.length_append,cI];omega
theorem T9 (h:Oe sp lg cs qs c i es)(i1:i<=qs.length)(i2:(qs.length:Int)<=i):Oa sp lg cs qs fl c 0 es:=
 ⟨h.ok,bp h.ok2 i2,bj,by have c:=h.c;rw[show i.toNat=qs.length from by omega]at c;simpa[gq]using c⟩
theorem Po (h:Oa sp lg cs qs fl c j es)(j0:0<=j)(j1:j<fl.length)(hc:ag cs<=1073741824)(hq:qs.length<=1073741824)(hf:fl.length<=30)(hh:hlB sp lg (af fl j 0) (-1)=true):Oa sp lg cs qs fl c (j+1) (huI es (af fl j 0)):=by
 have l:=gO (cs:=cs) cs.length (Nat.le_refl _);rw[List.take_length]at l;unfold ag at hc;refine⟨h.ok,h.ok2,aW h.ok3 hh,?_⟩;rw[j9 j0, <-List.append_assoc];refine Cu h.c ?_;rw[List.length_append,List.length_append,cI,cI];omega
theorem Uh (h:Oa sp lg cs qs fl c i es)(i1:i<=fl.length)(i2:(fl.length:Int)<=i):LA sp lg os cs qs fl c 0 es:=
 ⟨h.ok,h.ok2,bp h.ok3 i2,by have c:=h.c;rw[show i.toNat=fl.length from by omega]at c;simpa[gq]using c⟩
theorem Pw (h:LA sp lg os cs qs fl c j es)(j0:0<=j)(j1:j<os.length)(hc:ag cs<=1073741824)(hq:qs.length<=1073741824)(ho:os.length<=1073741824)(hf:fl.length<=30):LA sp lg os cs qs fl c (j+1) (huI es (af os j 1)):=by
 have l:=gO (cs:=cs) cs.length (Nat.le_refl _);rw[List.take_length]at l;unfold ag at hc;refine⟨h.ok,h.ok2,h.ok3,?_⟩;rw[j9 j0, <-List.append_assoc];refine Cu h.c ?_;rw[List.length_append,List.length_append,List.length_append,cI,cI,cI];omega
structure JO (sp lg os cs qs fl:aa)(t i:Int)(es:aa):Prop where
 p:LA sp lg os cs qs fl t os.length es
 ok:upto (JZ (IK os cs qs fl) (laL sp lg)) i
theorem Uf (h:LA sp lg os cs qs fl c i es)(i1:i<=os.length)(i2:(os.length:Int)<=i):JO sp lg os cs qs fl c 0 es:=⟨by rw[show(os.length:Int)=i from by omega];exact h,bj⟩
theorem Pu (h:JO sp lg os cs qs fl c i es)(m:Int):ff es m=((IK os cs qs fl).count m:Int):=by
 have q:=h.p.c.c m;rw[Int.toNat_natCast]at q;exact q
theorem Pv (h:JO sp lg os cs qs fl c i es)(e:ff es (af (laL sp lg) i 0)=1):JO sp lg os cs qs fl c (i+1) es:=
 ⟨h.p,aW h.ok (by unfold JZ;rw[Pu h]at e;exact decide_eq_true (by omega))⟩
theorem Ug (h:JO sp lg os cs qs (ifL b x) c i es)(i0:0<=i)(i1:i<(laL sp lg).length)(e:ff es (af (laL sp lg) i 0)≠1):hoI sp lg os cs b x qs c=false:=
 Mq i0 i1 (by unfold JZ;rw[Pu h]at e;exact decide_eq_false (by omega))
theorem Mn (h:JO sp lg os cs qs (ifL b x) c i es)(i2:((laL sp lg).length:Int)<=i):hoI sp lg os cs b x qs c=true:=by
 unfold hoI;rw[h.p.ok,h.p.ok2,h.p.ok3,bp h.ok i2];rfl
end
end Go.V
namespace Go.V
structure LL (os:aa)(i:Int)(o:aa):Prop where
 e:o=eM (gq os 1 i.toNat)
structure Om (sp lg os cs:aa)(i:Int)(o:aa):Prop where
 ok:upto (iA sp lg cs) i
 e:o=eM (gq os 1 os.length++oh cs i.toNat)
structure On (sp lg os cs:aa)(i k:Int)(o:aa):Prop where
 ok:upto (iA sp lg cs) i
 ok2:upto (kA sp lg (ax cs i 0)) k
 e:o=eM (gq os 1 os.length++(oh cs i.toNat++ww (ax cs i 0) k.toNat))
structure LM (sp lg os cs:aa)(i k j:Int)(o:aa):Prop where
 ok:upto (iA sp lg cs) i
 ok2:upto (kA sp lg (ax cs i 0)) k
 ok3:upto (jA sp lg (ax (ax cs i 0) k 0) k) j
 e:o=eM (gq os 1 os.length++(oh cs i.toNat++ww (ax cs i 0) k.toNat++gq (ax (ax cs i 0) k 0) 0 j.toNat))
structure LN (sp lg os cs qs:aa)(j:Int)(o:aa):Prop where
 ok:ca (iA sp lg cs) cs.length=true
 ok2:upto (qA sp lg qs) j
 e:o=eM (gq os 1 os.length++oh cs cs.length++gq qs 0 j.toNat)
structure LO (sp lg os cs qs fl:aa)(j:Int)(o:aa):Prop where
 ok:ca (iA sp lg cs) cs.length=true
 ok2:ca (qA sp lg qs) qs.length=true
 ok3:upto (jA sp lg fl (-1)) j
 e:o=eM (gq os 1 os.length++oh cs cs.length++gq qs 0 qs.length++gq fl 0 j.toNat)
structure H9 (sp lg os cs qs fl:aa)(j:Int)(o:aa):Prop where
 ok:ca (iA sp lg cs) cs.length=true
 ok2:ca (qA sp lg qs) qs.length=true
 ok3:ca (jA sp lg fl (-1)) fl.length=true
 e:o=eM (Bl os cs qs fl)
 nd:((Bl os cs qs fl).take j.toNat).Nodup
section
variable {sp lg os cs b x qs fl o : aa} {i k j : Int}
theorem U4 :LL os 0 []:=⟨rfl⟩
theorem U5 (h:LL os i o):o.length=i.toNat:=by rw[h.e,bV,cI]
theorem RE (h:LL os i o)(i0:0<=i):LL os (i+1) (o++[[.i (af os i 1)]]):=⟨by rw[j9 i0,eg, <-h.e];rfl⟩
theorem U6 (h:LL os i o)(i1:i<=os.length)(i2:(os.length:Int)<=i):Om sp lg os cs 0 o:=⟨bj,by rw[h.e,show i.toNat=os.length from by omega];simp[oh]⟩
theorem U7 (h:Om sp lg os cs i o):On sp lg os cs i 0 o:=⟨h.ok,bj,by rw[h.e];simp[ww]⟩
theorem U8 (h:On sp lg os cs i k o):LM sp lg os cs i k 0 o:=⟨h.ok,h.ok2,bj,by rw[h.e];simp[gq]⟩
theorem U9 (h:LM sp lg os cs i k j o)(i0:0<=i)(i1:i<cs.length)(k0:0<=k)(k1:k<(ax cs i 0).length)(j0:0<=j)(j1:j<=(ax (ax cs i 0) k 0).length)(hc:ag cs<=1073741824)(ho:os.length<=1073741824):o.length<=2147483648:=by
 have l:=Cs (cs:=cs) i0 i1 k0 k1 j0 j1;unfold ag at hc;rw[h.e,bV,List.length_append,cI];omega
theorem RH (h:LM sp lg os cs i k j o)(j0:0<=j)(hh:hlB sp lg (af (ax (ax cs i 0) k 0) j 0) k=true):LM sp lg os cs i k (j+1) (o++[[.i (af (ax (ax cs i 0) k 0) j 0)]]):=
 ⟨h.ok,h.ok2,aW h.ok3 hh,by rw[j9 j0, <-List.append_assoc (oh cs i.toNat++ww (ax cs i 0) k.toNat), <-List.append_assoc (gq os 1 os.length),eg, <-h.e];rfl⟩
theorem RG (h:LM sp lg os cs i k j o)(k0:0<=k)(j1:j<=((ax (ax cs i 0) k 0).length:Int))(j2:((ax (ax cs i 0) k 0).length:Int)<=j):On sp lg os cs i (k+1) o:=by
 refine⟨h.ok,aW h.ok2 (bp h.ok3 j2),?_⟩;rw[h.e,show j.toNat=(ax (ax cs i 0) k 0).length from by omega,List.append_assoc (oh cs i.toNat), <-E7 k0]
theorem RF (h:On sp lg os cs i k o)(i0:0<=i)(k1:k<=((ax cs i 0).length:Int))(k2:((ax cs i 0).length:Int)<=k):Om sp lg os cs (i+1) o:=by
 refine⟨aW h.ok (bp h.ok2 k2),?_⟩;rw[h.e,show k.toNat=(ax cs i 0).length from by omega, <-E6 i0]
theorem Va (h:Om sp lg os cs i o)(i1:i<=cs.length)(i2:(cs.length:Int)<=i):LN sp lg os cs qs 0 o:=⟨bp h.ok i2,bj,by rw[h.e,show i.toNat=cs.length from by omega];simp[gq]⟩
theorem Vb (h:LN sp lg os cs qs j o)(j1:j<=qs.length)(hc:ag cs<=1073741824)(ho:os.length<=1073741824)(hq:qs.length<=1073741824):o.length<=4294967296:=by
 have l:=gO (cs:=cs) cs.length (Nat.le_refl _);rw[List.take_length]at l;unfold ag at hc;rw[h.e,bV,List.length_append,List.length_append,cI,cI];omega
theorem RI (h:LN sp lg os cs qs j o)(j0:0<=j)(hh:hlB sp lg (af qs j 0) (af qs j 1)=true):LN sp lg os cs qs (j+1) (o++[[.i (af qs j 0)]]):=
 ⟨h.ok,aW h.ok2 hh,by rw[j9 j0, <-List.append_assoc,eg, <-h.e];rfl⟩
theorem Vd (h:LN sp lg os cs qs i o)(i1:i<=qs.length)(i2:(qs.length:Int)<=i):LO sp lg os cs qs fl 0 o:=⟨h.ok,bp h.ok2 i2,bj,by rw[h.e,show i.toNat=qs.length from by omega];simp[gq]⟩
theorem Ve (h:LO sp lg os cs qs fl j o)(j1:j<=fl.length)(hc:ag cs<=1073741824)(ho:os.length<=1073741824)(hq:qs.length<=1073741824)(hf:fl.length<=30):o.length<=4294967400:=by
 have l:=gO (cs:=cs) cs.length (Nat.le_refl _);rw[List.take_length]at l;unfold ag at hc;rw[h.e,bV,List.length_append,List.length_append,List.length_append,cI,cI,cI];omega
theorem RJ (h:LO sp lg os cs qs fl j o)(j0:0<=j)(hh:hlB sp lg (af fl j 0) (-1)=true):LO sp lg os cs qs fl (j+1) (o++[[.i (af fl j 0)]]):=
 ⟨h.ok,h.ok2,aW h.ok3 hh,by rw[j9 j0, <-List.append_assoc,eg, <-h.e];rfl⟩
theorem Vf (h:LO sp lg os cs qs fl i o)(i1:i<=fl.length)(i2:(fl.length:Int)<=i):H9 sp lg os cs qs fl 0 o:=
 ⟨h.ok,h.ok2,bp h.ok3 i2,by rw[h.e,show i.toNat=fl.length from by omega];rfl,List.nodup_nil⟩
theorem RL (h:H9 sp lg os cs qs fl j o)(hc:ag cs<=1073741824)(ho:os.length<=1073741824)(hq:qs.length<=1073741824)(hf:fl.length<=30):o.length<=4294967400:=by
 have l:=gO (cs:=cs) cs.length (Nat.le_refl _);rw[List.take_length]at l;unfold ag at hc;rw[h.e,bV];unfold Bl;rw[List.length_append,List.length_append,List.length_append,cI,cI,cI];omega
theorem Ax {l:List Int}{n:Nat}:(eM l).take n=eM (l.take n):=by unfold eM;rw[List.map_take]
theorem yJ {l:List Int}{i:Int}(h0:0<=i)(h:i<(eM l).length):∃ x,l[i.toNat]?=some x/\af (eM l) i 0=x:=by
 rw[bV]at h;have q:=pk (l:=l) (k:=i.toNat) (by omega);rw[Int.toNat_of_nonneg h0]at q;exact⟨_,List.getElem?_eq_getElem (by omega),q⟩
theorem RO (h:H9 sp lg os cs qs fl j o)(j0:0<=j)(j1:j<o.length)(hh:hasB (o.take j.toNat) (af o j 0)=false):H9 sp lg os cs qs fl (j+1) o:=by
 refine⟨h.ok,h.ok2,h.ok3,h.e,?_⟩;have e:=h.e;rw[e]at j1 hh;obtain⟨v,q1,q2⟩:=yJ j0 j1;rw[Ax,q2]at hh;have nm:=sg hh;rw[show(j+1).toNat=j.toNat+1 from by omega,List.take_succ,q1];exact gQ h.nd nm
theorem Vg (h:H9 sp lg os cs qs (ifL b x) j o)(j0:0<=j)(j1:j<o.length)(hh:hasB (o.take j.toNat) (af o j 0)=true):hoS sp lg os cs b x qs=false:=by
 have e:=h.e;rw[e]at j1 hh;obtain⟨v,q1,q2⟩:=yJ j0 j1;rw[Ax,q2,kC]at hh;have:¬ (Bl os cs qs (ifL b x)).Nodup:=fun nd=>by
  have lt:j.toNat<(Bl os cs qs (ifL b x)).length:=by rw[bV]at j1;omega
  have sp:=List.take_append_drop j.toNat (Bl os cs qs (ifL b x));rw[List.drop_eq_getElem_cons lt]at sp;have gv:(Bl os cs qs (ifL b x))[j.toNat]=v:=by rw[List.getElem?_eq_getElem lt]at q1;exact Option.some.inj q1
  rw[gv]at sp;exact dup sp.symm hh nd
 unfold hoS;rw[decide_eq_false this];simp
theorem NH (h:H9 sp lg os cs qs (ifL b x) j o)(j2:(o.length:Int)<=j):decide ((o.length:Int)=(laL sp lg).length)=hoS sp lg os cs b x qs:=by
 have e:=h.e;have nd:=h.nd;have l:(Bl os cs qs (ifL b x)).length=o.length:=by rw[e,bV]
 rw[List.take_of_length_le (by omega)]at nd;unfold hoS;rw[h.ok,h.ok2,h.ok3,decide_eq_true nd,l];simp only[Bool.true_and];exact eh (by rw[decide_eq_true_eq,decide_eq_true_eq];omega)
def Or (l:List Int):Prop:=∀ v∈l,-9223372036854775808<=v/\v<=9223372036854775807
theorem yn {l m:List Int}(h:Or l)(g:Or m):Or (l++m):=fun v hv=>by
 rcases List.mem_append.1 hv with q|q
 ·exact h v q
 ·exact g v q
theorem yo {fs:List Ty}{l:aa}{f:Nat}(h:Rw fs l)(hf:fs[f]?=some tI):Or (gq l f l.length):=fun v hv=>by
 obtain⟨n,n1,rfl⟩:=kE.1 hv;exact pT h hf (by omega)
theorem MM {ls:aa}(h:Rw [.sl [tI]] ls):Or (ww ls ls.length):=fun v hv=>by
 obtain⟨n,n1,q⟩:=yw.1 hv;exact yo (fs:=[tI]) (Rw.sub (fs:=[.sl [tI]]) h (by omega) rfl) rfl v q
theorem ML {cs:aa}(h:Rw [.sl [.sl [tI]]] cs):Or (oh cs cs.length):=fun v hv=>by
 obtain⟨n,n1,q⟩:=yv.1 hv;exact MM (Rw.sub (fs:=[.sl [.sl [tI]]]) h (by omega) rfl) v q
theorem RN (N:zq sp lg os cs b x qs)(h:H9 sp lg os cs qs (ifL b x) j o)(n:Nat):Rw [tI] (o.take n):=by
 have l:=RL h N.cl N.ol N.ql Bp;refine Rw.take ?_ n;rw[h.e]at l ⊢;rw[bV]at l;refine pm ?_ (by omega);unfold Bl;exact yn (yn (yn (yo N.ow rfl) (ML N.cw)) (yo N.qw rfl)) (yo (FJ N.m) rfl)
theorem Fy {a k:Int}(hl:layOk sp lg=true)(h:hlB sp lg a k=true):rJ sp lg a=true:=by
 unfold hlB at h;simp only[Bool.and_eq_true,decide_eq_true_eq]at h;exact(CY hl).2 ⟨h.2.1,.inl h.1⟩
theorem QW {a s:Int}(hl:layOk sp lg=true)(h:okO sp lg a s=true):rJ sp lg a=true:=by
 unfold okO at h;simp only[Bool.and_eq_true,Bool.or_eq_true,decide_eq_true_eq]at h;exact(CY hl).2 ⟨h.1,h.2.elim (fun q=>.inl q.1) (fun q=>.inr q.1)⟩
def M3 (sp lg:aa):List Int:=KF sp lg 512
theorem P7 (hl:layOk sp lg=true):laL sp lg=eM (M3 sp lg):=by unfold laL M3;rw[if_pos hl,uE]
theorem I1 (hl:layOk sp lg=true){a:Int}:a∈M3 sp lg↔rJ sp lg a=true:=by
 unfold M3;rw[nE]
 constructor
 ·exact fun h=>h.2.2
 ·intro h;have F:=Ot hl;have v:=KG F hl h;have r:a∈My sp lg:=C5.2 v;refine⟨?_,?_,h⟩
  ·rcases v with⟨i,k,i1,k1,_,e⟩|⟨j,j1,e⟩
   ·have ae:=jO (s:=(k:Int)) (F.s i i1) (by omega) (by omega);have t:=ig (F.s i i1);omega
   ·have t:=hY (F.l j j1);omega
  ·rcases v with⟨i,k,i1,k1,_,e⟩|⟨j,j1,e⟩
   ·have ae:=jO (s:=(k:Int)) (F.s i i1) (by omega) (by omega);have t:=ig (F.s i i1);omega
   ·have t:=hY (F.l j j1);have b:=gJ t.1;omega
theorem Nj :(M3 sp lg).Nodup:=(BR 512).imp (fun h=>by omega)
theorem Dg :(IK os cs qs fl).Perm (Bl os cs qs fl):=by
 unfold IK Bl;have q:=List.perm_append_comm (l₁:=oh cs cs.length++gq qs 0 qs.length++gq fl 0 fl.length) (l₂:=gq os 1 os.length);refine q.trans ?_;rw[List.append_assoc,List.append_assoc,List.append_assoc]
theorem GN {l m:List Int}(hm:m.Nodup)(hs:∀ v∈l,v∈m):(∀ v∈m,l.count v=1)↔l.Nodup/\l.length=m.length:=by
 constructor
 ·intro h;have nd:l.Nodup:=List.nodup_iff_count.2 (fun v=>by
   by_cases c:v∈l
   ·rw[h v (hs v c)];exact Nat.le_refl _
   ·rw[List.count_eq_zero.2 c];omega)
  refine⟨nd,?_⟩;have p:l.Perm m:=by
   rw[List.perm_ext_iff_of_nodup nd hm];intro v;refine⟨hs v,fun hv=>?_⟩;have:=h v hv;exact List.count_pos_iff.1 (by omega)
  exact p.length_eq
 ·rintro⟨nd,len⟩ v hv;have hv':v∈l:=by
   by_cases c:v∈l
   ·exact c
   ·exfalso;have q:=List.Nodup.length_le_of_subset (l₁:=v::l) (l₂:=m) (List.nodup_cons.2 ⟨c,nd⟩) (fun y hy=>by
     rcases List.mem_cons.1 hy with rfl|hy
     ·exact hv
     ·exact hs y hy)
    rw[List.length_cons]at q;omega
  have p1:=List.nodup_iff_count.1 nd v;have p2:=List.count_pos_iff.2 hv';omega
theorem dX {p:Int->Bool}{n:Nat}(h:ca p n=true):∀ k:Nat,k<n->p k=true:=fun k hk=>dn.1 h k (by omega) (by omega)
theorem Je {c:Int}:ca (Do sp lg qs c) qs.length=(ca (qA sp lg qs) qs.length&&ca (sA qs c) qs.length):=by
 refine eh ?_;rw[Bool.and_eq_true,dn,dn,dn];unfold upto Do
 constructor
 ·intro h;refine⟨fun j h0 h1=>?_,fun j h0 h1=>?_⟩
  ·have:=h j h0 h1;rw[Bool.and_eq_true]at this;exact this.1
  ·have:=h j h0 h1;rw[Bool.and_eq_true]at this;exact this.2
 ·rintro⟨h,g⟩ j h0 h1;rw[h j h0 h1,g j h0 h1];rfl
theorem FA {nx c:Int}(hl:layOk sp lg=true)(ho:objOk sp lg os cs nx=true):hoI sp lg os cs b x qs c=(hoS sp lg os cs b x qs&&ca (sA qs c) qs.length):=by
 unfold hoI hoS;rw[Je];by_cases h1:ca (iA sp lg cs) cs.length=true
 case neg=>rw[Bool.not_eq_true]at h1;rw[h1];rfl
 by_cases h2:ca (qA sp lg qs) qs.length=true
 case neg=>rw[Bool.not_eq_true]at h2;rw[h2];simp
 by_cases h3:ca (jA sp lg (ifL b x) (-1)) (ifL b x).length=true
 case neg=>rw[Bool.not_eq_true]at h3;rw[h3];simp
 have sub:∀ v∈IK os cs qs (ifL b x),v∈M3 sp lg:=by
  intro v hv;rw[I1 hl];unfold IK at hv;rw[List.mem_append,List.mem_append,List.mem_append]at hv;rcases hv with((hv|hv)|hv)|hv
  ·obtain⟨i,i1,hv⟩:=yv.1 hv;obtain⟨k,k1,hv⟩:=yw.1 hv;obtain⟨j,j1,rfl⟩:=kE.1 hv;have q1:=dX h1 i i1;have q2:=dX q1 k k1;have q3:=dX q2 j j1;exact Fy hl q3
  ·obtain⟨j,j1,rfl⟩:=kE.1 hv;exact Fy hl (dX h2 j j1)
  ·obtain⟨j,j1,rfl⟩:=kE.1 hv;exact Fy hl (dX h3 j j1)
  ·obtain⟨j,j1,rfl⟩:=kE.1 hv;have q:=dX ho j j1;unfold xt at q;simp only[Bool.and_eq_true]at q;exact QW hl q.2.2.2.2
 have key:=GN Nj sub;have e1:ca (JZ (IK os cs qs (ifL b x)) (laL sp lg)) (laL sp lg).length=(decide (Bl os cs qs (ifL b x)).Nodup&&decide ((Bl os cs qs (ifL b x)).length=(laL sp lg).length)):=by
  refine eh ?_;rw[Bool.and_eq_true,decide_eq_true_eq,decide_eq_true_eq, <-Dg.nodup_iff, <-Dg.length_eq,P7 hl,bV, <-key]
  constructor
  ·intro h v hv;obtain⟨n,n1,rfl⟩:=List.mem_iff_getElem.1 hv;have q:=dX h n n1;unfold JZ at q;rw[pk n1,decide_eq_true_eq]at q;exact q
  ·intro h;rw[dn];intro j h0 h1;have n1:j.toNat<(M3 sp lg).length:=by omega
   have q:=pk n1;rw[Int.toNat_of_nonneg h0]at q;unfold JZ;rw[q,decide_eq_true_eq];exact h _ (List.getElem_mem n1)
 rw[h1,h2,h3,e1];simp only[Bool.true_and];exact Bool.and_comm _ _
end
end Go.V
namespace Go.V
theorem CN {n:Int}:∀ {es:aa},Oo es->∀ m,m∈iS (iH es n (.v (.bool true)))↔m∈iS es\/m=n
 | [],_,m=>by
   show m∈iS [[.i n,.v (.bool true)]]↔_;simp[iS,Tz]
 | e::es,h,m=>by
   obtain⟨k,b,rfl⟩:=h e (by simp);have h':Oo es:=fun e he=>h e (by simp[he])
   have ih:=CN (n:=n) h' m;rw[C7];by_cases c:k=n
   ·rw[if_pos c];subst c;show m∈k::iS es↔m∈k::iS es\/m=k;simp only[List.mem_cons]
    constructor
    ·exact fun h=>.inl h
    ·rintro(h|h)
     ·exact h
     ·exact .inl h
   ·rw[if_neg c];show m∈k::iS (iH es n (.v (.bool true)))↔m∈k::iS es\/m=n;simp only[List.mem_cons,ih,or_assoc]
structure sD (es:aa)(l:List Int):Prop where
 s:kW es l
 k:∀ m,m∈iS es↔m∈l
theorem QZ :sD [] []:=⟨BW,fun m=>Iff.rfl⟩
theorem GT {es:aa}{l:List Int}{n:Int}(h:sD es l):sD (iH es n (.v (.bool true))) (l++[n]):=
 ⟨sx h.s,fun m=>by rw[CN h.s.wf,h.k,List.mem_append,List.mem_singleton]⟩
def sv (sp:aa)(i:Int):Bool:= !(decide (0<i)&&decide (af sp i 0<=af sp (i-1) 0))
def Me (es:aa)(p:Int):Bool:=decide ((fpg es p).length=1)
def yt (es lg:aa)(i:Int):Bool:=sv lg i&&ca (fun k=>Me es (af lg i 0+k)) (af lg i 1).toNat
def ownB (sp lg:aa)(p:Int):Bool:=decide (p∈uV sp lg)
def mapB (es:aa)(p:Int):Bool:=decide (peM es p≠0)
def wS (es fr sp lg:aa)(p:Int):Bool:=(mapB es p==ownB sp lg p)&& !(rhB fr p==ownB sp lg p)
def GM (es sp lg:aa):Bool:=decide (∀ p∈uV sp lg,p<es.length)
def uM (sp:aa)(i j:Int):Bool:=mshB (af sp i 0) (af sp i 1) (af sp i 2) (af sp j 0) (af sp j 1) (af sp j 2)
def EC (es sp:aa)(i j:Int):Bool:= !decide (peF es (af sp i 0)=peF es (af sp j 0))||uM sp i j
def HZ (es sp:aa)(i:Int):Bool:=ca (EC es sp i) i.toNat
def Gd (es sp:aa)(i k:Int):Bool:=decide (spI sp (af (fpg es (af sp i 0)) k 0)=i)||(decide (0<=spI sp (af (fpg es (af sp i 0)) k 0))&&uM sp i (spI sp (af (fpg es (af sp i 0)) k 0)))
def msA (es sp:aa)(i:Int):Bool:=ca (Gd es sp i) (fpg es (af sp i 0)).length
def pgI (es fr sp lg:aa):Bool:=ca (sv sp) sp.length&&(ca (yt es lg) lg.length&&(ca (wS es fr sp lg) es.length&&(GM es sp lg&&ca (HZ es sp) sp.length)))
def pgS (es fr sp lg:aa):Bool:=ca (sv sp) sp.length&&(ca (yt es lg) lg.length&&(GM es sp lg&&ca (wS es fr sp lg) es.length))
def smS (es sp:aa):Bool:=ca (msA es sp) sp.length
section
variable {es fr sp lg m : aa} {i j k p : Int} {vs : List Int}
theorem Du (h:0<i)(g:af sp i 0<=af sp (i-1) 0):sv sp i=false:=by unfold sv;rw[decide_eq_true h,decide_eq_true g];rfl
theorem Dv (h:i<=0):sv sp i=true:=by unfold sv;rw[decide_eq_false (by omega)];rfl
theorem Dw (h:af sp (i-1) 0<af sp i 0):sv sp i=true:=by unfold sv;rw[decide_eq_false (p:=af sp i 0<=_) (by omega)];simp
theorem Q6 (i0:0<=i)(i1:i<sp.length)(h:sv sp i=false):pgI es fr sp lg=false:=by unfold pgI;rw[bK i0 i1 h];rfl
theorem K4 (i0:0<=i)(i1:i<lg.length)(h:yt es lg i=false):pgI es fr sp lg=false:=by unfold pgI;rw[bK i0 i1 h];simp
theorem K5 (i0:0<=i)(i1:i<es.length)(h:wS es fr sp lg i=false):pgI es fr sp lg=false:=by unfold pgI;rw[bK i0 i1 h];simp
theorem Q7 (h:GM es sp lg=false):pgI es fr sp lg=false:=by unfold pgI;rw[h];simp
theorem Q8 (i0:0<=i)(i1:i<sp.length)(h:HZ es sp i=false):pgI es fr sp lg=false:=by unfold pgI;rw[bK i0 i1 h];simp
theorem UM {a b c d:Int}(h1:upto (sv sp) a)(g1:(sp.length:Int)<=a)(h2:upto (yt es lg) b)(g2:(lg.length:Int)<=b)(h3:upto (wS es fr sp lg) c)(g3:(es.length:Int)<=c)(h4:GM es sp lg=true)(h5:upto (HZ es sp) d)(g5:(sp.length:Int)<=d):pgI es fr sp lg=true:=by
 unfold pgI;rw[bp h1 g1,bp h2 g2,bp h3 g3,h4,bp h5 g5];rfl
theorem Rh (i0:0<=i)(i1:i<sp.length)(h:sv sp i=false):pgS es fr sp lg=false:=by unfold pgS;rw[bK i0 i1 h];rfl
theorem K6 (i0:0<=i)(i1:i<lg.length)(h:yt es lg i=false):pgS es fr sp lg=false:=by unfold pgS;rw[bK i0 i1 h];simp
theorem K7 (i0:0<=i)(i1:i<es.length)(h:wS es fr sp lg i=false):pgS es fr sp lg=false:=by unfold pgS;rw[bK i0 i1 h];simp
theorem Ri (h:GM es sp lg=false):pgS es fr sp lg=false:=by unfold pgS;rw[h];simp
theorem US {a b c:Int}(h1:upto (sv sp) a)(g1:(sp.length:Int)<=a)(h2:upto (yt es lg) b)(g2:(lg.length:Int)<=b)(h3:upto (wS es fr sp lg) c)(g3:(es.length:Int)<=c)(h4:GM es sp lg=true):pgS es fr sp lg=true:=by
 unfold pgS;rw[bp h1 g1,bp h2 g2,bp h3 g3,h4];rfl
theorem KC (h:sv lg i=false):yt es lg i=false:=by unfold yt;rw[h];rfl
theorem KD (k0:0<=k)(k1:k<af lg i 1)(h:(fpg es (af lg i 0+k)).length≠1):yt es lg i=false:=by
 unfold yt;rw[bK (i:=k) (n:=(af lg i 1).toNat) k0 (by omega) (show Me es (af lg i 0+k)=false from decide_eq_false h),Bool.and_false]
theorem P9 (h:sv lg i=true)(g:upto (fun k=>Me es (af lg i 0+k)) k)(k1:af lg i 1<=k)(n0:0<=af lg i 1):yt es lg i=true:=by
 unfold yt;rw[h,bp g (by omega)];rfl
theorem Km (g:upto (fun k=>Me es (af lg i 0+k)) k)(h:(fpg es (af lg i 0+k)).length=1):upto (fun k=>Me es (af lg i 0+k)) (k+1):=aW g (decide_eq_true h)
structure Ol (es sp lg:aa)(j:Int)(m:aa):Prop where
 ok:upto (yt es lg) j
 o:sD m (il sp sp.length++ij lg j.toNat)
structure Oj (es sp lg:aa)(j k:Int)(m:aa):Prop where
 ok:upto (yt es lg) j
 h:sv lg j=true
 g:upto (fun k=>Me es (af lg j 0+k)) k
 o:sD m (il sp sp.length++ij lg j.toNat++kH (af lg j 0) k.toNat)
theorem UO (h:sD m (il sp i.toNat))(i1:i<=sp.length)(i2:(sp.length:Int)<=i):Ol es sp lg 0 m:=⟨bj,by rw[show i.toNat=sp.length from by omega]at h;simpa[ij]using h⟩
theorem Q9 (h:Ol es sp lg j m)(g:sv lg j=true):Oj es sp lg j (af lg j 0-af lg j 0) m:=by
 rw[Int.sub_self];exact⟨h.ok,g,bj,by simpa[kH]using h.o⟩
theorem Rb (h:Oj es sp lg j (p-af lg j 0) m)(p0:af lg j 0<=p)(g:(fpg es p).length=1):Oj es sp lg j (p+1-af lg j 0) (iH m p (.v (.bool true))):=by
 have e:af lg j 0+(p-af lg j 0)=p:=by omega
 rw[show p+1-af lg j 0=(p-af lg j 0)+1 from by omega];refine⟨h.ok,h.h,Km h.g (by rw[e];exact g),?_⟩;rw[uW (by omega),e, <-List.append_assoc];exact GT h.o
theorem Ra (p0:af lg j 0<=p)(p1:p<af lg j 0+af lg j 1)(h:(fpg es p).length≠1):yt es lg j=false:=
 KD (k:=p-af lg j 0) (by omega) (by omega) (by rw[show af lg j 0+(p-af lg j 0)=p from by omega];exact h)
theorem Rc (h:Oj es sp lg j (p-af lg j 0) m)(j0:0<=j)(n0:0<=af lg j 1)(p1:p<=af lg j 0+af lg j 1)(p2:af lg j 0+af lg j 1<=p):Ol es sp lg (j+1) m:=by
 refine⟨aW h.ok (P9 h.h h.g (by omega) n0),?_⟩;have o:=h.o;rw[show(p-af lg j 0).toNat=(af lg j 1).toNat from by omega,List.append_assoc, <-lL j0]at o;exact o
theorem Nu (h:Ol es sp lg j m)(j1:j<=lg.length)(j2:(lg.length:Int)<=j):sD m (uV sp lg):=by
 have o:=h.o;rw[show j.toNat=lg.length from by omega]at o;exact o
theorem Q0 (h:sD m (uV sp lg))(p:Int):mgbI m p=ownB sp lg p:=by
 refine eh ?_;unfold ownB;rw[h.s.at_,decide_eq_true_eq]
theorem Kj (h:mapB es p≠ownB sp lg p):wS es fr sp lg p=false:=by unfold wS;rw[beq_eq_false_iff_ne.2 h];rfl
theorem Kk (h:rhB fr p=ownB sp lg p):wS es fr sp lg p=false:=by unfold wS;rw[h];simp
theorem O9 (h:mapB es p=ownB sp lg p)(g:rhB fr p≠ownB sp lg p):wS es fr sp lg p=true:=by unfold wS;rw[h,beq_eq_false_iff_ne.2 g];simp
theorem Ma (h:mapB es p=rhB fr p)(g:mapB es p=ownB sp lg p):wS es fr sp lg p=false:=Kk (by rw[<-h,g])
theorem Pb (h:mapB es p≠rhB fr p)(g:mapB es p=ownB sp lg p):wS es fr sp lg p=true:=O9 g (fun e=>h (by rw[g,e]))
theorem Qr (p0:0<=p)(p1:p<es.length):cr .neq (af es p 0) 0=mapB es p:=by rw[x9];unfold mapB peM;rw[if_pos (by omega)]
theorem QT (h:p∈uV sp lg)(g:(es.length:Int)<=p):GM es sp lg=false:=decide_eq_false (fun c=>by have:=c p h;omega)
theorem UK (o:sD m (uV sp lg))(h:∀ k∈vs,k<es.length)(g:∀ k∈iS m,k∈vs):GM es sp lg=true:=decide_eq_true (fun p hp=>h p (g p ((o.k p).2 hp)))
theorem Sk {q:Int}(h:∀ k∈vs,k<(es.length:Int))(g:q<es.length):∀ k∈q::vs,k<(es.length:Int):=fun k hk=>by
 rcases List.mem_cons.1 hk with rfl|hk
 ·exact g
 ·exact h k hk
theorem UF (j0:0<=j)(j1:j<i)(h:peF es (af sp i 0)=peF es (af sp j 0))(g:uM sp i j=false):HZ es sp i=false:=by
 unfold HZ;exact bK j0 (by omega) (by unfold EC;rw[g,decide_eq_true h];rfl)
theorem Qn (h:peF es (af sp i 0)≠peF es (af sp j 0)):EC es sp i j=true:=by unfold EC;rw[decide_eq_false h];rfl
theorem Qo (h:uM sp i j=true):EC es sp i j=true:=by unfold EC;rw[h,Bool.or_true]
theorem UG (h:upto (EC es sp i) j)(g:i<=j)(i0:0<=i):HZ es sp i=true:=by unfold HZ;exact bp h (by omega)
structure HV (es sp lg:aa)(j:Int)(o:aa):Prop where
 ok:upto (yt es lg) j
 e:o=eM (il sp sp.length++ij lg j.toNat)
 l:(ij lg j.toNat).length<=64*j.toNat
structure LJ (es sp lg:aa)(j k:Int)(o:aa):Prop where
 ok:upto (yt es lg) j
 h:sv lg j=true
 g:upto (fun k=>Me es (af lg j 0+k)) k
 e:o=eM (il sp sp.length++ij lg j.toNat++kH (af lg j 0) k.toNat)
 l:(ij lg j.toNat).length<=64*j.toNat
structure LK (sp:aa)(i:Int)(o:aa):Prop where
 ok:upto (sv sp) i
 e:o=eM (il sp i.toNat)
variable {o : aa}
theorem U0 :LK sp 0 []:=⟨bj,rfl⟩
theorem U2 (h:LK sp i o):o.length=i.toNat:=by rw[h.e,bV,kM]
theorem La (h:LK sp i o)(i0:0<=i)(g:sv sp i=true):LK sp (i+1) (o++[[.i (af sp i 0)]]):=⟨aW h.ok g,by rw[kw i0,eg, <-h.e];rfl⟩
theorem UW (h:LK sp i o)(i1:i<=sp.length)(i2:(sp.length:Int)<=i):HV es sp lg 0 o:=⟨bj,by rw[h.e,show i.toNat=sp.length from by omega];simp[ij],Nat.zero_le _⟩
theorem Rp (h:HV es sp lg j o)(g:sv lg j=true):LJ es sp lg j 0 o:=⟨h.ok,g,bj,by rw[h.e];simp[kH],h.l⟩
theorem Rq (h:LJ es sp lg j k o)(k0:0<=k)(g:(fpg es (af lg j 0+k)).length=1):LJ es sp lg j (k+1) (o++[[.i (af lg j 0+k)]]):=
 ⟨h.ok,h.h,Km h.g g,by rw[uW k0, <-List.append_assoc,eg, <-h.e];rfl,h.l⟩
theorem Rs (h:LJ es sp lg j k o)(j0:0<=j)(n0:0<=af lg j 1)(n1:af lg j 1<=64)(k1:k<=af lg j 1)(k2:af lg j 1<=k):HV es sp lg (j+1) o:=by
 have l:=h.l;refine⟨aW h.ok (P9 h.h h.g k2 n0),?_,?_⟩
 ·rw[h.e,show k.toNat=(af lg j 1).toNat from by omega,List.append_assoc, <-lL j0]
 ·rw[lL j0,List.length_append,nN];omega
theorem UV (h:LJ es sp lg j k o)(k1:k<=64):o.length<=sp.length+64*j.toNat+64:=by
 have l:=h.l;rw[h.e,bV,List.length_append,List.length_append,kM,nN];omega
theorem Jd (h:HV es sp lg j o)(j1:j<=lg.length)(j2:(lg.length:Int)<=j):o=eM (uV sp lg):=by
 have e:=h.e;rw[show j.toNat=lg.length from by omega]at e;exact e
theorem K2 (hl:layOk sp lg=true){x:Int}(h:x∈uV sp lg):0<=x/\x<=31:=by
 have F:=Ot hl;unfold uV at h;rw[List.mem_append,kF,nD]at h;rcases h with⟨i,i1,e⟩|⟨j,j1,e1,e2⟩
 ·have t:=ig (F.s i i1);omega
 ·have t:=hY (F.l j j1);have b:=gJ t.1;omega
theorem Rr (hl:layOk sp lg=true)(h:HV es sp lg j o)(j1:j<=lg.length)(j2:(lg.length:Int)<=j)(hs:sp.length<=1073741824)(hg:lg.length<=1073741824):Rw [tI] o:=by
 have l:=h.l;rw[Jd h j1 j2];refine pm (fun x hx=>by have:=K2 hl hx;omega) ?_;unfold uV;rw[List.length_append,kM];rw[show j.toNat=lg.length from by omega]at l;omega
theorem UX (h:HV es sp lg j o)(j1:j<=lg.length)(j2:(lg.length:Int)<=j)(i0:0<=i)(i1:i<o.length)(g:(es.length:Int)<=af o i 0):GM es sp lg=false:=by
 have e:=Jd h j1 j2;rw[e]at i1 g;obtain⟨v,q1,q2⟩:=yJ i0 i1;rw[q2]at g;exact QT (List.mem_of_getElem? q1) g
theorem UZ (h:HV es sp lg j o)(j1:j<=lg.length)(j2:(lg.length:Int)<=j)(g:upto (fun t=>decide (af o t 0<es.length)) i)(i2:(o.length:Int)<=i):GM es sp lg=true:=by
 have e:=Jd h j1 j2;refine decide_eq_true (fun p hp=>?_);obtain⟨n,n1,rfl⟩:=List.mem_iff_getElem.1 hp;have n2:n<o.length:=by rw[e,bV];exact n1
 have q:=g n (by omega) (by omega);rw[decide_eq_true_eq,e,pk n1]at q;exact q
theorem UY (h:HV es sp lg j o)(j1:j<=lg.length)(j2:(lg.length:Int)<=j)(p:Int):hasB o p=ownB sp lg p:=by
 refine eh ?_;rw[Jd h j1 j2,kC];unfold ownB;rw[decide_eq_true_eq]
theorem Qx (k0:0<=k)(k1:k<(fpg es (af sp i 0)).length)(h:spI sp (af (fpg es (af sp i 0)) k 0)≠i)(g:spI sp (af (fpg es (af sp i 0)) k 0)<0):msA es sp i=false:=by
 unfold msA;exact bK k0 k1 (by unfold Gd;rw[decide_eq_false h,decide_eq_false (by omega)];rfl)
theorem Qy (k0:0<=k)(k1:k<(fpg es (af sp i 0)).length)(h:spI sp (af (fpg es (af sp i 0)) k 0)≠i)(g:uM sp i (spI sp (af (fpg es (af sp i 0)) k 0))=false):msA es sp i=false:=by
 unfold msA;exact bK k0 k1 (by unfold Gd;rw[decide_eq_false h,g];simp)
theorem Qp (h:spI sp (af (fpg es (af sp i 0)) k 0)=i):Gd es sp i k=true:=by unfold Gd;rw[decide_eq_true h];rfl
theorem Qq (h:0<=spI sp (af (fpg es (af sp i 0)) k 0))(g:uM sp i (spI sp (af (fpg es (af sp i 0)) k 0))=true):Gd es sp i k=true:=by unfold Gd;rw[decide_eq_true h,g];simp
theorem R0 {p:Int}(h:0<=spI sp p):spI sp p<sp.length:=by
 obtain⟨b,_⟩:=iP h;exact b
theorem Ba {a b:Int}:bH .and .i64 a b=bH .and .i64 b a:=by
 show IntKind.wrap .i64 ((BitVec.ofInt _ a&&&BitVec.ofInt _ b).toNat)=IntKind.wrap .i64 ((BitVec.ofInt _ b&&&BitVec.ofInt _ a).toNat);rw[BitVec.and_comm]
theorem Gu :uM sp i j=uM sp j i:=by
 refine eh ?_;unfold uM mshB;simp only[Bool.and_eq_true,decide_eq_true_eq];rw[Ba (a:=af sp i 2)]
 constructor
 ·rintro⟨a,b,c,d,e⟩;exact⟨b,a,c.symm,fun h=>d h.symm,e⟩
 ·rintro⟨a,b,c,d,e⟩;exact⟨b,a,c.symm,fun h=>d h.symm,e⟩
theorem yD {es:aa}{f:Int}:∀ {n:Nat} {x:Int},hasB (vL es f n) x=true↔∃ k:Nat,k<n/\x=k/\af es k 0≠0/\af es k 1=f
 |0,x=>⟨fun h=>absurd (xi.1 h) (List.not_mem_nil),fun⟨k,h,_⟩=>absurd h (Nat.not_lt_zero _)⟩
 | n+1,x=>by
   by_cases c:af es n 0≠0/\af es n 1=f
   ·rw[Dh c.1 c.2,IH,Bool.or_eq_true,yD,II]
    constructor
    ·rintro(⟨k,h,e⟩|e)
     ·exact⟨k,by omega,e⟩
     ·exact⟨n,by omega,e.symm,c⟩
    ·rintro⟨k,h,e,q⟩;by_cases d:k=n
     ·subst d;exact .inr e.symm
     ·exact .inl ⟨k,by omega,e,q⟩
   ·have c':af es n 0=0\/af es n 1≠f:=by
     by_cases z:af es n 0=0
     ·exact .inl z
     ·exact .inr (fun e=>c ⟨z,e⟩)
    rw[G4 c',yD]
    constructor
    ·rintro⟨k,h,e⟩;exact⟨k,by omega,e⟩
    ·rintro⟨k,h,e,q⟩;by_cases d:k=n
     ·subst d;exact absurd q c
     ·exact⟨k,by omega,e,q⟩
theorem rZ {p x:Int}:hasB (fpg es p) x=true↔peM es p≠0/\0<=x/\x<es.length/\peM es x≠0/\peF es x=peF es p:=by
 by_cases c:peM es p=0
 ·rw[Fo c];exact⟨fun h=>absurd (xi.1 h) (List.not_mem_nil),fun h=>absurd c h.1⟩
 ·rw[CE c];unfold pagesOn;rw[yD]
  constructor
  ·rintro⟨k,h,rfl,q1,q2⟩;refine⟨c,by omega,by omega,?_,?_⟩
   ·unfold peM;rw[if_pos (by omega)];exact q1
   ·rw[show peF es k=af es k 1 from by unfold peF;rw[if_pos (by omega)]];exact q2
  ·rintro⟨_,h0,h1,q1,q2⟩;refine⟨x.toNat,by omega,by omega,?_,?_⟩
   ·rw[Int.toNat_of_nonneg h0];unfold peM at q1;rw[if_pos (by omega)]at q1;exact q1
   ·rw[Int.toNat_of_nonneg h0];unfold peF at q2;rw[if_pos (c:=0<=x/\x<_) (by omega)]at q2;rw[q2];rfl
theorem yk {l:aa}{x:Int}:hasB l x=true↔∃ k:Nat,k<l.length/\af l k 0=x:=CF
theorem G5 (hl:layOk sp lg=true):pgI es fr sp lg=(pgS es fr sp lg&&smS es sp):=by
 have F:=Ot hl;unfold pgI pgS;by_cases h1:ca (sv sp) sp.length=true
 case neg=>rw[Bool.not_eq_true]at h1;rw[h1];rfl
 by_cases h2:ca (yt es lg) lg.length=true
 case neg=>rw[Bool.not_eq_true]at h2;rw[h2];simp
 by_cases h3:ca (wS es fr sp lg) es.length=true
 case neg=>rw[Bool.not_eq_true]at h3;rw[h3];simp
 by_cases h4:GM es sp lg=true
 case neg=>rw[Bool.not_eq_true]at h4;rw[h4];simp
 rw[h1,h2,h3,h4];simp only[Bool.true_and];have h4':=of_decide_eq_true h4;have mp:∀ q:Int,0<=q->q<es.length->(peM es q≠0↔q∈uV sp lg):=by
  intro q q0 q1;have e:=dn.1 h3 q q0 q1;unfold wS at e;simp only[Bool.and_eq_true,beq_iff_eq]at e;have e:=e.1;unfold mapB ownB at e
  constructor
  ·intro h;rw[decide_eq_true h]at e;exact of_decide_eq_true e.symm
  ·intro h;rw[decide_eq_true h]at e;exact of_decide_eq_true e
 have spg:∀ n:Nat,n<sp.length->af sp n 0∈uV sp lg:=fun n hn=>List.mem_append.2 (.inl (kF.2 ⟨n,hn,rfl⟩))
 have spm:∀ n:Nat,n<sp.length->0<=af sp n 0/\af sp n 0<es.length/\peM es (af sp n 0)≠0:=by
  intro n hn;have b:=K2 hl (spg n hn);have c:=h4' _ (spg n hn);exact⟨b.1,c,(mp _ b.1 c).2 (spg n hn)⟩
 have sat:∀ n:Nat,n<sp.length->spI sp (af sp n 0)=n:=by
  intro n hn;have q:=nh (p:=isSp sp (af sp n 0)) hn (CB rfl);obtain⟨q1,q2⟩:=iP q;obtain⟨m,e⟩:=Int.eq_ofNat_of_zero_le q;have e':spI sp (af sp n 0)=m:=e;rw[e]at q1 q2;have:=F.ss m n (by omega) hn (of_decide_eq_true q2);rw[e',this]
 refine eh ?_;unfold smS;rw[dn,dn]
 constructor
 ·intro h i i0 i1;unfold msA;rw[dn];intro k k0 k1;obtain⟨ii,rfl⟩:=Int.eq_ofNat_of_zero_le i0;obtain⟨kk,rfl⟩:=Int.eq_ofNat_of_zero_le k0;have hx:hasB (fpg es (af sp ii 0)) (af (fpg es (af sp ii 0)) kk 0)=true:=yk.2 ⟨kk,by omega,rfl⟩;generalize hX:af (fpg es (af sp ii 0)) kk 0=x at hx;obtain⟨c1,c2,c3,c4,c5⟩:=rZ.1 hx;have hp:=(mp x c2 c3).1 c4;unfold uV at hp;rw[List.mem_append,kF,nD]at hp;unfold Gd;rw[hX];rcases hp with⟨n,n1,rfl⟩|⟨j,j1,e1,e2⟩
  ·rw[sat n n1];rcases Nat.lt_trichotomy n ii with c|c|c
   ·have q:=dn.1 (h ii (by omega) i1) n (by omega) (by omega);unfold EC at q;rw[c5,decide_eq_true rfl]at q;rw[show uM sp ii n=true from by simpa using q,decide_eq_true (p:=(0:Int)<=n) (by omega)];simp
   ·rw[c,decide_eq_true rfl];rfl
   ·have q:=dn.1 (h n (by omega) (by omega)) ii (by omega) (by omega);unfold EC at q;rw[c5,decide_eq_true rfl]at q;have q':uM sp n ii=true:=by simpa using q
    rw[Gu,q',decide_eq_true (p:=(0:Int)<=n) (by omega)];simp
  ·exfalso;have t:=hY (F.l j j1);have b:=gJ t.1;have q:=dX h2 j j1;unfold yt at q;simp only[Bool.and_eq_true]at q;have q2:=dn.1 q.2 (x-af lg j 0) (by omega) (by omega);rw[show af lg j 0+(x-af lg j 0)=x from by omega]at q2;have q3:=of_decide_eq_true q2;have s1:=spm ii (by omega);have a1:hasB (fpg es x) x=true:=rZ.2 ⟨c4,c2,c3,c4,rfl⟩;have a2:hasB (fpg es x) (af sp ii 0)=true:=rZ.2 ⟨c4,s1.1,s1.2.1,s1.2.2,c5.symm⟩;obtain⟨u,u1,u2⟩:=yk.1 a1;obtain⟨v,v1,v2⟩:=yk.1 a2;have:u=v:=by omega
   subst this;rw[u2]at v2;exact F.sl ii j (by omega) j1 (by omega) (by omega)
 ·intro h i i0 i1;unfold HZ;rw[dn];intro j j0 j1;obtain⟨ii,rfl⟩:=Int.eq_ofNat_of_zero_le i0;obtain⟨jj,rfl⟩:=Int.eq_ofNat_of_zero_le j0;unfold EC;by_cases c:peF es (af sp ii 0)=peF es (af sp jj 0)
  case neg=>rw[decide_eq_false c];rfl
  have s1:=spm ii (by omega);have s2:=spm jj (by omega);have a:hasB (fpg es (af sp ii 0)) (af sp jj 0)=true:=rZ.2 ⟨s1.2.2,s2.1,s2.2.1,s2.2.2,c.symm⟩;obtain⟨k,k1,k2⟩:=yk.1 a;have q:=h ii (by omega) i1;unfold msA at q;have q:=dX q k k1;unfold Gd at q;rw[k2,sat jj (by omega),decide_eq_false (p:=(jj:Int)=ii) (by omega)]at q;simp only[Bool.false_or,Bool.and_eq_true]at q;rw[q.2,Bool.or_true]
end
end Go.V
namespace Go.V
def jobZ (k m:Int)(cs:aa)(ph nx:Int):Bool:=decide (ph=0)&&(decide (nx=0)&&(decide (k=0)&&(decide (m=0)&&decide (cs.length=0))))
def uD (sp:aa)(me:Bool)(k m:Int)(cs:aa)(ph nx:Int):Bool:=
 bif me then(jbOk k m cs ph nx&&(decide (0<=spI sp k)&&decide (0<=spI sp m)))else jobZ k m cs ph nx
def J6 (cs:aa)(i:Int):Bool:=caOk (ax cs i 0)
def hpI (a0 a1 a2:aa)(a3:Int)(a4 a5 a6 a7 a8 a9 aA aB:aa)(aC:Int)(aD:aa)(aE aF aG aH:Int)(aI:Bool)(aJ aK:Int)(aL:aa)(aM aN:Int):Bool:=
 kerOk a0 a1 a2 a3 a4&&(rgOk a2.length a5&&(layOk a6 a7&&(pgI a2 a5 a6 a7&&(mailOk aA aB&&(decide (a9.length=aA.length)&&(quarOk aC aD&&(ca (J6 a9) a9.length&&
  (objOk a6 a7 a8 a9 aH&&(hoI a6 a7 a8 a9 aA aB aD aF&&(inR aE 0 1073741823&&(inR aF 0 1000000&&(inR aG 0 1000&&(inR aH 1 1000000&&uD a6 aI aJ aK aL aM aN)))))))))))))
structure LB (a0 a1 a2 a4 a5 a6 a7 a8 a9 aA aB aD aL:aa):Prop where
 n:zq a6 a7 a8 a9 aA aB aD
 c:Rw [.sl [tI]] a0
 u:Rw [tB] a1
 e:Rw [tI,tI] a2
 el:a2.length<=1073741824
 r:Rw [tI] a4
 f:Rw [tI,tI] a5
 fl:a5.length<=1073741824
 j:Rw [tI] aL
 jl:aL.length<=1073741824
section
variable {a0 a1 a2 : aa} {a3 : Int} {a4 a5 a6 a7 a8 a9 aA aB : aa} {aC : Int} {aD : aa} {aE aF aG aH : Int} {aI : Bool} {aJ aK : Int} {aL : aa} {aM aN : Int} {i : Int}
theorem Py (h:kerOk a0 a1 a2 a3 a4=false):hpI a0 a1 a2 a3 a4 a5 a6 a7 a8 a9 aA aB aC aD aE aF aG aH aI aJ aK aL aM aN=false:=by unfold hpI;rw[h];simp
theorem PG (h:rgOk a2.length a5=false):hpI a0 a1 a2 a3 a4 a5 a6 a7 a8 a9 aA aB aC aD aE aF aG aH aI aJ aK aL aM aN=false:=by unfold hpI;rw[h];simp
theorem Pz (h:layOk a6 a7=false):hpI a0 a1 a2 a3 a4 a5 a6 a7 a8 a9 aA aB aC aD aE aF aG aH aI aJ aK aL aM aN=false:=by unfold hpI;rw[h];simp
theorem Mw (h:pgI a2 a5 a6 a7=false):hpI a0 a1 a2 a3 a4 a5 a6 a7 a8 a9 aA aB aC aD aE aF aG aH aI aJ aK aL aM aN=false:=by unfold hpI;rw[h];simp
theorem PC (h:mailOk aA aB=false):hpI a0 a1 a2 a3 a4 a5 a6 a7 a8 a9 aA aB aC aD aE aF aG aH aI aJ aK aL aM aN=false:=by unfold hpI;rw[h];simp
theorem Ul (h:decide (a9.length=aA.length)=false):hpI a0 a1 a2 a3 a4 a5 a6 a7 a8 a9 aA aB aC aD aE aF aG aH aI aJ aK aL aM aN=false:=by unfold hpI;rw[h];simp
theorem PF (h:quarOk aC aD=false):hpI a0 a1 a2 a3 a4 a5 a6 a7 a8 a9 aA aB aC aD aE aF aG aH aI aJ aK aL aM aN=false:=by unfold hpI;rw[h];simp
theorem Uk (h:ca (J6 a9) a9.length=false):hpI a0 a1 a2 a3 a4 a5 a6 a7 a8 a9 aA aB aC aD aE aF aG aH aI aJ aK aL aM aN=false:=by unfold hpI;rw[h];simp
theorem Mv (h:objOk a6 a7 a8 a9 aH=false):hpI a0 a1 a2 a3 a4 a5 a6 a7 a8 a9 aA aB aC aD aE aF aG aH aI aJ aK aL aM aN=false:=by unfold hpI;rw[h];simp
theorem Mu (h:hoI a6 a7 a8 a9 aA aB aD aF=false):hpI a0 a1 a2 a3 a4 a5 a6 a7 a8 a9 aA aB aC aD aE aF aG aH aI aJ aK aL aM aN=false:=by unfold hpI;rw[h];simp
theorem PH (h:inR aE 0 1073741823=false):hpI a0 a1 a2 a3 a4 a5 a6 a7 a8 a9 aA aB aC aD aE aF aG aH aI aJ aK aL aM aN=false:=by unfold hpI;rw[h];simp
theorem PL (h:inR aF 0 1000000=false):hpI a0 a1 a2 a3 a4 a5 a6 a7 a8 a9 aA aB aC aD aE aF aG aH aI aJ aK aL aM aN=false:=by unfold hpI;rw[h];simp
theorem PM (h:inR aG 0 1000=false):hpI a0 a1 a2 a3 a4 a5 a6 a7 a8 a9 aA aB aC aD aE aF aG aH aI aJ aK aL aM aN=false:=by unfold hpI;rw[h];simp
theorem PN (h:inR aH 1 1000000=false):hpI a0 a1 a2 a3 a4 a5 a6 a7 a8 a9 aA aB aC aD aE aF aG aH aI aJ aK aL aM aN=false:=by unfold hpI;rw[h];simp
theorem Kv (h:(a9.length:Int)≠aA.length):hpI a0 a1 a2 a3 a4 a5 a6 a7 a8 a9 aA aB aC aD aE aF aG aH aI aJ aK aL aM aN=false:=Ul (decide_eq_false (by omega))
theorem Ku (i0:0<=i)(i1:i<a9.length)(h:caOk (ax a9 i 0)=false):hpI a0 a1 a2 a3 a4 a5 a6 a7 a8 a9 aA aB aC aD aE aF aG aH aI aJ aK aL aM aN=false:=Uk (bK i0 i1 h)
theorem FC (hk:kerOk a0 a1 a2 a3 a4=true)(hr:rgOk a2.length a5=true)(hl:layOk a6 a7=true)(hp:pgI a2 a5 a6 a7=true)(hm:mailOk aA aB=true)(hn:decide (a9.length=aA.length)=true)(hq:quarOk aC aD=true)(hc:ca (J6 a9) a9.length=true)(ho:objOk a6 a7 a8 a9 aH=true)(hh:hoI a6 a7 a8 a9 aA aB aD aF=true)(hs:inR aE 0 1073741823=true)(ht:inR aF 0 1000000=true)(hw:inR aG 0 1000=true)(hx:inR aH 1 1000000=true):hpI a0 a1 a2 a3 a4 a5 a6 a7 a8 a9 aA aB aC aD aE aF aG aH aI aJ aK aL aM aN=uD a6 aI aJ aK aL aM aN:=by unfold hpI;rw[hk,hr,hl,hp,hm,hn,hq,hc,ho,hh,hs,ht,hw,hx];rfl
structure WX (a0 a1 a2:aa)(a3:Int)(a4 a5 a6 a7 a8 a9 aA aB:aa)(aC:Int)(aD:aa)(aE aF aG aH:Int)(aI:Bool)(aJ aK:Int)(aL:aa)(aM aN:Int):Prop where
 k:kerOk a0 a1 a2 a3 a4=true
 r:rgOk a2.length a5=true
 l:layOk a6 a7=true
 p:pgI a2 a5 a6 a7=true
 m:mailOk aA aB=true
 n:decide (a9.length=aA.length)=true
 q:quarOk aC aD=true
 c:ca (J6 a9) a9.length=true
 o:objOk a6 a7 a8 a9 aH=true
 h:hoI a6 a7 a8 a9 aA aB aD aF=true
 s:inR aE 0 1073741823=true
 t:inR aF 0 1000000=true
 w:inR aG 0 1000=true
 x:inR aH 1 1000000=true
 j:uD a6 aI aJ aK aL aM aN=true
theorem Ky (h:jbOk aJ aK aL aM aN=false):false=uD a6 true aJ aK aL aM aN:=by unfold uD;rw[h];rfl
theorem Kz (h:spI a6 aJ<0):false=uD a6 true aJ aK aL aM aN:=by unfold uD;rw[decide_eq_false (p:=0<=spI a6 aJ) (by omega)];simp
theorem KA (h:jbOk aJ aK aL aM aN=true)(g:0<=spI a6 aJ):cr .geq (spI a6 aK) 0=uD a6 true aJ aK aL aM aN:=by unfold uD;rw[h,decide_eq_true g];rfl
theorem R7 (h:ca (sA aD aF) aD.length=false)(hl:layOk a6 a7=true)(ho:objOk a6 a7 a8 a9 aH=true):hoI a6 a7 a8 a9 aA aB aD aF=false:=by rw[FA hl ho,h,Bool.and_false]
theorem PI (i0:0<=i)(i1:i<aD.length)(h:aF<af aD i 2)(hl:layOk a6 a7=true):hpI a0 a1 a2 a3 a4 a5 a6 a7 a8 a9 aA aB aC aD aE aF aG aH aI aJ aK aL aM aN=false:=by
 by_cases ho:objOk a6 a7 a8 a9 aH=true
 ·exact Mu (R7 (bK i0 i1 (by unfold sA;exact decide_eq_false (by omega))) hl ho)
 ·exact Mv (by simpa using ho)
theorem PE (hl:layOk a6 a7=true)(h:pgS a2 a5 a6 a7=false):hpI a0 a1 a2 a3 a4 a5 a6 a7 a8 a9 aA aB aC aD aE aF aG aH aI aJ aK aL aM aN=false:=Mw (by rw[G5 hl,h];rfl)
theorem PD (hl:layOk a6 a7=true)(h:smS a2 a6=false):hpI a0 a1 a2 a3 a4 a5 a6 a7 a8 a9 aA aB aC aD aE aF aG aH aI aJ aK aL aM aN=false:=Mw (by rw[G5 hl,h,Bool.and_false])
theorem Px (hl:layOk a6 a7=true)(ho:objOk a6 a7 a8 a9 aH=true)(h:hoS a6 a7 a8 a9 aA aB aD=false):hpI a0 a1 a2 a3 a4 a5 a6 a7 a8 a9 aA aB aC aD aE aF aG aH aI aJ aK aL aM aN=false:=Mu (by rw[FA hl ho,h];rfl)
theorem UL (hl:layOk a6 a7=true)(h:pgS a2 a5 a6 a7=true)(g:smS a2 a6=true):pgI a2 a5 a6 a7=true:=by rw[G5 hl,h,g];rfl
theorem Ui (hl:layOk a6 a7=true)(ho:objOk a6 a7 a8 a9 aH=true)(h:hoS a6 a7 a8 a9 aA aB aD=true)(i2:(aD.length:Int)<=i)(g:upto (sA aD aF) i):hoI a6 a7 a8 a9 aA aB aD aF=true:=by rw[FA hl ho,h,bp g i2];rfl
theorem Vh (h:af aD i 2<=aF):sA aD aF i=true:=decide_eq_true h
end
end Go.V
namespace Go.V
structure Wh (os:aa):Prop where
 w:Rw [tI,tI,tI,tI] os
 l:os.length<=1099511627776
 b:∀ i:Int,0<=i->i<os.length->0<=af os i 1/\af os i 1<=2000/\1<=af os i 2/\af os i 2<=1000
end Go.V
namespace Go.V
end Go.V
namespace Go.V
end Go.V
namespace Go.V
end Go.V
namespace Go.V
end Go.V
namespace Go.V
structure Xe (es fr sp lg:aa):Prop where
 l:∀ j:Nat,j<lg.length->∀ q:Int,af lg j 0<=q->q<af lg j 0+af lg j 1->(fpg es q).length=1
 m:∀ q:Int,0<=q->q<es.length->(peM es q≠0↔q∈uV sp lg)
 o:∀ q∈uV sp lg,q<es.length
 c:∀ i j:Nat,i<sp.length->j<sp.length->peF es (af sp i 0)=peF es (af sp j 0)->af sp i 1=af sp j 1
end Go.V
namespace Go.V
def V0 (sp lg fl:aa):Nat->Int
 |0=>0
 |n+1=>V0 sp lg fl n+clsSz (af sp (dnI sp lg (af fl n 0)) 1)
def WH (s:Int):Int:=if 0<=clsOf s then clsSz (clsOf s)else s
def VV (os:aa):Nat->Int
 |0=>0
 |n+1=>VV os n+WH (af os n 2)
end Go.V
namespace Go.V
theorem J7 {k:Int}(h:inR k 0 3=true):clsSz k=1\/clsSz k=2\/clsSz k=4\/clsSz k=8:=by
 have:=bE.1 h;unfold clsSz;repeat' split<;>omega
end Go.V
namespace Go.V
def Wm (cs es:aa)(a:Int):Int:=af (ax cs (peF es (a/16)) 0) (a%16) 0
def VF (cs es:aa)(a:Int):Nat->aa
 |0=>[]
 |n+1=>VF cs es a n++[[.i (Wm cs es (a+n))]]
structure WT (cs es:aa)(a i:Int)(o:aa):Prop where
 e:o=VF cs es a i.toNat
structure Xc (cs es os:aa):Prop where
 b:Wh os
 f:∀ j:Int,0<=j->j<os.length->∀ i:Int,0<=i->i<af os j 2->0<=peF es ((af os j 1+i)/16)/\peF es ((af os j 1+i)/16)<cs.length/\(ax cs (peF es ((af os j 1+i)/16)) 0).length=16
end Go.V
namespace Go.V
end Go.V
namespace Go.V
def wC (k b:Int):Nat->aa
 |0=>[]
 |n+1=>if hsB b ((n:Int)/clsSz k)=true then wC k b n++[[.i n]]else wC k b n
def sclL (p k b:Int):aa:=if spOk p k b=true then wC k b 16 else[]
theorem nS {k b:Int}:∀ n:Nat,(wC k b n).length<=n
 |0=>Nat.le_refl _
 | n+1=>by
   have:=nS (k:=k) (b:=b) n;unfold wC;split
   ·rw[List.length_append];show _+1<=_;omega
   ·omega
theorem Az {p k b:Int}:(sclL p k b).length<=16:=by unfold sclL;split;exact nS 16;exact Nat.zero_le _
structure qh (k b i:Int)(o:aa):Prop where
 e:o=wC k b i.toNat
theorem Hm {k b:Int}:qh k b 0 []:=⟨rfl⟩
theorem AA {k b i:Int}{o:aa}(h:qh k b i o)(i0:0<=i)(g:hsB b (i/clsSz k)=true):qh k b (i+1) (o++[[.i i]]):=⟨by
 rw[h.e,show(i+1).toNat=i.toNat+1 by omega,wC,Int.toNat_of_nonneg i0,if_pos g]⟩
theorem DD {k b i:Int}{o:aa}(h:qh k b i o)(i0:0<=i)(g:hsB b (i/clsSz k)=false):qh k b (i+1) o:=⟨by
 rw[h.e,show(i+1).toNat=i.toNat+1 by omega,wC,Int.toNat_of_nonneg i0,g];rfl⟩
theorem Ld {p k b:Int}(h:spOk p k b=false):sclL p k b=[]:=by unfold sclL;rw[h];rfl
theorem Dy {p k b i:Int}{o:aa}(h:qh k b i o)(s:spOk p k b=true)(i0:i<=16)(i1:16<=i):o=sclL p k b:=by
 have:i=16:=by omega
 subst this;rw[h.e];unfold sclL;rw[if_pos s];rfl
def Vi (sp:aa):Nat->Int
 |0=>0
 |n+1=>Vi sp n+(sclL (af sp n 0) (af sp n 1) (af sp n 2)).length
def VO (lg:aa):Nat->Int
 |0=>0
 |n+1=>VO lg n+af lg n 2
def L0 (ls:aa):Nat->Int
 |0=>0
 |n+1=>L0 ls n+(ax ls n 0).length*clsSz n
end Go.V
namespace Go.V
structure Tq (f:Int->Bool)(o:aa):Prop where
 w:Rw [tB] o
 l:o.length=16
 v:∀ c:Int,0<=c->c<16->ma o c 0=f c
def WF (f:Int->Bool)(x:aa)(i c:Int):Bool:=f c||hasB (x.take i.toNat) c
def WG (f g:Int->Bool)(i c:Int):Bool:=f c||(decide (c<i)&&g c)
def TD (es sp:aa)(p:Int):Nat->Int->Bool
 |0,_=>false
 |n+1,c=>TD es sp p n c||(hasB (fpg es p) (af sp n 0)&&hasB (sclL (af sp n 0) (af sp n 1) (af sp n 2)) c)
def UE (es sp lg:aa)(p:Int):Nat->Int->Bool
 |0,c=>TD es sp p sp.length c
 |n+1,c=>UE es sp lg p n c||lhB (af lg n 0) (af lg n 1) (af lg n 2) (p*16+c)
end Go.V
namespace Go.V
def Wl (ls:aa):Int:=if caOk ls=true then L0 ls ls.length else 0
structure V9 (ls:aa)(i t:Int):Prop where
 e:t=L0 ls i.toNat
def VD (cs:aa):Nat->Int
 |0=>0
 |n+1=>VD cs n+Wl (ax cs n 0)
structure WR (cs:aa)(i t:Int):Prop where
 e:t=VD cs i.toNat
structure Xd (os:aa)(i t:Int):Prop where
 e:t=VV os i.toNat
structure Xf (sp lg fl:aa)(i t:Int):Prop where
 e:t=V0 sp lg fl i.toNat
theorem Dz {k b i:Int}{o:aa}(h:qh k b i o)(i0:0<=i):(o.length:Int)<=i:=by
 rw[h.e];have:=nS (k:=k) (b:=b) i.toNat;omega
theorem DC {p k b i:Int}{o:aa}(h:qh k b i o)(g:i=0\/spOk p k b=true)(i1:i<=16)(x:16<=i\/spOk p k b=false):o=sclL p k b:=by
 cases c:spOk p k b with
 | true=>
   rcases x with x|x
   ·exact Dy h c i1 x
   ·rw[c]at x;cases x
 | false=>
   rcases g with rfl|g
   ·rw[Ld c];exact h.e
   ·rw[c]at g;cases g
structure Wj (sp:aa)(i t:Int):Prop where
 e:t=Vi sp i.toNat
structure Wd (sp lg:aa)(i t:Int):Prop where
 e:t=Vi sp sp.length+VO lg i.toNat
def ifZ (b:Bool)(x:Int):Int:=if b=true then x else 0
def WQ (es:aa):Int:=es.length
end Go.V
namespace Go.V
section
variable {cs es fr sp lg : aa} {p k : Int} (hl : layOk sp lg = true) (hp : pgI es fr sp lg = true) (hm : peM es p ≠ 0) (k0 : 0 <= k) (k1 : k < 16)
include hl hp hm k0 k1
end
structure W7 (es sp:aa)(p i:Int)(o:aa):Prop where
 m:Tq (TD es sp p i.toNat) o
structure W2 (es sp:aa)(p i j:Int)(o:aa):Prop where
 m:Tq (WF (TD es sp p i.toNat) (sclL (af sp i 0) (af sp i 1) (af sp i 2)) j) o
structure W6 (es sp lg:aa)(p i:Int)(o:aa):Prop where
 m:Tq (UE es sp lg p i.toNat) o
structure W5 (es sp lg:aa)(p i j:Int)(o:aa):Prop where
 m:Tq (WG (UE es sp lg p i.toNat) (fun c=>lhB (af lg i 0) (af lg i 1) (af lg i 2) (p*16+c)) j) o
theorem KY {l:aa}{i:Int}(h:Rw [tB] l)(h0:0<=i)(h1:i<l.length):∃ rec o,bL (L.s 1 l) [(i.toNat,0)]=some (rec,o)/\o+[L.v (Value.bool false)].length<=rec.length/\List.take [L.v (Value.bool false)].length (List.drop o rec)=hK ai (L.s 1 l) [(i.toNat,0)] 0 [L.v (Value.bool false)]:=
 ku (z0:=[.v (.bool false)]) (z:=[.v (.bool false)]) h.wf (by omega) rfl (by decide)
theorem Ns {l:aa}{i:Int}(h0:0<=i):KZ (.s 1 l) [(i.toNat,0)]=ma l i 0:=by
 rw[GY];unfold ma;rw[Int.toNat_natCast]
theorem yL {k b:Int}:∀ n:Nat,n<=16->Rw [tI] (wC k b n)
 |0,_=>Rw.nil
 | n+1,h=>by
   have l:=nS (k:=k) (b:=b) n;unfold wC;split
   ·exact Rw.append (yL n (by omega)) (RD (by omega)) (by unfold maxLen;simp only[List.length_cons,List.length_nil];omega)
   ·exact yL n (by omega)
theorem Dx {p k b:Int}:Rw [tI] (sclL p k b):=by unfold sclL;split;exact yL 16 (Nat.le_refl _);exact Rw.nil
end Go.V
namespace Go.V
section
variable {r0 r1 r2 r3 r4 r5 r6 r7 r8 r9 r10 r11 r12 : aa}
theorem zJ {n:Nat}(h:aw [r0,r1,r2,r3,r4,r5,r6,r7,r8,r9,r10,r11,r12]<=n):ag r0<=n/\ag r1<=n/\ag r2<=n/\ag r3<=n/\ag r4<=n/\ag r5<=n/\ag r6<=n/\ag r7<=n/\ag r8<=n/\ag r9<=n/\ag r10<=n/\ag r11<=n/\ag r12<=n:=⟨dC h (by simp),dC h (by simp),dC h (by simp),dC h (by simp),dC h (by simp),dC h (by simp),dC h (by simp),dC h (by simp),dC h (by simp),dC h (by simp),dC h (by simp),dC h (by simp),dC h (by simp)⟩
theorem Gl (h0:Rw [.sl [tI]] r0)(h1:Rw [tB] r1)(h2:Rw [tI,tI] r2)(h3:Rw [tI] r3)(h4:Rw [tI,tI] r4)(h5:Rw [tI,tI,tI] r5)(h6:Rw [tI,tI,tI] r6)(h7:Rw [tI,tI,tI,tI] r7)(h8:Rw [.sl [.sl [tI]]] r8)(h9:Rw [.sl [tI,tI]] r9)(h10:Rw [.sl [tI]] r10)(h11:Rw [tI,tI,tI] r11)(h12:Rw [tI] r12)(hc:aw [r0,r1,r2,r3,r4,r5,r6,r7,r8,r9,r10,r11,r12]<=1099511627776):am [r0,r1,r2,r3,r4,r5,r6,r7,r8,r9,r10,r11,r12] 1<=1152921504606846976:=Ge (by intro r hr;simp only[List.mem_cons,List.not_mem_nil,or_false]at hr;rcases hr with rfl|rfl|rfl|rfl|rfl|rfl|rfl|rfl|rfl|rfl|rfl|rfl|rfl;exact h0.marks (by decide);exact h1.marks (by decide);exact h2.marks (by decide);exact h3.marks (by decide);exact h4.marks (by decide);exact h5.marks (by decide);exact h6.marks (by decide);exact h7.marks (by decide);exact h8.marks (by decide);exact h9.marks (by decide);exact h10.marks (by decide);exact h11.marks (by decide);exact h12.marks (by decide)) hc
theorem Qs (h0:Rw [.sl [tI]] r0)(h1:Rw [tB] r1)(h2:Rw [tI,tI] r2)(h3:Rw [tI] r3)(h4:Rw [tI,tI] r4)(h5:Rw [tI,tI,tI] r5)(h6:Rw [tI,tI,tI] r6)(h7:Rw [tI,tI,tI,tI] r7)(h8:Rw [.sl [.sl [tI]]] r8)(h9:Rw [.sl [tI,tI]] r9)(h10:Rw [.sl [tI]] r10)(h11:Rw [tI,tI,tI] r11)(h12:Rw [tI] r12)(hc:aw [r0,r1,r2,r3,r4,r5,r6,r7,r8,r9,r10,r11,r12]<=1099511627776):am [r0,r1,r2,r3,r4,r5,r6,r7,r8,r9,r10,r11,r12] 1<=1152921504606846976/\(ao r1 (am [r0] 1)=ao r1 (am [ao r0 1] 1)/\ao r2 (am [r0,r1] 1)=ao r2 (am [ao r0 1,ao r1 (am [r0] 1)] 1)/\ao r3 (am [r0,r1,r2] 1)=ao r3 (am [ao r0 1,ao r1 (am [r0] 1),ao r2 (am [r0,r1] 1)] 1)/\ao r4 (am [r0,r1,r2,r3] 1)=ao r4 (am [ao r0 1,ao r1 (am [r0] 1),ao r2 (am [r0,r1] 1),ao r3 (am [r0,r1,r2] 1)] 1)/\ao r5 (am [r0,r1,r2,r3,r4] 1)=ao r5 (am [ao r0 1,ao r1 (am [r0] 1),ao r2 (am [r0,r1] 1),ao r3 (am [r0,r1,r2] 1),ao r4 (am [r0,r1,r2,r3] 1)] 1)/\ao r6 (am [r0,r1,r2,r3,r4,r5] 1)=ao r6 (am [ao r0 1,ao r1 (am [r0] 1),ao r2 (am [r0,r1] 1),ao r3 (am [r0,r1,r2] 1),ao r4 (am [r0,r1,r2,r3] 1),ao r5 (am [r0,r1,r2,r3,r4] 1)] 1)/\ao r7 (am [r0,r1,r2,r3,r4,r5,r6] 1)=ao r7 (am [ao r0 1,ao r1 (am [r0] 1),ao r2 (am [r0,r1] 1),ao r3 (am [r0,r1,r2] 1),ao r4 (am [r0,r1,r2,r3] 1),ao r5 (am [r0,r1,r2,r3,r4] 1),ao r6 (am [r0,r1,r2,r3,r4,r5] 1)] 1)/\ao r8 (am [r0,r1,r2,r3,r4,r5,r6,r7] 1)=ao r8 (am [ao r0 1,ao r1 (am [r0] 1),ao r2 (am [r0,r1] 1),ao r3 (am [r0,r1,r2] 1),ao r4 (am [r0,r1,r2,r3] 1),ao r5 (am [r0,r1,r2,r3,r4] 1),ao r6 (am [r0,r1,r2,r3,r4,r5] 1),ao r7 (am [r0,r1,r2,r3,r4,r5,r6] 1)] 1)/\ao r9 (am [r0,r1,r2,r3,r4,r5,r6,r7,r8] 1)=ao r9 (am [ao r0 1,ao r1 (am [r0] 1),ao r2 (am [r0,r1] 1),ao r3 (am [r0,r1,r2] 1),ao r4 (am [r0,r1,r2,r3] 1),ao r5 (am [r0,r1,r2,r3,r4] 1),ao r6 (am [r0,r1,r2,r3,r4,r5] 1),ao r7 (am [r0,r1,r2,r3,r4,r5,r6] 1),ao r8 (am [r0,r1,r2,r3,r4,r5,r6,r7] 1)] 1)/\ao r10 (am [r0,r1,r2,r3,r4,r5,r6,r7,r8,r9] 1)=ao r10 (am [ao r0 1,ao r1 (am [r0] 1),ao r2 (am [r0,r1] 1),ao r3 (am [r0,r1,r2] 1),ao r4 (am [r0,r1,r2,r3] 1),ao r5 (am [r0,r1,r2,r3,r4] 1),ao r6 (am [r0,r1,r2,r3,r4,r5] 1),ao r7 (am [r0,r1,r2,r3,r4,r5,r6] 1),ao r8 (am [r0,r1,r2,r3,r4,r5,r6,r7] 1),ao r9 (am [r0,r1,r2,r3,r4,r5,r6,r7,r8] 1)] 1)/\ao r11 (am [r0,r1,r2,r3,r4,r5,r6,r7,r8,r9,r10] 1)=ao r11 (am [ao r0 1,ao r1 (am [r0] 1),ao r2 (am [r0,r1] 1),ao r3 (am [r0,r1,r2] 1),ao r4 (am [r0,r1,r2,r3] 1),ao r5 (am [r0,r1,r2,r3,r4] 1),ao r6 (am [r0,r1,r2,r3,r4,r5] 1),ao r7 (am [r0,r1,r2,r3,r4,r5,r6] 1),ao r8 (am [r0,r1,r2,r3,r4,r5,r6,r7] 1),ao r9 (am [r0,r1,r2,r3,r4,r5,r6,r7,r8] 1),ao r10 (am [r0,r1,r2,r3,r4,r5,r6,r7,r8,r9] 1)] 1)/\ao r12 (am [r0,r1,r2,r3,r4,r5,r6,r7,r8,r9,r10,r11] 1)=ao r12 (am [ao r0 1,ao r1 (am [r0] 1),ao r2 (am [r0,r1] 1),ao r3 (am [r0,r1,r2] 1),ao r4 (am [r0,r1,r2,r3] 1),ao r5 (am [r0,r1,r2,r3,r4] 1),ao r6 (am [r0,r1,r2,r3,r4,r5] 1),ao r7 (am [r0,r1,r2,r3,r4,r5,r6] 1),ao r8 (am [r0,r1,r2,r3,r4,r5,r6,r7] 1),ao r9 (am [r0,r1,r2,r3,r4,r5,r6,r7,r8] 1),ao r10 (am [r0,r1,r2,r3,r4,r5,r6,r7,r8,r9] 1),ao r11 (am [r0,r1,r2,r3,r4,r5,r6,r7,r8,r9,r10] 1)] 1))/\am [ao r0 1,ao r1 (am [r0] 1),ao r2 (am [r0,r1] 1),ao r3 (am [r0,r1,r2] 1),ao r4 (am [r0,r1,r2,r3] 1),ao r5 (am [r0,r1,r2,r3,r4] 1),ao r6 (am [r0,r1,r2,r3,r4,r5] 1),ao r7 (am [r0,r1,r2,r3,r4,r5,r6] 1),ao r8 (am [r0,r1,r2,r3,r4,r5,r6,r7] 1),ao r9 (am [r0,r1,r2,r3,r4,r5,r6,r7,r8] 1),ao r10 (am [r0,r1,r2,r3,r4,r5,r6,r7,r8,r9] 1),ao r11 (am [r0,r1,r2,r3,r4,r5,r6,r7,r8,r9,r10] 1),ao r12 (am [r0,r1,r2,r3,r4,r5,r6,r7,r8,r9,r10,r11] 1)] 1=am [r0,r1,r2,r3,r4,r5,r6,r7,r8,r9,r10,r11,r12] 1/\(ag r0<=1099511627776/\ag r1<=1099511627776/\ag r2<=1099511627776/\ag r3<=1099511627776/\ag r4<=1099511627776/\ag r5<=1099511627776/\ag r6<=1099511627776/\ag r7<=1099511627776/\ag r8<=1099511627776/\ag r9<=1099511627776/\ag r10<=1099511627776/\ag r11<=1099511627776/\ag r12<=1099511627776):=
 ⟨Gl h0 h1 h2 h3 h4 h5 h6 h7 h8 h9 h10 h11 h12 hc,⟨congrArg _ (cT (rs:=[r0]) (k:=1) (k':=1)).symm,congrArg _ (cT (rs:=[r0,r1]) (k:=1) (k':=1)).symm,congrArg _ (cT (rs:=[r0,r1,r2]) (k:=1) (k':=1)).symm,congrArg _ (cT (rs:=[r0,r1,r2,r3]) (k:=1) (k':=1)).symm,congrArg _ (cT (rs:=[r0,r1,r2,r3,r4]) (k:=1) (k':=1)).symm,congrArg _ (cT (rs:=[r0,r1,r2,r3,r4,r5]) (k:=1) (k':=1)).symm,congrArg _ (cT (rs:=[r0,r1,r2,r3,r4,r5,r6]) (k:=1) (k':=1)).symm,congrArg _ (cT (rs:=[r0,r1,r2,r3,r4,r5,r6,r7]) (k:=1) (k':=1)).symm,congrArg _ (cT (rs:=[r0,r1,r2,r3,r4,r5,r6,r7,r8]) (k:=1) (k':=1)).symm,congrArg _ (cT (rs:=[r0,r1,r2,r3,r4,r5,r6,r7,r8,r9]) (k:=1) (k':=1)).symm,congrArg _ (cT (rs:=[r0,r1,r2,r3,r4,r5,r6,r7,r8,r9,r10]) (k:=1) (k':=1)).symm,congrArg _ (cT (rs:=[r0,r1,r2,r3,r4,r5,r6,r7,r8,r9,r10,r11]) (k:=1) (k':=1)).symm⟩,cT (rs:=[r0,r1,r2,r3,r4,r5,r6,r7,r8,r9,r10,r11,r12]) (k:=1) (k':=1),zJ hc⟩
end
end Go.V
namespace Go.V
def dlOk (b x:aa)(f:Int):Bool:=mailOk b x&&(inR f 0 (b.length-1)&&decide (0<(ax b f 0).length))
def l9 (b:aa)(f:Int):Int:=af (ax b f 0) 0 0
def dlB (b x:aa)(f:Int):aa:=if dlOk b x f=true then b.set f.toNat [.s 2 ((ax b f 0).drop 1)]else b
def dlI (b x:aa)(f:Int):aa:=if dlOk b x f=true then x.set (l9 b f).toNat [.s 1 (ax x (l9 b f) 0++[[.i (af (ax b f 0) 0 1)]])]else x
theorem Fe {b x:aa}{f:Int}(h:dlOk b x f=false):dlB b x f=b/\dlI b x f=x:=by
 unfold dlB dlI;rw[h];exact⟨rfl,rfl⟩
theorem L4 {b x:aa}{f:Int}(h:dlOk b x f=true):dlB b x f=b.set f.toNat [.s 2 ((ax b f 0).drop 1)]/\dlI b x f=x.set (l9 b f).toNat [.s 1 (ax x (l9 b f) 0++[[.i (af (ax b f 0) 0 1)]])]:=by
 unfold dlB dlI;rw[if_pos h,if_pos h];exact⟨rfl,rfl⟩
structure N9 (b x:aa)(f:Int):Prop where
 m:mailOk b x=true
 f0:0<=f
 f1:f<b.length
 n:0<(ax b f 0).length
 t0:0<=l9 b f
 t1:l9 b f<b.length
 l:x.length=b.length
theorem Fc {b x:aa}{f:Int}(h:dlOk b x f=true):N9 b x f:=by
 unfold dlOk at h;simp only[Bool.and_eq_true,decide_eq_true_eq]at h;obtain⟨h1,h2,h3⟩:=h;have r:=bE.1 h2;have m:=h1;unfold mailOk at m;simp only[Bool.and_eq_true,decide_eq_true_eq]at m;have p:=dn.1 m.2.2.1 f r.1 (by omega);unfold NB at p;simp only[Bool.and_eq_true]at p;have q:=dn.1 p.1 0 (Int.le_refl _) (by omega);unfold Df at q;simp only[Bool.and_eq_true]at q;have u:=bE.1 q.1;refine⟨h1,r.1,by omega,h3,?_,?_,m.2.1⟩
 ·unfold l9;exact u.1
 ·unfold l9;have:=u.2;omega
theorem zM {l:aa}{n:Nat}:ag (l.drop n)<=ag l:=by
 have h:=tZ (a:=l.take n) (b:=l.drop n);rw[List.take_append_drop]at h;omega
theorem OY {b x:aa}{f:Int}(hb:Rw [.sl [tI,tI]] b)(hx:Rw [.sl [tI]] x)(cb:ag b<=1048576)(cx:ag x<=1048576):Rw [.sl [tI,tI]] (dlB b x f)/\Rw [.sl [tI]] (dlI b x f)/\ag (dlB b x f)<=4194304/\ag (dlI b x f)<=4194304:=by
 cases h:dlOk b x f with
 |false=>rw[(Fe h).1,(Fe h).2];exact⟨hb,hx,by omega,by omega⟩
 | true=>
   have T:=Fc h;have T0:=T.f0;have T1:=T.f1;have T2:=T.t0;have T3:=T.t1;have T4:=T.l;have T5:=T.n;rw[(L4 h).1,(L4 h).2];have gb:=hN (es:=b) (i:=f) (j:=0);have gx:=hN (es:=x) (i:=l9 b f) (j:=0);have rb:=Rw.sub (fs:=[.sl [tI,tI]]) (j:=0) (i:=f) hb (by omega) rfl;have rx:=Rw.sub (fs:=[.sl [tI]]) (j:=0) (i:=l9 b f) hx (by omega) rfl;have lx:(ax x (l9 b f) 0).length<=ag (ax x (l9 b f) 0):=by unfold ag;omega
   have c:=pT (i:=0) (j:=1) rb rfl (by omega);have d:=zM (l:=ax b f 0) (n:=1);have r2:Rw [tI] (ax x (l9 b f) 0++[[.i (af (ax b f 0) 0 1)]]):=Rw.append rx (Rw.one ⟨⟨rfl,c⟩,trivial⟩) (by unfold maxLen;simp only[List.length_cons,List.length_nil];omega);refine⟨Rw.set hb (show bM [.sl [tI,tI]] [.s 2 ((ax b f 0).drop 1)]from⟨⟨rfl,Rw.drop rb 1⟩,trivial⟩) _,Rw.set hx (show bM [.sl [tI]] [.s 1 (ax x (l9 b f) 0++[[.i (af (ax b f 0) 0 1)]])]from⟨⟨rfl,r2⟩,trivial⟩) _,?_,?_⟩
   ·have s:=mW (es:=b) (n:=f.toNat) (e:=[.s 2 ((ax b f 0).drop 1)]);simp only[cz,dz]at s;unfold ag at d gb cb s ⊢;omega
   ·have s:=mW (es:=x) (n:=(l9 b f).toNat) (e:=[.s 1 (ax x (l9 b f) 0++[[.i (af (ax b f 0) 0 1)]])]);simp only[cz,dz]at s;have a:=tZ (a:=ax x (l9 b f) 0) (b:=[[.i (af (ax b f 0) 0 1)]]);have o:ag [[L.i (af (ax b f 0) 0 1)]]<=4:=by simp[ag,bz,cz,dz]
    unfold ag at a o gx cx s ⊢;omega
def dvB (k:Bool)(b x:aa)(f:Int):aa:=if k=true then dlB b x f else b
def dvI (k:Bool)(b x:aa)(f:Int):aa:=if k=true then dlI b x f else x
def dvK (k:Bool)(b x:aa)(f:Int):Bool:=k&&dlOk b x f
theorem O8 {k:Bool}{b x:aa}{f:Int}(hb:Rw [.sl [tI,tI]] b)(hx:Rw [.sl [tI]] x)(cb:ag b<=1048576)(cx:ag x<=1048576):Rw [.sl [tI,tI]] (dvB k b x f)/\Rw [.sl [tI]] (dvI k b x f)/\ag (dvB k b x f)<=4194304/\ag (dvI k b x f)<=4194304:=by
 unfold dvB dvI;split
 ·exact OY hb hx cb cx
 ·exact⟨hb,hx,by omega,by omega⟩
end Go.V
namespace Go.V
structure WY (cs us es:aa)(a:Int):Prop where
 a0:0<=a
 m:V4 cs us es a=peM es (a/16)
 f:WN cs us es a=peF es (a/16)
 n:V4 cs us es a≠0
section
variable {a0 a1 a2 : aa} {a3 : Int} {a4 a5 a6 a7 a8 a9 aA aB : aa} {aC : Int} {aD : aa} {aE aF aG aH : Int} {aI : Bool} {aJ aK : Int} {aL : aa} {aM aN : Int}
end
end Go.V
namespace Go.V
abbrev Pr :=Int×Int
def Wx (o:List Pr)(x:Pr):List Pr:=match o.getLast? with
 |some y=>if y.1+y.2=x.1 then o.dropLast++[(y.1,y.2+x.2)]else o++[x]
 |none=>o++[x]
structure Ip where
 o:List Pr
 r:Pr
 d:Bool
def VL (s:Ip)(x:Pr):Ip:=
 if x.1+x.2=s.r.1 then⟨s.o,(x.1,x.2+s.r.2),s.d⟩
 else if s.r.1+s.r.2=x.1 then⟨s.o,(s.r.1,s.r.2+x.2),s.d⟩
 else if s.r.1<x.1/\s.d=false then⟨s.o++[s.r,x],s.r,true⟩
 else⟨s.o++[x],s.r,s.d⟩
def Wv (s:Ip):List Pr:=if s.d then s.o else s.o++[s.r]
def Ww (l:List Pr)(r:Pr):List Pr:=Wv (l.foldl VL ⟨[],r,false⟩)
structure Sp where
 o:List Pr
 d:Bool
def WM (r:Pr)(s:Sp)(x:Pr):Sp:=if s.d=false/\r.1<x.1 then⟨s.o++[r]++[x],true⟩else⟨s.o++[x],s.d⟩
def VE :List Pr->Prop
 |[]=>True
 |[x]=>0<x.2
 |x::y::l=>0<x.2/\x.1+x.2<y.1/\VE (y::l)
end Go.V
namespace Go.V
structure OE (cs us es:aa):Prop where
 n0:1<=cs.length
 n1:cs.length<=32
 u:us.length=cs.length
 l:∀ i:Int,0<=i->i<cs.length->(ax cs i 0).length=16
 c:∀ i k:Int,0<=i->i<cs.length->0<=k->k<16->0<=af (ax cs i 0) k 0/\af (ax cs i 0) k 0<=999/\(ma us i 0=false->af (ax cs i 0) k 0=0)
 e0:1<=es.length
 e1:es.length<=32
 e:∀ i:Int,0<=i->i<es.length->0<=af es i 0/\af es i 0<=2/\(af es i 0=0->af es i 1=0)/\(0<af es i 0->0<=af es i 1/\af es i 1<cs.length)
 m:∀ i:Int,0<=i->i<cs.length->ma us i 0=nC es i
def Vx (es:aa)(p:Int):aa:=es.set p.toNat [.i 0,.i 0]
def Wo (us es:aa)(f:Int):aa:=if nC es f=true then us else us.set f.toNat [.v (.bool false)]
def Wn (cs es:aa)(f:Int):aa:=if nC es f=true then cs else cs.set f.toNat [.s 1 (kU 16 [.i 0])]
end Go.V
namespace Go.V
end Go.V
namespace Go.V
def Vw (e:ay):Pr:=(MU (e.getD 0 .g),MU (e.getD 1 .g))
def H1 (es:aa):List Pr:=es.map Vw
def Wt (p:Pr):ay:=[.i p.1,.i p.2]
def rowP (l:List Pr):aa:=l.map Wt
structure Xi (n:Int)(rs:aa):Prop where
 n0:1<=n
 n1:n<=32
 c:VE (H1 rs)
 b:∀ x∈H1 rs,0<=x.1/\1<=x.2/\x.1+x.2<=n
def QY (x r:Pr):Bool:=decide (x.1<r.1+r.2)&&decide (r.1<x.1+x.2)
def WJ (n:Int)(rs:aa)(a l:Int):Bool:=rgOk n rs&&(rngIn n a l&&(H1 rs).all fun x=> !QY x (a,l))
def WL (n:Int)(rs:aa)(a l:Int):aa:=if WJ n rs a l=true then rowP (Ww (H1 rs) (a,l))else rs
structure Xj (rs:aa)(a0 l0 i:Int)(o:aa)(a l:Int)(d:Bool):Prop where
 s:∃ o',o=rowP o'/\((H1 rs).take i.toNat).foldl VL ⟨[],(a0,l0),false⟩=⟨o',(a,l),d⟩
 n:∀ x∈(H1 rs).take i.toNat,QY x (a0,l0)=false
 v:∀ x∈(H1 rs).drop i.toNat,QY x (a,l)=QY x (a0,l0)
 b:0<=a/\1<=l/\a+l<=32
end Go.V
namespace Go.V
section
variable {n : Int} {rs : aa} {a0 l0 i : Int} {o : aa} {a l : Int} {d : Bool}
structure Wi (rs:aa)(a0 l0 i:Int)(o:aa)(d:Bool):Prop where
 s:∃ o',o=rowP o'/\((H1 rs).take i.toNat).foldl (WM (a0,l0)) ⟨[],false⟩=⟨o',d⟩
 n:∀ x∈(H1 rs).take i.toNat,QY x (a0,l0)=false
 m:o.length<=2*i.toNat
end
end Go.V
namespace Go.V
theorem Uz {o:aa}{n:Int}{j:Nat}(h:Rw [tI,tI] o)(n0:0<=n)(n1:n<o.length)(hj:j<2):∃ rec o',bL (L.s 2 o) [(n.toNat,j)]=some (rec,o')/\o'+[L.v (Value.int IntKind.i64 0)].length<=rec.length/\List.take [L.v (Value.int IntKind.i64 0)].length (List.drop o' rec)=hK ai (L.s 2 o) [(n.toNat,j)] 0 [L.v (Value.int IntKind.i64 0)]:=by
 rcases(show j=0\/j=1 by omega)with rfl|rfl
 ·exact ku (z0:=[.i 0,.i 0]) (z:=[.i 0]) h.wf (by omega) rfl (by decide)
 ·exact ku (z0:=[.i 0,.i 0]) (z:=[.i 0]) h.wf (by omega) rfl (by decide)
theorem nL {l:aa}{sz j:Nat}{i:Int}(h0:0<=i):EE (.s sz l) [(i.toNat,j)]=af l i j:=by
 rw[BN];unfold af;rw[Int.toNat_natCast]
structure Wc (rs:aa)(i:Int)(o:aa):Prop where
 s:o=rowP (((H1 rs).take i.toNat).foldl Wx [])
 l:o.length<=i.toNat
section
variable {rs o : aa} {i : Int}
end
end Go.V
namespace Go.V
def OK (rs:aa)(n:Int):Nat->Int
 |0=> -1
 |k+1=>if n<=af rs k 1/\(OK rs n k<0\/af rs k 1<af rs (OK rs n k) 1)then k else OK rs n k
def Oy (rs:aa)(n:Int):Int:=OK rs n rs.length
structure WS (rs:aa)(n i b:Int):Prop where
 e:b=OK rs n i.toNat
section
variable {rs : aa} {n i b : Int}
end
structure Xm (p:Int)(rs:aa)(n:Int):Prop where
 i0:0<=Oy rs n
 i1:Oy rs n<rs.length
 n0:1<=n
 a0:0<=af rs (Oy rs n) 0
 l0:n<=af rs (Oy rs n) 1
 e:af rs (Oy rs n) 0+af rs (Oy rs n) 1<=p
 p0:p<=32
end Go.V
namespace Go.V
def TZ (b:Int):Nat->aa
 |0=>[]
 |k+1=>if hsB b k=true then TZ b k else TZ b k++[[.i k]]
structure WW (b i:Int)(o:aa):Prop where
 e:o=TZ b i.toNat
end Go.V
namespace Go.V
end Go.V
namespace Go.V
def V2 :aa->Int->Nat
 |[],_=>0
 |e::l,r=>if qcI (e::l)<=r then 0 else V2 l r+1
structure Xg (l:aa)(r i:Int):Prop where
 e:i.toNat<=V2 l r
section
variable {l : aa} {r i : Int}
end
def V3 :aa->Int->Nat
 |[],_=>0
 |e::l,t=>if MU (e.getD 2 .g)<t then V3 l t+1 else 0
structure Xh (l:aa)(t i:Int):Prop where
 e:i.toNat<=V3 l t
section
variable {l : aa} {t i : Int}
end
end Go.V
namespace Go.V
def Wy (cs es:aa)(p:Int):aa:=if peM es p≠0 then Wn cs (Vx es p) (peF es p)else cs
def WA (us es:aa)(p:Int):aa:=if peM es p≠0 then Wo us (Vx es p) (peF es p)else us
def Wz (es:aa)(p:Int):aa:=if peM es p≠0 then Vx es p else es
end Go.V
namespace Go.V
structure pJ (a0 a1 a2 a4 a5 a6 a7 a8 a9 aA aB aD aL:aa):Prop where
 r0:Rw [.sl [tI]] a0
 r1:Rw [tB] a1
 r2:Rw [tI,tI] a2
 r4:Rw [tI] a4
 r5:Rw [tI,tI] a5
 r6:Rw [tI,tI,tI] a6
 r7:Rw [tI,tI,tI] a7
 r8:Rw [tI,tI,tI,tI] a8
 r9:Rw [.sl [.sl [tI]]] a9
 r10:Rw [.sl [tI,tI]] aA
 r11:Rw [.sl [tI]] aB
 r13:Rw [tI,tI,tI] aD
 r21:Rw [tI] aL
 c0:ag a0<=1073741824
 c1:ag a1<=1073741824
 c2:ag a2<=1073741824
 c4:ag a4<=1073741824
 c5:ag a5<=1073741824
 c6:ag a6<=1073741824
 c7:ag a7<=1073741824
 c8:ag a8<=1073741824
 c9:ag a9<=1073741824
 c10:ag aA<=1073741824
 c11:ag aB<=1073741824
 c13:ag aD<=1073741824
 c21:ag aL<=1073741824
theorem pJ.hp {a0 a1 a2 a4 a5 a6 a7 a8 a9 aA aB aD aL:aa}(h:pJ a0 a1 a2 a4 a5 a6 a7 a8 a9 aA aB aD aL):LB a0 a1 a2 a4 a5 a6 a7 a8 a9 aA aB aD aL:=by
 have l2:=aP (es:=a2);have l5:=aP (es:=a5);have l6:=aP (es:=a6);have l7:=aP (es:=a7);have l8:=aP (es:=a8);have l13:=aP (es:=aD);have l21:=aP (es:=aL);have c2:=h.c2;have c5:=h.c5;have c6:=h.c6;have c7:=h.c7;have c8:=h.c8;have c13:=h.c13;have c21:=h.c21;exact⟨⟨h.r6,h.r7,h.r8,h.r9,h.r13,BH h.r10 h.r11 h.c10 h.c11,Nl h.r9 h.c9,by omega,by omega,by omega,by omega,h.c9⟩,h.r0,h.r1,h.r2,by omega,h.r4,h.r5,by omega,h.r21,by omega⟩
theorem yP {fs:List Ty}{es:aa}{i:Int}(h:Rw [.sl fs] es)(h0:0<=i)(h1:i<es.length):Rw fs (ax es i 0):=Rw.sub (fs:=[.sl fs]) (j:=0) (i:=i) h (by omega) rfl
end Go.V
namespace Go.V
def htB (b x:aa)(f:Int):Bool:=inR f 0 (b.length-1)&&mailOk b x
theorem PV {b x:aa}{f:Int}(h:htB b x f=true)(n:¬ ((ax b f 0).length:Int)=0):dlOk b x f=true:=by
 unfold htB at h;unfold dlOk;simp only[Bool.and_eq_true,decide_eq_true_eq]at h ⊢;exact⟨h.2,h.1,by omega⟩
theorem Kb {b x:aa}{f:Int}(h:htB b x f=false):dlOk b x f=false:=by
 unfold htB at h;unfold dlOk;cases e:inR f 0 (b.length-1)with
 |false=>simp
 |true=>rw[e,Bool.true_and]at h;rw[h];rfl
theorem Kc {b x:aa}{f:Int}(n:((ax b f 0).length:Int)=0):dlOk b x f=false:=by
 unfold dlOk;rw[decide_eq_false (p:=0<(ax b f 0).length) (by omega)];simp
theorem Mx {b x:aa}{f:Int}(h:htB b x f=true):0<=f/\f<b.length:=by
 unfold htB at h;simp only[Bool.and_eq_true]at h;have:=bE.1 h.1;omega
theorem PQ {b x:aa}{f:Int}(h:inR f 0 (b.length-1)=false):htB b x f=false:=by unfold htB;rw[h];rfl
theorem PR {b x:aa}{f:Int}(h:inR f 0 (b.length-1)=true):htB b x f=mailOk b x:=by unfold htB;rw[h];rfl
theorem PS {b x:aa}{f:Int}(h:mailOk b x=false):htB b x f=false:=by unfold htB;rw[h];simp
theorem PU {b x:aa}{f:Int}(h:mailOk b x=true):htB b x f=inR f 0 (b.length-1):=by unfold htB;rw[h];simp
theorem L9 {k:Bool}{b x:aa}{f:Int}(h:k=true):dvB k b x f=dlB b x f/\dvI k b x f=dlI b x f/\dvK k b x f=dlOk b x f:=by subst h;exact⟨rfl,rfl,Bool.true_and _⟩
theorem O6 {k:Bool}{b x:aa}{f:Int}(h:k=false):dvB k b x f=b/\dvI k b x f=x/\dvK k b x f=false:=by subst h;exact⟨rfl,rfl,rfl⟩
theorem TV {k:Bool}{b x:aa}{f:Int}(h:dlOk b x f=false):dvB k b x f=b/\dvI k b x f=x/\dvK k b x f=false:=by
 have q:=Fe h;cases k with
 |false=>exact O6 rfl
 |true=>have p:=L9 (k:=true) (b:=b) (x:=x) (f:=f) rfl;rw[p.1,p.2.1,p.2.2];exact⟨q.1,q.2,h⟩
theorem Ls {b x:aa}{i:Int}(h:Rw [.sl [tI,tI]] b)(h0:0<=i)(h1:i<b.length):lV (.s 1 b) [(i.toNat,0)] [.s 2 x]=b.set i.toNat [.s 2 x]:=jo (by rw[h.eta h0 h1];rfl)
theorem R6 {fs:List Ty}{b:aa}{i:Int}(h:Rw [.sl fs] b)(h0:0<=i)(h1:i<b.length):∃ rec o',bL (.s 1 b) [(i.toNat,0)]=some (rec,o')/\o'+1<=rec.length:=fa (by omega) (by rw[h.eta h0 h1];exact Nat.le_refl _)
theorem Gn {b x b' x':aa}{r r':Bool}(h1:b=b')(h2:x=x')(h3:r=r'):[DV.agg [.s 1 b,.s 1 x],DV.k r]=[DV.agg [.s 1 b',.s 1 x'],DV.k r']:=by rw[h1,h2,h3]
end Go.V
namespace Go.V
structure K3 where
 c:aa
 u:aa
 e:aa
def Kf (a0 a1 a2:aa)(t:Int):Nat->K3
 |0=>⟨a0,a1,a2⟩
 |n+1=>⟨Wy (Kf a0 a1 a2 t n).c (Kf a0 a1 a2 t n).e (t+n),WA (Kf a0 a1 a2 t n).u (Kf a0 a1 a2 t n).e (t+n),Wz (Kf a0 a1 a2 t n).e (t+n)⟩
def VH (a0 a1 a2:aa)(t l:Int):aa:=(Kf a0 a1 a2 t l.toNat).c
def VJ (a0 a1 a2:aa)(t l:Int):aa:=(Kf a0 a1 a2 t l.toNat).u
def VI (a0 a1 a2:aa)(t l:Int):aa:=(Kf a0 a1 a2 t l.toNat).e
structure WU (a0 a1 a2:aa)(t p:Int)(c u e:aa):Prop where
 m:OE c u e
 rc:Rw [.sl [tI]] c
 ru:Rw [tB] u
 re:Rw [tI,tI] e
 l:e.length=a2.length
 ec:c=VH a0 a1 a2 t (p-t)
 eu:u=VJ a0 a1 a2 t (p-t)
 ee:e=VI a0 a1 a2 t (p-t)
section
variable {a0 a1 a2 c u e : aa} {t p : Int}
end
def ifR (b:Bool)(x y:aa):aa:=if b=true then x else y
end Go.V
namespace Go.V
structure Xk (rs:aa):Prop where
 w:Rw [tI,tI] rs
 b:∀ i:Int,0<=i->i<rs.length->0<=af rs i 0/\af rs i 0<=64/\0<=af rs i 1/\af rs i 1<=64
theorem NZ {o:aa}{n:Int}{b:Bool}(h:Rw [tB] o)(h0:0<=n)(h1:n<o.length):lV (.s 1 o) [(n.toNat,0)] [.v (.bool b)]=o.set n.toNat [.v (.bool b)]:=jo (by rw[h.eta h0 h1];rfl)
theorem Vt {o:aa}{n:Int}(h:Rw [tB] o)(h0:0<=n)(h1:n<o.length):∃ rec o',bL (.s 1 o) [(n.toNat,0)]=some (rec,o')/\o'+1<=rec.length:=fa (by omega) (by rw[h.eta h0 h1];exact Nat.le_refl _)
section
variable {n a0 l0 i : Int} {rs o : aa} {d : Bool}
structure W0 (rs:aa)(i:Int)(o:aa)(n:Nat):Prop where
 p:Wc rs i o
 n:n=o.length
 w:Rw [tI,tI] o
 b:∀ k:Int,0<=k->k<o.length->0<=af o k 0/\af o k 0<=64/\0<=af o k 1/\af o k 1<=64*i
end
end Go.V
namespace Go.V
theorem Fv {a0 a1 a2 a4 a5 a6 a7 a8 a9 aA aB aD aL:aa}(h0:Rw [.sl [tI]] a0)(h1:Rw [tB] a1)(h2:Rw [tI,tI] a2)(h4:Rw [tI] a4)(h5:Rw [tI,tI] a5)(h6:Rw [tI,tI,tI] a6)(h7:Rw [tI,tI,tI] a7)(h8:Rw [tI,tI,tI,tI] a8)(h9:Rw [.sl [.sl [tI]]] a9)(h10:Rw [.sl [tI,tI]] aA)(h11:Rw [.sl [tI]] aB)(h13:Rw [tI,tI,tI] aD)(h21:Rw [tI] aL)(hs:aw [a0,a1,a2,a4,a5,a6,a7,a8,a9,aA,aB,aD,aL]<=1048576):pJ a0 a1 a2 a4 a5 a6 a7 a8 a9 aA aB aD aL:=by
 obtain⟨c0,c1,c2,c4,c5,c6,c7,c8,c9,c10,c11,c13,c21⟩:=zJ hs;exact⟨h0,h1,h2,h4,h5,h6,h7,h8,h9,h10,h11,h13,h21,by omega,by omega,by omega,by omega,by omega,by omega,by omega,by omega,by omega,by omega,by omega,by omega,by omega⟩
end Go.V
namespace Go.V
section
variable {n a0 l0 : Int} {rs : aa}
end
def XC (m:Bool)(k v p:Int):Bool:=m&&(decide (k=p)||decide (v=p))
def Wp (a0 a1 a2 a6:aa)(i:Int):aa:=VH a0 a1 a2 (af a6 i 0) 1
def Ws (a0 a1 a2 a6:aa)(i:Int):aa:=VJ a0 a1 a2 (af a6 i 0) 1
def VG (a0 a1 a2 a6:aa)(i:Int):aa:=VI a0 a1 a2 (af a6 i 0) 1
def Wq (a0 a1 a2 a5 a6:aa)(i:Int):aa:=WL (WQ (VG a0 a1 a2 a6 i)) a5 (af a6 i 0) 1
def Wr (a6:aa)(i:Int):aa:=TP a6 i (i+1)
end Go.V
namespace Go.V
section
variable {a0 a1 a2 : aa} {a3 : Int} {a4 a5 a6 a7 a8 a9 aA aB : aa} {aC : Int} {aD : aa} {aE aF aG aH : Int} {aI : Bool} {aJ aK : Int} {aL : aa} {aM aN : Int} {i : Int}
section
variable {k m : Bool} {c x y p : Int} {sp : aa}
end
end
end Go.V
namespace Go.V
theorem E1 {r0 r1 r2 r3 r4 r5 r6 r7 r8 r9 r10 r11 r12:aa}(h:pJ r0 r1 r2 r3 r4 r5 r6 r7 r8 r9 r10 r11 r12):aw [r0,r1,r2,r3,r4,r5,r6,r7,r8,r9,r10,r11,r12]<=1099511627776:=by
 have c0:=h.c0;have c1:=h.c1;have c2:=h.c2;have c3:=h.c4;have c4:=h.c5;have c5:=h.c6;have c6:=h.c7;have c7:=h.c8;have c8:=h.c9;have c9:=h.c10;have c10:=h.c11;have c11:=h.c13;have c12:=h.c21;simp only[aw];omega
section
variable {a0 a1 a2 : aa} {a3 : Int} {a4 a5 a6 a7 a8 a9 aA aB : aa} {aC : Int} {aD : aa} {aE aF aG aH : Int} {aI : Bool} {aJ aK : Int} {aL : aa} {aM aN : Int} {p : Int}
end
end Go.V
namespace Go.V
end Go.V
namespace Go.V
def WE (p n s z:Int):Bool:=lgOk p n s&&inR z 9 s
structure We (p n s z:Int):Prop where
 g:lgOk p n s=true
 zi:inR z 9 1000=true
 z0:9<=z/\z<=1000/\z<=s
 p0:0<=p
 n1:p+n<=32
 m0:1<=pfN z/\pfN z<=n
 m1:z<=pfN z*16/\pfN z*16<z+16
def WI (p ad:Int):Bool:=eqB (bH .mul .i64 p 16) ad
def Ut (lg:aa)(ad j:Int):Bool:=WI (af lg j 0) ad
def Qb (lg:aa)(ad:Int):Int:=ce (Ut lg ad) lg.length
def Vu (cs:aa)(f k:Int):Nat->aa
 |0=>cs
 |i+1=>Lp (Vu cs f k i) f (k+i) 0
def WO (cs es:aa)(a n:Int):aa:=Vu cs (peF es (a/16)) (a%16) n.toNat
structure Xl (cs us es:aa)(f k i:Int)(c:aa):Prop where
 e:c=Vu cs f k i.toNat
 m:OE c us es
 w:Rw [.sl [tI]] c
section
variable {cs us es c : aa} {f k i p : Int}
end
end Go.V
namespace Go.V
def NV (a7:aa)(ad:Int):Int:=af a7 (Qb a7 ad) 0
def Vv (a7:aa)(ad:Int):Int:=af a7 (Qb a7 ad) 1
def V6 (a7:aa)(ad:Int):Int:=af a7 (Qb a7 ad) 2
def V5 (a0 a2 a7:aa)(ad z:Int):aa:=WO a0 a2 (NV a7 ad*16+z) ((16- (NV a7 ad*16+z)%16)%16)
section
variable {a0 a1 a2 : aa} {a3 : Int} {a4 a5 a6 a7 a8 a9 aA aB : aa} {aC : Int} {aD : aa} {aE aF aG aH : Int} {aI : Bool} {aJ aK : Int} {aL : aa} {aM aN ad z k : Int}
structure Xn (a1 a2 a5 a7 a8 a0:aa)(ad z:Int):Prop where
 k0:0<=Qb a7 ad
 k1:Qb a7 ad<a7.length
 p:NV a7 ad*16=ad
 t:We (NV a7 ad) (Vv a7 ad) (V6 a7 ad) z
 b:WE (NV a7 ad) (Vv a7 ad) (V6 a7 ad) z=true
 o0:0<=obI a8 ad
 o1:obI a8 ad<a8.length
 m:OE a0 a1 a2
 g:∀ q:Int,NV a7 ad<=q->q<NV a7 ad+Vv a7 ad->peM a2 q≠0
 f:a5.length<=32
 d:OE (V5 a0 a2 a7 ad z) a1 a2
 dw:Rw [.sl [tI]] (V5 a0 a2 a7 ad z)
end
end Go.V
namespace Go.V
theorem CU {o:aa}{n:Int}(h:Rw [tI,tI,tI] o)(n0:0<=n)(n1:n<o.length):∃ rec o',bL (L.s 3 o) [(n.toNat,0)]=some (rec,o')/\o'+[L.v (Value.int IntKind.i64 0),L.v (Value.int IntKind.i64 0),L.v (Value.int IntKind.i64 0)].length<=rec.length/\List.take [L.v (Value.int IntKind.i64 0),L.v (Value.int IntKind.i64 0),L.v (Value.int IntKind.i64 0)].length (List.drop o' rec)=hK ai (L.s 3 o) [(n.toNat,0)] 0 [L.v (Value.int IntKind.i64 0),L.v (Value.int IntKind.i64 0),L.v (Value.int IntKind.i64 0)]:=
 ku (z0:=[.i 0,.i 0,.i 0]) (z:=[.i 0,.i 0,.i 0]) h.wf (by omega) rfl (by decide)
section
variable {a0 a1 a2 a5 a7 a8 c : aa} {ad z x : Int}
end
end Go.V
namespace Go.V
section
variable {a0 a1 a2 : aa} {a3 : Int} {a4 a5 a6 a7 a8 a9 aA aB : aa} {aC : Int} {aD : aa} {aE aF aG aH : Int} {aI : Bool} {aJ aK : Int} {aL : aa} {aM aN ad z : Int}
end
end Go.V
namespace Go.V
section
variable {cs us es rs : aa} {c p q m : Int}
end
end Go.V
namespace Go.V
structure W1 (cs es:aa)(p q:Int)(xs:aa)(i:Int)(d:aa):Prop where
 z:i=0->d=cs
 o:0<i->inR (af xs 0 0) 0 15=true/\d=Lp cs (peF es q) (af xs 0 0) (af (ax cs (peF es p) 0) (af xs 0 0) 0)
section
variable {cs us es xs d : aa} {p q i : Int}
end
end Go.V
namespace Go.V
section
variable {cs us es rs xs : aa} {c kp mv ph nx : Int} {k : Bool}
structure WZ (kp mv:Int)(xs:aa)(ph nx:Int):Prop where
 k0:0<=kp
 k1:kp<=31
 m0:0<=mv
 m1:mv<=31
 p0:0<=ph
 p1:ph<=5
 n0:0<=nx
 n1:nx<=xs.length
 x:∀ i:Int,0<=i->i<xs.length->0<=af xs i 0/\af xs i 0<=15
end
end Go.V
namespace Go.V
section
variable {a0 a1 a2 : aa} {a3 : Int} {a4 a5 a6 a7 a8 a9 aA aB : aa} {aC : Int} {aD : aa} {aJ aK : Int} {aL : aa} {aM aN : Int} {g : Bool}
end
end Go.V
namespace Go.V
def WP (b i:Int):Int:=if slB b i=true then bH .andNot .i64 b (NN .shl .i64 1 i)else b
structure Wk (S:aa):Prop where
 s:∀ i:Nat,i<S.length->spOk (af S i 0) (af S i 1) (af S i 2)=true
 d:∀ i j:Nat,i<S.length->j<S.length->af S i 0=af S j 0->i=j
structure Wg (S:aa)(a:Int)(i:Nat):Prop where
 l:i<S.length
 p:af S i 0=a/16
 b:hsB (af S i 2) ((a-af S i 0*16)/clsSz (af S i 1))=true
 o:(a-af S i 0*16)%clsSz (af S i 1)=0
section
variable {S : aa} {a b : Int} {i j : Nat}
end
end Go.V
namespace Go.V
def Wu (S:aa)(i s:Int):aa:=S.set i.toNat [.i (af S i 0),.i (af S i 1),.i (WP (af S i 2) s)]
def Kl (S:aa)(a:Int):aa:=Wu S (iQ S a) (H0 S a (iQ S a))
def Pd (me:Bool)(kp mv:Int)(S:aa)(a:Int):Bool:=decide (af (Kl S a) (iQ S a) 2=0)&& !XC me kp mv (af (Kl S a) (iQ S a) 0)
structure OC where
 C:aa
 U:aa
 E:aa
 F:aa
 S:aa
def f1 (me:Bool)(kp mv:Int)(s:OC)(a:Int):OC:=
 ⟨ifR (Pd me kp mv s.S a) (Wp s.C s.U s.E (Kl s.S a) (iQ s.S a)) s.C,ifR (Pd me kp mv s.S a) (Ws s.C s.U s.E (Kl s.S a) (iQ s.S a)) s.U,ifR (Pd me kp mv s.S a) (VG s.C s.U s.E (Kl s.S a) (iQ s.S a)) s.E,
  ifR (Pd me kp mv s.S a) (Wq s.C s.U s.E s.F (Kl s.S a) (iQ s.S a)) s.F,ifR (Pd me kp mv s.S a) (Wr (Kl s.S a) (iQ s.S a)) (Kl s.S a)⟩
structure Wb (s:OC):Prop where
 m:OE s.C s.U s.E
 rc:Rw [.sl [tI]] s.C
 ru:Rw [tB] s.U
 re:Rw [tI,tI] s.E
 rf:Rw [tI,tI] s.F
 rs:Rw [tI,tI,tI] s.S
 lf:s.F.length<=65
 ls:s.S.length<=1073741824
 g:Wk s.S
section
variable {S : aa} {a b x : Int} {i j : Nat}
end
end Go.V
namespace Go.V
section
variable {s : OC} {a b : Int} {i j : Nat} {me : Bool} {kp mv : Int}
end
structure WV (l:aa)(i:Nat)(s:OC):Prop where
 fr:Wb s
 q:∀ j:Nat,i<=j->j<l.length->∃ k,Wg s.S (af l j 0) k
section
variable {a0 a1 a2 : aa} {a3 : Int} {a4 a5 a6 a7 a8 a9 aA aB : aa} {aC : Int} {aD : aa} {aE aF aG aH : Int} {aI : Bool} {aJ aK : Int} {aL : aa} {aM aN : Int}
theorem T8 {l:aa}{n j k:Nat}(h:j<n):af (l.take n) j k=af l j k:=by
 unfold af;rw[List.getD_eq_getElem?_getD (l:=List.take _ _),List.getD_eq_getElem?_getD (l:=l),List.getElem?_take_of_lt (by omega)]
end
end Go.V
namespace Go.V
def Nn (s:Int):Int:=(1103515245*s+12345)%1073741824
def nxS (s:Int):Int:=if inR s 0 1073741823=true then Nn s else 0
def Fb (s n:Int):Bool:=inR s 0 1073741823&&inR n 1 1000
def cuI (s n:Int):Int:=if Fb s n=true then Nn s/1024%n else 0
def cuS (s n:Int):Int:=if Fb s n=true then Nn s else s
theorem GL {s:Int}:0<=Nn s/\Nn s<=1073741823:=by unfold Nn;omega
theorem UJ {s:Int}(h:inR s 0 1073741823=true):nxS s=bH .rem .i64 (bH .add .i64 (bH .mul .i64 1103515245 s) 12345) 1073741824:=by
 have q:=bE.1 h;unfold nxS;rw[if_pos h,GJ (by omega),bA (by omega),xB (by omega)];rfl
theorem UI {s:Int}(h:inR s 0 1073741823=false):nxS s=0:=by unfold nxS;rw[h];rfl
theorem OX {s n:Int}(h1:inR s 0 1073741823=true)(h2:inR n 1 1000=true):cuI s n=bH .rem .i64 (bH .quo .i64 (nxS s) 1024) n/\cuS s n=nxS s:=by
 have q:=bE.1 h2;have e:nxS s=Nn s:=by unfold nxS;rw[if_pos h1]
 have r:=GL (s:=s);have b:Fb s n=true:=by unfold Fb;rw[h1,h2];rfl
 unfold cuI cuS;rw[if_pos b,if_pos b,e,nP (by omega) (by omega) (by omega),xB (by omega)];exact⟨rfl,rfl⟩
theorem Ix {s n:Int}(h:Fb s n=false):cuI s n=0/\cuS s n=s:=by unfold cuI cuS;rw[h];exact⟨rfl,rfl⟩
theorem OV {s n:Int}(h:inR s 0 1073741823=false):Fb s n=false:=by unfold Fb;rw[h];rfl
theorem OW {s n:Int}(h:inR n 1 1000=false):Fb s n=false:=by unfold Fb;rw[h,Bool.and_false]
theorem Cw {s n:Int}(h1:inR s 0 1073741823=true)(n1:1<=n)(n2:n<=1000):0<=cuI s n/\cuI s n<n/\inR (cuS s n) 0 1073741823=true:=by
 have b:Fb s n=true:=by unfold Fb;rw[h1,bE.2 ⟨n1,n2⟩];rfl
 have r:=GL (s:=s);unfold cuI cuS;rw[if_pos b,if_pos b];exact⟨Int.emod_nonneg _ (by omega),Int.emod_lt_of_pos _ (by omega),bE.2 r⟩
def EG (s n:Int):Bool:=inR s 0 1073741823&&inR n 0 64
def EB :Nat->aa
 |0=>[]
 |n+1=>EB n++[[.i (n:Int)]]
theorem fq :∀ {n:Nat},(EB n).length=n
 |0=>rfl
 |n+1=>by simp[EB,fq (n:=n)]
def Lq (es:aa)(i j:Int):aa:=(es.set i.toNat [.i (af es j 0)]).set j.toNat [.i (af es i 0)]
theorem yQ {es:aa}{i j:Int}:(Lq es i j).length=es.length:=by unfold Lq;simp
def Hq :Nat->aa->Int->aa
 |0,es,_=>es
 |k+1,es,s=>Hq k (Lq es ((k:Int)+1) (cuI s ((k:Int)+2))) (cuS s ((k:Int)+2))
def RU :Nat->Int->Int
 |0,s=>s
 |k+1,s=>RU k (cuS s ((k:Int)+2))
def shuL (s n:Int):aa:=if EG s n=true then Hq (n-1).toNat (EB n.toNat) s else[]
def shuS (s n:Int):Int:=if EG s n=true then RU (n-1).toNat s else s
theorem Hr {s n:Int}(h:EG s n=false):shuL s n=[]/\shuS s n=s:=by unfold shuL shuS;rw[h];exact⟨rfl,rfl⟩
theorem RV {s n:Int}(h:inR s 0 1073741823=false):EG s n=false:=by unfold EG;rw[h];rfl
theorem RX {s n:Int}(h:inR n 0 64=false):EG s n=false:=by unfold EG;rw[h,Bool.and_false]
theorem Jm {s n:Int}(h1:inR s 0 1073741823=true)(h2:inR n 0 64=true):EG s n=true:=by unfold EG;rw[h1,h2];rfl
structure LE (i:Int)(o:aa):Prop where
 e:o=EB i.toNat
theorem P4 :LE 0 []:=⟨rfl⟩
theorem MN {i:Int}{o:aa}(h:LE i o)(i0:0<=i):LE (i+1) (o++[[.i i]]):=⟨by
 have e:(i+1).toNat=i.toNat+1:=by omega
 rw[e,h.e];simp only[EB];rw[Int.toNat_of_nonneg i0]⟩
theorem CJ {i:Int}{o:aa}(h:LE i o)(i0:0<=i):(o.length:Int)=i:=by rw[h.e,fq];omega
theorem Br :∀ {n:Nat},n<=64->Rw [tI] (EB n)
 |0,_=>Rw.nil
 |n+1,h=>Rw.append (Br (n:=n) (by omega)) (Rw.one (show bM [tI] [.i (n:Int)]from⟨⟨rfl,(show-9223372036854775808<=(n:Int)/\(n:Int)<=9223372036854775807 by omega)⟩,trivial⟩)) (by rw[fq];unfold maxLen;simp only[List.length_cons,List.length_nil];omega)
structure LP (n s0 i:Int)(o:aa)(s:Int):Prop where
 r:Rw [tI] o
 l:(o.length:Int)=n
 k:inR s 0 1073741823=true
 e:Hq i.toNat o s=Hq (n-1).toNat (EB n.toNat) s0
 f:RU i.toNat s=RU (n-1).toNat s0
theorem RY {n s i:Int}{o:aa}(h:LE i o)(i0:0<=i)(e:i=n)(n1:n<=64)(hk:inR s 0 1073741823=true):LP n s (n-1) o s:=by
 subst e;exact⟨by rw[h.e];exact Br (by omega),CJ h i0,hk,by rw[h.e],rfl⟩
theorem Lr {es:aa}{i j:Int}(h:Rw [tI] es)(i0:0<=i)(i1:i<es.length)(j0:0<=j)(j1:j<es.length):Rw [tI] (Lq es i j):=by
 have a:=yi h i0 i1;have b:=yi h j0 j1;unfold Lq;exact Rw.set (Rw.set h (show bM [tI] [.i (af es j 0)]from⟨⟨rfl,b⟩,trivial⟩) _) (show bM [tI] [.i (af es i 0)]from⟨⟨rfl,a⟩,trivial⟩) _
theorem N0 {l:aa}{i x:Int}(h:Rw [tI] l)(h0:0<=i)(h1:i<l.length):lV (.s 1 l) [(i.toNat,0)] [.i x]=l.set i.toNat [.i x]:=jo (by rw[h.wid (by omega)];rfl)
theorem R8 {l:aa}{i j:Int}(h:Rw [tI] l)(i0:0<=i)(i1:i<l.length)(j0:0<=j)(j1:j<l.length):lV (.s 1 (lV (.s 1 l) [(i.toNat,0)] [.i (EE (.s 1 l) [(j.toNat,0)])])) [(j.toNat,0)] [.i (EE (.s 1 l) [(i.toNat,0)])]=Lq l i j:=by
 have b:=yi h j0 j1;rw[eJ i0,eJ j0,N0 h i0 i1,N0 (Rw.set h (show bM [tI] [.i (af l j 0)]from⟨⟨rfl,b⟩,trivial⟩) _) j0 (by rw[List.length_set];exact j1)];rfl
theorem NS {l:aa}{i j:Int}(h:Rw [tI] l)(i0:0<=i)(i1:i<l.length)(j0:0<=j)(j1:j<l.length):∃ rec o',bL (.s 1 (lV (.s 1 l) [(i.toNat,0)] [.i (EE (.s 1 l) [(j.toNat,0)])])) [(j.toNat,0)]=some (rec,o')/\o'+1<=rec.length:=by
 have b:=yi h j0 j1;rw[eJ j0,N0 h i0 i1];exact Ks (Rw.set h (show bM [tI] [.i (af l j 0)]from⟨⟨rfl,b⟩,trivial⟩) _) j0 (by rw[List.length_set];exact j1)
theorem BV {a b:aa}{x y:Int}(h:a=b)(k:x=y):[DV.one (.s 1 a),DV.j x]=[DV.one (.s 1 b),DV.j y]:=by rw[h,k]
theorem NP {n s0 i s:Int}{o:aa}(h:LP n s0 i o s)(i0:1<=i)(i1:i<n)(n1:n<=64):LP n s0 (i-1) (Lq o i (cuI s (i+1))) (cuS s (i+1)):=by
 have q:=Cw (n:=i+1) h.k (by omega) (by omega);have e:i.toNat=(i-1).toNat+1:=by omega
 have e2:(((i-1).toNat:Nat):Int)+1=i:=by omega
 have e3:(((i-1).toNat:Nat):Int)+2=i+1:=by omega
 have a:=h.e;have b:=h.f;rw[e]at a b;simp only[Hq,RU,e2,e3]at a b;have l:=h.l;exact⟨Lr h.r (by omega) (by omega) q.1 (by omega),by rw[yQ];exact l,q.2.2,a,b⟩
theorem Jp {n s0 i s:Int}{o:aa}(h:LP n s0 i o s)(i0:i<1)(k:EG s0 n=true):o=shuL s0 n/\s=shuS s0 n:=by
 have e:i.toNat=0:=by omega
 have a:=h.e;have b:=h.f;rw[e]at a b;unfold shuL shuS;rw[if_pos k,if_pos k];exact⟨a,b⟩
end Go.V
namespace Go.V
def Re (p k b q l c:Int):Bool:=decide ((sclL p k b).length<(sclL q l c).length)
def ppK (p k b q l c:Int):Int:=if mshB p k b q l c=true then(if Re p k b q l c=true then q else p)else 0
def ppM (p k b q l c:Int):Int:=if mshB p k b q l c=true then(if Re p k b q l c=true then p else q)else 0
def ppC (p k b q l c:Int):aa:=if mshB p k b q l c=true then(if Re p k b q l c=true then sclL p k b else sclL q l c)else[]
theorem UR {p k b q l c:Int}(h:mshB p k b q l c=false):ppK p k b q l c=0/\ppM p k b q l c=0/\ppC p k b q l c=[]:=by unfold ppK ppM ppC;rw[h];exact⟨rfl,rfl,rfl⟩
theorem UP {p k b q l c:Int}(h:mshB p k b q l c=true)(g:(sclL p k b).length<(sclL q l c).length):ppK p k b q l c=q/\ppM p k b q l c=p/\ppC p k b q l c=sclL p k b:=by
 have g':Re p k b q l c=true:=decide_eq_true g;unfold ppK ppM ppC;rw[h,g'];exact⟨rfl,rfl,rfl⟩
theorem UQ {p k b q l c:Int}(h:mshB p k b q l c=true)(g:¬ (sclL p k b).length<(sclL q l c).length):ppK p k b q l c=p/\ppM p k b q l c=q/\ppC p k b q l c=sclL q l c:=by
 have g':Re p k b q l c=false:=decide_eq_false g;unfold ppK ppM ppC;rw[h,g'];exact⟨rfl,rfl,rfl⟩
theorem BP {x y x' y':Int}{r r':aa}{b b':Bool}(h1:x=x')(h2:y=y')(h3:r=r')(h4:b=b'):[DV.agg [.i x,.i y,.s 1 r],DV.k b]=[DV.agg [.i x',.i y',.s 1 r'],DV.k b']:=by rw[h1,h2,h3,h4]
theorem FO {x y z w x' y' z' w':Int}{r r':aa}{b b':Bool}(h1:x=x')(h2:y=y')(h3:r=r')(h4:z=z')(h5:w=w')(h6:b=b'):[DV.agg [.i x,.i y,.s 1 r,.i z,.i w],DV.k b]=[DV.agg [.i x',.i y',.s 1 r',.i z',.i w'],DV.k b']:=by rw[h1,h2,h3,h4,h5,h6]
def Oz (es:aa)(x i:Int):Bool:=decide (af es i 0=x)||decide (af es i 1=x)
def tnI (es:aa)(x:Int):Int:=ce (Oz es x) es.length
def tnB (es:aa)(x:Int):Bool:=decide (0<=tnI es x)
def tnP (a b x:Int):Bool:=decide (a=x)||decide (b=x)
theorem Sd {a b x:Int}(h:a=x):tnP a b x=true:=by unfold tnP;rw[decide_eq_true h];rfl
theorem Se {a b x:Int}(h:¬ a=x):tnP a b x=cr .eql b x:=by unfold tnP;rw[decide_eq_false h];rfl
theorem Ux {k m:Int}{cs:aa}(h:plOk k m cs=true):ifZ (plOk k m cs) k=k/\ifZ (plOk k m cs) m=m/\ifR (plOk k m cs) cs []=cs:=by rw[h];exact⟨rfl,rfl,rfl⟩
theorem Uw {k m:Int}{cs:aa}(h:plOk k m cs=false):ifZ (plOk k m cs) k=0/\ifZ (plOk k m cs) m=0/\ifR (plOk k m cs) cs []=[]:=by rw[h];exact⟨rfl,rfl,rfl⟩
end Go.V
namespace Go.V
theorem yb {es:aa}:lU es (Int.toNat 1) (wR (es.length:Int) 1)=es.drop 1:=by
 unfold lU wR;rw[show Int.toNat 1=1 from rfl,show((es.length:Int).toNat-1)=es.length-1 by rw[Int.toNat_natCast]];exact List.take_of_length_le (by rw[List.length_drop];exact Nat.le_refl _)
theorem TS {b:aa}{f:Int}(h:Rw [.sl [tI,tI]] b)(h0:0<=f)(h1:f<b.length):lV (.s 1 b) [(f.toNat,0)] [.s 2 (lU (fO (.s 1 b) [(f.toNat,0)]) (Int.toNat 1) (wR ((fO (.s 1 b) [(f.toNat,0)]).length:Int) 1))]=b.set f.toNat [.s 2 ((ax b f 0).drop 1)]:=by
 rw[je,yb];exact Ls h h0 h1
theorem O3 {b:aa}{f:Int}(h:Rw [.sl [tI,tI]] b)(h0:0<=f)(h1:f<b.length):lV (.s 1 b) [(f.toNat,0)] [.s 2 ([]++lU (ax b f 0) (Int.toNat 1) (wR ((ax b f 0).length:Int) 1))]=b.set f.toNat [.s 2 ((ax b f 0).drop 1)]:=by
 rw[yb,List.nil_append];exact Ls h h0 h1
theorem L5 {x:aa}{a:Int}(h:Rw [.sl [tI]] x)(h0:0<=a)(h1:a<x.length):lV (.s 1 x) [(a.toNat,0)] [.g]=x.set a.toNat [.g]:=jo (by rw[h.eta h0 h1];rfl)
theorem TT {x r:aa}{a:Int}(h:Rw [.sl [tI]] x)(h0:0<=a)(h1:a<x.length):lV (.s 1 (lV (.s 1 x) [(a.toNat,0)] [.g])) [(a.toNat,0)] [.s 1 r]=x.set a.toNat [.s 1 r]:=by
 rw[L5 h h0 h1,jo (by rw[List.getD_eq_getElem?_getD,List.getElem?_set_self (by omega)];rfl),List.set_set]
theorem L8 {x:aa}{a:Int}(h:Rw [.sl [tI]] x)(h0:0<=a)(h1:a<x.length):(lV (.s 1 x) [(a.toNat,0)] [.g]).length=x.length:=by rw[L5 h h0 h1,List.length_set]
theorem L6 {x:aa}{a:Int}(h:Rw [.sl [tI]] x)(h0:0<=a)(h1:a<x.length):∃ rec o,bL (.s 1 (lV (.s 1 x) [(a.toNat,0)] [.g])) [(a.toNat,0)]=some (rec,o)/\o+1<=rec.length:=by
 rw[L5 h h0 h1];exact fa (by rw[List.length_set];omega) (by rw[List.getD_eq_getElem?_getD,List.getElem?_set_self (by omega)];exact Nat.le_refl _)
theorem Kd {l:L}{p:List (Nat×Nat)}{k:Nat}{es:aa}(h:dH l p=some (k,es)):dH l p=some (k,fO l p):=by unfold fO;rw[h]
theorem TQ {b x:aa}{f:Int}(T:N9 b x f)(h:Rw [.sl [tI,tI]] b):(0:Int)<=1/\(1:Int)<=(fO (.s 1 b) [(f.toNat,0)]).length/\((fO (.s 1 b) [(f.toNat,0)]).length:Int)<=(fO (.s 1 b) [(f.toNat,0)]).length/\∃ es,dH (.s 1 b) [(f.toNat,0)]=some (2,es):=by
 have n:=T.n;rw[je];exact⟨by omega,by omega,Int.le_refl _,xh h T.f0 T.f1⟩
theorem O2 {b x:aa}{f:Int}(T:N9 b x f)(h:Rw [.sl [tI,tI]] b):dH (.s 1 b) [(f.toNat,0)]=some (2,fO (.s 1 b) [(f.toNat,0)])/\bI (fO (.s 1 b) [(f.toNat,0)]):=by
 obtain⟨es,e⟩:=xh h T.f0 T.f1;refine⟨Kd e,?_⟩;rw[je];exact(yP h T.f0 T.f1).scal rfl
theorem TR {x:aa}{a:Int}{r:aa}(h:Rw [.sl [tI]] x)(h0:0<=a)(h1:a<x.length)(hc:ag x<=1073741824)(hr:r.length=1):dH (.s 1 x) [(a.toNat,0)]=some (1,fO (.s 1 x) [(a.toNat,0)])/\bI (fO (.s 1 x) [(a.toNat,0)])/\((fO (.s 1 x) [(a.toNat,0)]).length+r.length)*8<=70368744177664/\(fO (.s 1 x) [(a.toNat,0)]).length+r.length<=70368744177664:=by
 obtain⟨es,e⟩:=Fu h h0 h1;have g:=hN (es:=x) (i:=a) (j:=0);have l:(ax x a 0).length<=ag (ax x a 0):=by unfold ag;omega
 refine⟨Kd e,?_,?_⟩
 ·rw[je];exact(Rw.sub (fs:=[.sl [tI]]) (j:=0) (i:=a) h (by omega) rfl).scal rfl
 ·rw[je];constructor<;>omega
theorem OZ {b x:aa}{f:Int}(T:N9 b x f)(h:Rw [.sl [tI,tI]] b):bI (lU (ax b f 0) (Int.toNat 1) (wR ((ax b f 0).length:Int) 1)):=by
 rw[yb];exact(Rw.drop (yP h T.f0 T.f1) 1).scal rfl
theorem O0 {b x:aa}{f:Int}(T:N9 b x f)(hc:ag b<=1073741824):(0+(lU (ax b f 0) (Int.toNat 1) (wR ((ax b f 0).length:Int) 1)).length)*16<=70368744177664/\0+(lU (ax b f 0) (Int.toNat 1) (wR ((ax b f 0).length:Int) 1)).length<=70368744177664:=by
 have g:=hN (es:=b) (i:=f) (j:=0);have l:(ax b f 0).length<=ag (ax b f 0):=by unfold ag;omega
 rw[yb,List.length_drop];constructor<;>omega
theorem O1 {b x:aa}{f:Int}(T:N9 b x f)(hb:Rw [.sl [tI,tI]] b)(hx:Rw [.sl [tI]] x)(cb:ag b<=1073741824)(cx:ag x<=1073741824):Rw [.sl [tI,tI]] (b.set f.toNat [.s 2 ((ax b f 0).drop 1)])/\Rw [.sl [tI]] (x.set (l9 b f).toNat [.s 1 (ax x (l9 b f) 0++[[.i (af (ax b f 0) 0 1)]])])/\ag (b.set f.toNat [.s 2 ((ax b f 0).drop 1)])<=1099511627776/\ag (x.set (l9 b f).toNat [.s 1 (ax x (l9 b f) 0++[[.i (af (ax b f 0) 0 1)]])])<=1099511627776:=by
 have T0:=T.f0;have T1:=T.f1;have T2:=T.t0;have T3:=T.t1;have T4:=T.l;have T5:=T.n;have gb:=hN (es:=b) (i:=f) (j:=0);have gx:=hN (es:=x) (i:=l9 b f) (j:=0);have rb:=Rw.sub (fs:=[.sl [tI,tI]]) (j:=0) (i:=f) hb (by omega) rfl;have rx:=Rw.sub (fs:=[.sl [tI]]) (j:=0) (i:=l9 b f) hx (by omega) rfl;have lx:(ax x (l9 b f) 0).length<=ag (ax x (l9 b f) 0):=by unfold ag;omega
 have c:=pT (i:=0) (j:=1) rb rfl (by omega);have d:=zM (l:=ax b f 0) (n:=1);have r2:Rw [tI] (ax x (l9 b f) 0++[[.i (af (ax b f 0) 0 1)]]):=Rw.append rx (Rw.one ⟨⟨rfl,c⟩,trivial⟩) (by unfold maxLen;simp only[List.length_cons,List.length_nil];omega);refine⟨Rw.set hb (show bM [.sl [tI,tI]] [.s 2 ((ax b f 0).drop 1)]from⟨⟨rfl,Rw.drop rb 1⟩,trivial⟩) _,Rw.set hx (show bM [.sl [tI]] [.s 1 (ax x (l9 b f) 0++[[.i (af (ax b f 0) 0 1)]])]from⟨⟨rfl,r2⟩,trivial⟩) _,?_,?_⟩
 ·have s:=mW (es:=b) (n:=f.toNat) (e:=[.s 2 ((ax b f 0).drop 1)]);simp only[cz,dz]at s;unfold ag at d gb cb s ⊢;omega
 ·have s:=mW (es:=x) (n:=(l9 b f).toNat) (e:=[.s 1 (ax x (l9 b f) 0++[[.i (af (ax b f 0) 0 1)]])]);simp only[cz,dz]at s;have a:=tZ (a:=ax x (l9 b f) 0) (b:=[[.i (af (ax b f 0) 0 1)]]);have o:ag [[L.i (af (ax b f 0) 0 1)]]<=4:=by simp[ag,bz,cz,dz]
  unfold ag at a o gx cx s ⊢;omega
end Go.V
namespace Go.V
theorem O7 {a0 a1 a2 a4 a5 a6 a7 a8 a9 aA aB aD aL:aa}(h:pJ a0 a1 a2 a4 a5 a6 a7 a8 a9 aA aB aD aL)(hs:aw [a0,a1,a2,a4,a5,a6,a7,a8,a9,aA,aB,aD,aL]<=1048576)(k:Bool)(f:Int):pJ a0 a1 a2 a4 a5 a6 a7 a8 a9 (dvB k aA aB f) (dvI k aA aB f) aD aL:=by
 have c:=zJ hs;have q:=O8 (k:=k) (f:=f) h.r10 h.r11 c.2.2.2.2.2.2.2.2.2.1 c.2.2.2.2.2.2.2.2.2.2.1;exact {h with r10:=q.1,r11:=q.2.1,c10:=by have:=q.2.2.1;omega,c11:=by have:=q.2.2.2;omega}
end Go.V
namespace Go.V
def Cj (n:Int)(es:aa):Prop:=∀ j:Nat,j<es.length->0<=af es (j:Int) 0/\af es (j:Int) 0<n
theorem Pn {es:aa}{i j:Nat}{x:Int}(hj:j<es.length):af (es.set i [.i x]) (j:Int) 0=if i=j then x else af es (j:Int) 0:=by
 unfold af;simp only[Int.toNat_natCast,List.getD_eq_getElem?_getD];by_cases c:i=j
 ·subst c;rw[if_pos rfl,List.getElem?_set_self hj];rfl
 ·rw[if_neg c,List.getElem?_set_ne c]
theorem Cj.st {n x:Int}{es:aa}{i:Nat}(h:Cj n es)(x0:0<=x)(x1:x<n):Cj n (es.set i [.i x]):=fun j hj=>by
 rw[List.length_set]at hj;rw[Pn hj];split
 ·exact⟨x0,x1⟩
 ·exact h j hj
theorem Cj.at {n i:Int}{es:aa}(h:Cj n es)(i0:0<=i)(i1:i<es.length):0<=af es i 0/\af es i 0<n:=by
 have:=h i.toNat (by omega);rw[Int.toNat_of_nonneg i0]at this;exact this
theorem Cj.sw {n i j:Int}{es:aa}(h:Cj n es)(i0:0<=i)(i1:i<es.length)(j0:0<=j)(j1:j<es.length):Cj n (Lq es i j):=by
 have a:=h.at i0 i1;have b:=h.at j0 j1;exact(h.st b.1 b.2).st a.1 a.2
theorem uq {a:aa}{r:ay}{n j:Nat}(h:n<a.length):af (a++[r]) (n:Int) j=af a (n:Int) j:=by
 unfold af;simp only[Int.toNat_natCast,List.getD_eq_getElem?_getD];rw[List.getElem?_append_left h]
theorem ut {a:aa}{r:ay}{j:Nat}:af (a++[r]) (a.length:Int) j=MU (r.getD j .g):=by
 unfold af;simp only[Int.toNat_natCast,List.getD_eq_getElem?_getD];rw[List.getElem?_append_right (Nat.le_refl _),Nat.sub_self];rfl
theorem FM :∀ {n:Nat} {m:Int},(n:Int)<=m->Cj m (EB n)
 |0,_,_=>fun j hj=>absurd hj (by simp[EB])
 | n+1,m,h=>fun j hj=>by
   rw[fq]at hj;simp only[EB];by_cases c:j<n
   ·rw[uq (by rw[fq];exact c)];exact FM (n:=n) (m:=m) (by omega) j (by rw[fq];exact c)
   ·have e:j=n:=by omega
    subst e;have q:=ut (a:=EB j) (r:=[L.i (j:Int)]) (j:=0);rw[fq]at q;rw[q];show 0<=(j:Int)/\(j:Int)<m;omega
theorem Le {n:Int}(n1:n<=64):∀ {k:Nat} {es:aa} {s:Int},Cj n es->(es.length:Int)=n->(k:Int)<n->inR s 0 1073741823=true->Cj n (Hq k es s)
 |0,es,s,h,_,_,_=>h
 | k+1,es,s,h,hl,hk,hs=>by
   simp only[Hq];have q:=Cw (n:=(k:Int)+2) hs (by omega) (by omega);exact Le n1 (h.sw (by omega) (by omega) q.1 (by omega)) (by rw[yQ];exact hl) (by omega) q.2.2
theorem DF :∀ {k:Nat} {es:aa} {s:Int},(Hq k es s).length=es.length
 |0,_,_=>rfl
 |k+1,es,s=>by simp only[Hq];rw[DF,yQ]
theorem sy {s n:Int}(h1:inR s 0 1073741823=true)(h2:inR n 0 64=true):((shuL s n).length:Int)=n:=by
 have q:=bE.1 h2;unfold shuL;rw[if_pos (Jm h1 h2),DF,fq];omega
theorem BZ {s n:Int}(h1:inR s 0 1073741823=true)(h2:inR n 0 64=true):Cj n (shuL s n):=by
 have q:=bE.1 h2;unfold shuL;rw[if_pos (Jm h1 h2)];by_cases c:n=0
 ·subst c;exact FM (n:=0) (by omega)
 ·exact Le q.2 (FM (by omega)) (by rw[fq];omega) (by omega) h1
theorem Lf {n:Int}(n1:n<=64):∀ {k:Nat} {es:aa} {s:Int},Rw [tI] es->(es.length:Int)=n->(k:Int)<n->inR s 0 1073741823=true->Rw [tI] (Hq k es s)
 |0,es,s,h,_,_,_=>h
 | k+1,es,s,h,hl,hk,hs=>by
   simp only[Hq];have q:=Cw (n:=(k:Int)+2) hs (by omega) (by omega);exact Lf n1 (Lr h (by omega) (by omega) q.1 (by omega)) (by rw[yQ];exact hl) (by omega) q.2.2
theorem Hu {s n:Int}:Rw [tI] (shuL s n):=by
 cases b:EG s n with
 |false=>rw[(Hr b).1];exact Rw.nil
 | true=>
   unfold EG at b;rw[Bool.and_eq_true]at b;have q:=bE.1 b.2;unfold shuL;rw[if_pos (Jm b.1 b.2)];by_cases c:n=0
   ·subst c;exact Rw.nil
   ·exact Lf q.2 (Br (by omega)) (by rw[fq];omega) (by omega) b.1
def Vn (sp:aa)(a b:Int):Bool:=mshB (af sp a 0) (af sp a 1) (af sp a 2) (af sp b 0) (af sp b 1) (af sp b 2)
def Ei (od:aa)(h p i:Int):Int:=af od (h+(i+p)%(od.length-h)) 0
def HB (sp od:aa)(h p i:Int)(o:aa):Bool:= !tnB o (af od i 0)&&(!tnB o (Ei od h p i)&&Vn sp (af od i 0) (Ei od h p i))
def Ox (sp od:aa)(h p i:Int)(o:aa):aa:=if HB sp od h p i o=true then o++[[.i (af od i 0),.i (Ei od h p i)]]else o
def vi (sp od:aa)(h p:Int):Nat->aa->aa
 |0,o=>o
 |i+1,o=>Ox sp od h p (i:Int) (vi sp od h p i o)
def Lj (sp od:aa)(h:Int):Nat->aa
 |0=>[]
 |p+1=>vi sp od h (p:Int) h.toNat (Lj sp od h p)
def Ej (sp:aa)(s k:Int):Bool:=decide ((sp.length:Int)<=16)&&(inR k 0 16&&inR s 0 1073741823)
def sqL (sp:aa)(s k:Int):aa:=if Ej sp s k=true then Lj sp (shuL s sp.length) ((sp.length:Int)/2) k.toNat else[]
def sqS (sp:aa)(s k:Int):Int:=if Ej sp s k=true then shuS s sp.length else s
theorem rQ {sp:aa}{s k:Int}(h:Ej sp s k=false):sqL sp s k=[]/\sqS sp s k=s:=by unfold sqL sqS;rw[h];exact⟨rfl,rfl⟩
theorem Jr {sp:aa}{s k:Int}(h:(16:Int)<sp.length):Ej sp s k=false:=by unfold Ej;rw[decide_eq_false (by omega)];rfl
theorem Js {sp:aa}{s k:Int}(h:inR k 0 16=false):Ej sp s k=false:=by unfold Ej;rw[h];simp
theorem Jt {sp:aa}{s k:Int}(h:inR s 0 1073741823=false):Ej sp s k=false:=by unfold Ej;rw[h];simp
theorem R2 {sp:aa}{s k:Int}(h1:(sp.length:Int)<=16)(h2:inR k 0 16=true)(h3:inR s 0 1073741823=true):Ej sp s k=true:=by unfold Ej;rw[decide_eq_true h1,h2,h3];rfl
end Go.V
namespace Go.V
theorem DZ {p:Int->Bool}{n:Nat}:0<=ce p n↔∃ j:Nat,j<n/\p (j:Int)=true:=by
 unfold ce;cases h:(List.range n).find? (fun j:Nat=>p (j:Int))with
 | none=>
   rw[List.find?_eq_none]at h
   constructor
   ·intro q;exact absurd q (by decide)
   ·rintro⟨j,h1,h2⟩;exact absurd h2 (h j (List.mem_range.2 h1))
 | some j=>
   have h1:=List.find?_some h;have h2:=List.mem_range.1 (List.mem_of_find?_eq_some h);exact⟨fun _=>⟨j,h2,h1⟩,fun _=>Int.natCast_nonneg j⟩
theorem NY {o:aa}{x:Int}:tnB o x=true↔∃ j:Nat,j<o.length/\(af o (j:Int) 0=x\/af o (j:Int) 1=x):=by
 unfold tnB tnI;rw[decide_eq_true_eq,DZ];unfold Oz;simp only[Bool.or_eq_true,decide_eq_true_eq]
theorem NX {x:Int}:tnB [] x=false:=by
 cases h:tnB [] x with
 |false=>rfl
 |true=>obtain⟨j,hj,_⟩:=NY.1 h;exact absurd hj (by simp)
theorem NW {o:aa}{a b x:Int}:tnB (o++[[.i a,.i b]]) x=(tnB o x||(decide (a=x)||decide (b=x))):=by
 rw[Bool.eq_iff_iff,Bool.or_eq_true,Bool.or_eq_true,decide_eq_true_eq,decide_eq_true_eq,NY,NY]
 constructor
 ·rintro⟨j,hj,h⟩;rw[List.length_append]at hj;by_cases c:j<o.length
  ·rw[uq c,uq c]at h;exact .inl ⟨j,c,h⟩
  ·have e:j=o.length:=by simp only[List.length_cons,List.length_nil]at hj;omega
   subst e;rw[ut,ut]at h;exact .inr h
 ·rintro(⟨j,hj,h⟩|h)
  ·exact⟨j,by rw[List.length_append];omega,by rw[uq hj,uq hj];exact h⟩
  ·exact⟨o.length,by simp,by rw[ut,ut];exact h⟩
structure Ib (n:Int)(o u:aa):Prop where
 r:Rw [tB] u
 l:(u.length:Int)=n
 e:∀ x:Int,0<=x->x<n->ma u x 0=tnB o x
theorem Kr {u:aa}{i:Nat}{x:Int}{b:Bool}(x0:0<=x)(x1:x<u.length):ma (u.set i [.v (.bool b)]) x 0=if(i:Int)=x then b else ma u x 0:=by
 unfold ma;simp only[List.getD_eq_getElem?_getD];by_cases c:(i:Int)=x
 ·rw[if_pos c];have e:x.toNat=i:=by omega
  rw[e,List.getElem?_set_self (by omega)];rfl
 ·rw[if_neg c,List.getElem?_set_ne (by omega)]
theorem N1 {n a b:Int}{o u:aa}(h:Ib n o u)(a0:0<=a)(a1:a<n)(b0:0<=b)(b1:b<n):Ib n (o++[[.i a,.i b]]) ((u.set a.toNat [.v (.bool true)]).set b.toNat [.v (.bool true)]):=by
 have l:=h.l;refine⟨Rw.set (Rw.set h.r (show bM [tB] [.v (.bool true)]from⟨trivial,trivial⟩) _) (show bM [tB] [.v (.bool true)]from⟨trivial,trivial⟩) _,by rw[List.length_set,List.length_set];exact l,fun x x0 x1=>?_⟩;rw[Kr x0 (by rw[List.length_set];omega),Kr x0 (by omega),NW,h.e x x0 x1,Int.toNat_of_nonneg a0,Int.toNat_of_nonneg b0];by_cases c:b=x
 ·rw[if_pos c,decide_eq_true c];simp
 ·rw[if_neg c,decide_eq_false c];by_cases d:a=x
  ·rw[if_pos d,decide_eq_true d];simp
  ·rw[if_neg d,decide_eq_false d];simp
structure Ez (sp od:aa)(h p:Int)(o:aa):Prop where
 e:o=Lj sp od h p.toNat
 r:Rw [tI,tI] o
 l:(o.length:Int)<=h*p
structure Ey (sp od:aa)(h p i:Int)(o q:aa):Prop where
 e:q=vi sp od h p i.toNat o
 r:Rw [tI,tI] q
 l:(q.length:Int)<=o.length+i
section
variable {sp od o q : aa} {h p i : Int}
theorem Lh :Ez sp od h 0 []:=⟨rfl,Rw.nil,by simp⟩
theorem Lg (g:Ez sp od h p o):Ey sp od h p 0 o o:=⟨rfl,g.r,by omega⟩
theorem pq (g:Ey sp od h p i o q)(i0:0<=i)(t:HB sp od h p i q=false):Ey sp od h p (i+1) o q:=by
 have e:(i+1).toNat=i.toNat+1:=by omega
 refine⟨?_,g.r,by have:=g.l;omega⟩;rw[e];simp only[vi];rw[<-g.e,Int.toNat_of_nonneg i0];unfold Ox;rw[t];rfl
theorem DG (g:Ey sp od h p i o q)(i0:0<=i)(t:HB sp od h p i q=true)(a0: -9223372036854775808<=af od i 0/\af od i 0<=9223372036854775807)(b0: -9223372036854775808<=Ei od h p i/\Ei od h p i<=9223372036854775807)(hl:(q.length:Int)<=1048576):Ey sp od h p (i+1) o (q++[[.i (af od i 0),.i (Ei od h p i)]]):=by
 have e:(i+1).toNat=i.toNat+1:=by omega
 refine⟨?_,Rw.append g.r (Rw.one (show bM [tI,tI] [.i (af od i 0),.i (Ei od h p i)]from⟨⟨rfl,a0⟩,⟨rfl,b0⟩,trivial⟩)) (by unfold maxLen;simp only[List.length_cons,List.length_nil];omega),by have:=g.l;simp only[List.length_append,List.length_cons,List.length_nil];omega⟩;rw[e];simp only[vi];rw[<-g.e,Int.toNat_of_nonneg i0];unfold Ox;rw[if_pos t]
theorem Hz (g:Ez sp od h p o)(f:Ey sp od h p i o q)(p0:0<=p)(h0:0<=h)(i1:i=h):Ez sp od h (p+1) q:=by
 have e:(p+1).toNat=p.toNat+1:=by omega
 subst i1;refine⟨?_,f.r,?_⟩
 ·rw[e];simp only[Lj];rw[<-g.e,Int.toNat_of_nonneg p0];exact f.e
 ·have a:=f.l;have b:=g.l;rw[Int.mul_add];omega
theorem DJ {s k:Int}(g:Ez sp (shuL s sp.length) ((sp.length:Int)/2) p o)(e:p=k)(b:Ej sp s k=true):o=sqL sp s k/\shuS s sp.length=sqS sp s k:=by
 subst e;unfold sqL sqS;rw[if_pos b,if_pos b];exact⟨g.e,rfl⟩
theorem gR {a b:aa}{x y:Int}(h:a=b)(k:x=y):[DV.one (.s 2 a),DV.j x]=[DV.one (.s 2 b),DV.j y]:=by rw[h,k]
end
end Go.V
namespace Go.V
theorem R4 {n:Int}(n0:0<=n)(n1:n<=16):bH .quo .i64 n 2=n/2:=nP n0 (by omega) (by omega)
theorem Vp {n:Int}(n0:0<=n):((wR (n/2) 0:Nat):Int)=n/2:=by unfold wR;omega
theorem Vr {od:aa}{n:Int}(hl:(od.length:Int)=n)(n0:0<=n):((wR (od.length:Int) (n/2):Nat):Int)=n-n/2:=by unfold wR;omega
theorem NR {i:Int}:Oq (Int.toNat 0) i=i.toNat:=by unfold Oq;exact Nat.zero_add _
theorem Vo {n j:Int}(n0:0<=n)(j0:0<=j):Oq (n/2).toNat j=(n/2+j).toNat:=by unfold Oq;omega
theorem R3 {n i p:Int}(i0:0<=i)(p0:0<=p)(i1:i<n/2)(p1:p<=16)(n1:n<=16):bH .rem .i64 (bH .add .i64 i p) (n-n/2)=(i+p)%(n-n/2)/\0<=(i+p)%(n-n/2)/\(i+p)%(n-n/2)<n-n/2:=by
 rw[bA (by omega),xB (by omega)];exact⟨rfl,Int.emod_nonneg _ (by omega),Int.emod_lt_of_pos _ (by omega)⟩
theorem eN {od:aa}{n p i:Int}(hl:(od.length:Int)=n):Ei od (n/2) p i=af od (n/2+(i+p)%(n-n/2)) 0:=by unfold Ei;rw[hl]
theorem Lk {sp od q:aa}{h p i:Int}(a:tnB q (af od i 0)=true):HB sp od h p i q=false:=by unfold HB;rw[a];rfl
theorem Ll {sp od q:aa}{h p i:Int}(a:tnB q (Ei od h p i)=true):HB sp od h p i q=false:=by unfold HB;rw[a];simp
theorem Lm {sp od q:aa}{h p i:Int}(a:Vn sp (af od i 0) (Ei od h p i)=false):HB sp od h p i q=false:=by unfold HB;rw[a];simp
theorem Lo {sp od q:aa}{h p i:Int}(a:tnB q (af od i 0)=false)(b:tnB q (Ei od h p i)=false)(c:Vn sp (af od i 0) (Ei od h p i)=true):HB sp od h p i q=true:=by unfold HB;rw[a,b,c];rfl
theorem RZ {sp od o:aa}{h p:Int}(g:Ez sp od h p o)(h0:0<=h)(h1:h<=8)(p0:0<=p)(p1:p<=16):(o.length:Int)<=128:=by
 have a:=g.l;have b:h*p<=8*16:=Int.mul_le_mul h1 p1 p0 (by omega);omega
end Go.V
namespace Go.V
theorem Sf {n x:Int}{q v:aa}(h:Ib n q v)(x0:0<=x)(x1:x<n):KZ (.s 1 v) [(x.toNat,0)]=tnB q x:=by rw[Ns x0];exact h.e x x0 x1
theorem Sg {a b:Int}{u:aa}(r:Rw [tB] u)(a0:0<=a)(a1:a<u.length)(b0:0<=b)(b1:b<u.length):lV (.s 1 (lV (.s 1 u) [(a.toNat,0)] [.v (.bool true)])) [(b.toNat,0)] [.v (.bool true)]=(u.set a.toNat [.v (.bool true)]).set b.toNat [.v (.bool true)]:=by
 rw[NZ r a0 a1];exact NZ (Rw.set r (show bM [tB] [.v (.bool true)]from⟨trivial,trivial⟩) _) b0 (by rw[List.length_set];exact b1)
theorem R5 {a b:Int}{v:aa}(r:Rw [tB] v)(a0:0<=a)(a1:a<v.length)(b0:0<=b)(b1:b<v.length):∃ rec o,bL (L.s 1 (lV (.s 1 v) [(a.toNat,0)] [.v (.bool true)])) [(b.toNat,0)]=some (rec,o)/\o+1<=rec.length:=by
 rw[NZ r a0 a1];exact fa (by rw[List.length_set];omega) (by rw[(Rw.set r (show bM [tB] [.v (.bool true)]from⟨trivial,trivial⟩) _).eta b0 (by rw[List.length_set];exact b1)];exact Nat.le_refl _)
theorem Si {n:Nat}(hn:n<=maxLen):Ib (n:Int) [] (List.replicate n [.v (.bool false)]):=
 ⟨⟨by rw[List.length_replicate];exact hn,fun e he=>by rw[(List.mem_replicate.1 he).2];exact⟨trivial,trivial⟩⟩,by rw[List.length_replicate],fun x x0 x1=>by
   have e:(List.replicate n [L.v (.bool false)]).getD x.toNat []=[L.v (.bool false)]:=by rw[List.getD_eq_getElem?_getD,List.getElem?_replicate,if_pos (by omega)];rfl
   rw[NX];unfold ma;rw[e];rfl⟩
theorem Rx {n:Int}{r:ay}(n0:0<=n):((kU n r).length:Int)=n:=by unfold kU;rw[List.length_replicate];omega
theorem Vs {n:Int}(n0:0<=n)(n1:n<=16):bH .sub .i64 n (n/2)=n-n/2:=cB (by omega)
theorem Vq {n m:Int}(n0:0<=n)(n1:n<=16)(m0:0<=m)(m1:m<n-n/2):bH .add .i64 (n/2) m=n/2+m:=bA (by omega)
structure P2 (n:Int)(o:aa):Prop where
 r:Rw [tI,tI] o
 i:∀ j:Nat,j<o.length->(0<=af o (j:Int) 0/\af o (j:Int) 0<n)/\(0<=af o (j:Int) 1/\af o (j:Int) 1<n)
theorem GU {n:Int}:P2 n []:=⟨Rw.nil,fun j hj=>absurd hj (by simp)⟩
theorem Nr {n a b:Int}{o:aa}(h:P2 n o)(n1:n<=16)(l:o.length<=1048576)(a0:0<=a)(a1:a<n)(b0:0<=b)(b1:b<n):P2 n (o++[[.i a,.i b]]):=by
 have ha: -9223372036854775808<=a/\a<=9223372036854775807:=by omega
 have hb: -9223372036854775808<=b/\b<=9223372036854775807:=by omega
 refine⟨Rw.append h.r (Rw.one (show bM [tI,tI] [.i a,.i b]from⟨⟨rfl,ha⟩,⟨rfl,hb⟩,trivial⟩)) (by unfold maxLen;simp only[List.length_cons,List.length_nil];omega),fun j hj=>?_⟩;rw[List.length_append]at hj;by_cases c:j<o.length
 ·rw[uq c,uq c];exact h.i j c
 ·have e:j=o.length:=by simp only[List.length_cons,List.length_nil]at hj;omega
  subst e;rw[ut,ut];exact⟨⟨a0,a1⟩,⟨b0,b1⟩⟩
theorem Jq {sp od:aa}{h p i:Int}{o:aa}:(Ox sp od h p i o).length<=o.length+1:=by
 unfold Ox;split
 ·rw[List.length_append];exact Nat.le_refl _
 ·omega
theorem vj {sp od:aa}{h p:Int}{o:aa}:∀ i:Nat,(vi sp od h p i o).length<=o.length+i
 |0=>by simp only[vi];omega
 | i+1=>by
   simp only[vi];have a:=Jq (sp:=sp) (od:=od) (h:=h) (p:=p) (i:=(i:Int)) (o:=vi sp od h p i o);have b:=vj (sp:=sp) (od:=od) (h:=h) (p:=p) (o:=o) i;omega
theorem DK {sp od:aa}{n p:Int}{o:aa}(n1:n<=16)(hi:Cj n od)(hl:(od.length:Int)=n)(l:o.length<=1048560)(g:P2 n o):∀ i:Nat,(i:Int)<=n/2->P2 n (vi sp od (n/2) p i o)
 |0,_=>g
 | i+1,h=>by
   have ih:=DK (sp:=sp) (p:=p) n1 hi hl l g i (by omega);have len:=vj (sp:=sp) (od:=od) (h:=n/2) (p:=p) (o:=o) i;simp only[vi];unfold Ox;split
   ·have m0:=Int.emod_nonneg ((i:Int)+p) (show n-n/2≠0 by omega);have m1:=Int.emod_lt_of_pos ((i:Int)+p) (show 0<n-n/2 by omega);have a:=hi.at (i:=(i:Int)) (by omega) (by omega);have b:=hi.at (i:=n/2+((i:Int)+p)%(n-n/2)) (by omega) (by omega);refine Nr ih n1 (by omega) a.1 a.2 ?_ ?_
    ·rw[eN hl];exact b.1
    ·rw[eN hl];exact b.2
   ·exact ih
theorem HA {sp od:aa}{n:Int}(n0:0<=n)(n1:n<=16)(hi:Cj n od)(hl:(od.length:Int)=n):∀ p:Nat,p<=16->P2 n (Lj sp od (n/2) p)/\(Lj sp od (n/2) p).length<=p*8
 |0,_=>⟨GU,Nat.zero_le _⟩
 | p+1,h=>by
   have ih:=HA (sp:=sp) n0 n1 hi hl p (by omega);have len:=vj (sp:=sp) (od:=od) (h:=n/2) (p:=(p:Int)) (o:=Lj sp od (n/2) p) (n/2).toNat;simp only[Lj];exact⟨DK n1 hi hl (by omega) ih.1 _ (by omega),by omega⟩
theorem R1 {sp:aa}{s k:Int}:P2 sp.length (sqL sp s k)/\(sqL sp s k).length<=128:=by
 unfold sqL;split
 ·rename_i b;unfold Ej at b;rw[Bool.and_eq_true,Bool.and_eq_true]at b;have n1:=of_decide_eq_true b.1;have kk:=bE.1 b.2.1;have nn:inR (sp.length:Int) 0 64=true:=bE.2 ⟨by omega,by omega⟩;have q:=HA (sp:=sp) (n:=(sp.length:Int)) (by omega) n1 (BZ b.2.2 nn) (sy b.2.2 nn) k.toNat (by omega);exact⟨q.1,by omega⟩
 ·exact⟨GU,Nat.zero_le _⟩
def nG (e s:aa):aa:=(msS e s).take 16
def wA (e s:aa)(d:Int):aa:=sqL (nG e s) d 3
def iX (e s:aa)(d:Int)(c j:Nat):Int:=af (nG e s) (af (wA e s d) 0 c) j
def Eb (e s:aa)(d:Int):Int:=ppK (iX e s d 0 0) (iX e s d 0 1) (iX e s d 0 2) (iX e s d 1 0) (iX e s d 1 1) (iX e s d 1 2)
def Ec (e s:aa)(d:Int):Int:=ppM (iX e s d 0 0) (iX e s d 0 1) (iX e s d 0 2) (iX e s d 1 0) (iX e s d 1 1) (iX e s d 1 2)
def BB (e s:aa)(d:Int):aa:=ppC (iX e s d 0 0) (iX e s d 0 1) (iX e s d 0 2) (iX e s d 1 0) (iX e s d 1 1) (iX e s d 1 2)
def mtG (k me:Bool):Bool:= !me&&k
def mtB (g:Bool)(e s:aa)(d:Int):Bool:=g&&decide (0<(wA e s d).length)
def mtD (g:Bool)(e s:aa)(d:Int):Int:=if g=true then sqS (nG e s) d 3 else d
def mtJk (g:Bool)(e s:aa)(d x:Int):Int:=if mtB g e s d=true then ifZ (plOk (Eb e s d) (Ec e s d) (BB e s d)) (Eb e s d)else x
def mtJm (g:Bool)(e s:aa)(d x:Int):Int:=if mtB g e s d=true then ifZ (plOk (Eb e s d) (Ec e s d) (BB e s d)) (Ec e s d)else x
def mtJc (g:Bool)(e s:aa)(d:Int)(x:aa):aa:=if mtB g e s d=true then ifR (plOk (Eb e s d) (Ec e s d) (BB e s d)) (BB e s d) []else x
def mtJ0 (g:Bool)(e s:aa)(d x:Int):Int:=if mtB g e s d=true then 0 else x
def mtO (g:Bool)(e s:aa)(d:Int)(me:Bool):Bool:=if mtB g e s d=true then true else me
section
variable {g me k : Bool} {e s x : aa} {d y : Int}
theorem Ak (h:mtB g e s d=false):mtJk g e s d y=y/\mtJm g e s d y=y/\mtJc g e s d x=x/\mtJ0 g e s d y=y/\mtO g e s d me=me:=by
 unfold mtJk mtJm mtJc mtJ0 mtO;rw[h];exact⟨rfl,rfl,rfl,rfl,rfl⟩
theorem uN (h:mtB g e s d=true):mtJk g e s d y=ifZ (plOk (Eb e s d) (Ec e s d) (BB e s d)) (Eb e s d)/\mtJm g e s d y=ifZ (plOk (Eb e s d) (Ec e s d) (BB e s d)) (Ec e s d)/\mtJc g e s d x=ifR (plOk (Eb e s d) (Ec e s d) (BB e s d)) (BB e s d) []/\mtJ0 g e s d y=0/\mtO g e s d me=true:=by
 unfold mtJk mtJm mtJc mtJ0 mtO;rw[h];exact⟨rfl,rfl,rfl,rfl,rfl⟩
theorem GF (h:(wA e s d).length=0):mtB g e s d=false:=by unfold mtB;rw[h];simp
theorem GG (h:g=true)(q:(wA e s d).length≠0):mtB g e s d=true:=by unfold mtB;rw[h,decide_eq_true (by omega)];rfl
theorem KO :mtG k true=false:=rfl
theorem KP (h:k=false):mtG k me=false:=by unfold mtG;rw[h];simp
theorem GH (h:k=true)(q:me=false):mtG k me=true:=by unfold mtG;rw[h,q];rfl
theorem sr :(nG e s).length<=16:=by unfold nG;rw[List.length_take];omega
theorem BD (h:Rw [tI,tI,tI] s):Rw [tI,tI,tI] (nG e s):=(C6 (es:=e) h).1.take 16
theorem yz :P2 (nG e s).length (wA e s d)/\(wA e s d).length<=128:=R1
theorem QB (q:(wA e s d).length≠0):(0<=af (wA e s d) 0 0/\af (wA e s d) 0 0<(nG e s).length)/\(0<=af (wA e s d) 0 1/\af (wA e s d) 0 1<(nG e s).length):=yz.1.i 0 (by omega)
theorem Nv {p k b q l c:Int}:Rw [tI] (ppC p k b q l c)/\(ppC p k b q l c).length<=16:=by
 unfold ppC;split
 ·split
  ·exact⟨Dx,Az⟩
  ·exact⟨Dx,Az⟩
 ·exact⟨Rw.nil,Nat.zero_le _⟩
theorem BC :Rw [tI] (BB e s d)/\(BB e s d).length<=16:=Nv
theorem Ni (h:(msS e s).length<=16):msS e s=nG e s:=by unfold nG;rw[List.take_of_length_le h]
theorem Nc {a b:Int}:Nb false a b=min a b:=by unfold Nb;rw[if_neg (by decide)];split<;>omega
theorem QF :lU (msS e s) (Int.toNat 0) (wR (Nb false ((msS e s).length:Int) 16) 0)=nG e s:=by
 rw[pw,Nc];unfold nG;by_cases h:((msS e s).length:Int)<=16
 ·rw[show(min ((msS e s).length:Int) 16)=(msS e s).length by omega,Int.toNat_natCast,List.take_of_length_le (Nat.le_refl _),List.take_of_length_le (by omega)]
 ·rw[show(min ((msS e s).length:Int) 16)=16 by omega];rfl
theorem QG :lU (msS e s) (Int.toNat 0) (wR 16 0)=nG e s:=rfl
theorem QC :((wR (Nb false ((msS e s).length:Int) 16) 0:Nat):Int)=(nG e s).length:=by
 rw[Nc];unfold nG wR;rw[List.length_take];omega
theorem QD (h:(16:Int)<(msS e s).length):((wR 16 0:Nat):Int)=(nG e s).length:=by
 unfold nG wR;rw[List.length_take];omega
theorem QE :(0:Int)<=0/\0<=Nb false ((msS e s).length:Int) 16/\Nb false ((msS e s).length:Int) 16<=(msS e s).length:=by
 rw[Nc];omega
theorem QK :sqL (nG e s) d 3=wA e s d:=rfl
theorem GE :(nG e s).length<=(msS e s).length:=by unfold nG;rw[List.length_take];omega
theorem KQ {c j:Nat}(x0:0<=af (wA e s d) 0 c)(x1:af (wA e s d) 0 c<(nG e s).length):af (msS e s) (af (wA e s d) 0 c) j=iX e s d c j:=by
 unfold iX;have h:=T8 (l:=msS e s) (n:=16) (j:=(af (wA e s d) 0 c).toNat) (k:=j) (by have:=sr (e:=e) (s:=s);omega);rw[Int.toNat_of_nonneg x0]at h;exact h.symm
theorem QL {c j:Nat}:af (nG e s) (af (wA e s d) 0 c) j=iX e s d c j:=rfl
theorem QI :ppK (iX e s d 0 0) (iX e s d 0 1) (iX e s d 0 2) (iX e s d 1 0) (iX e s d 1 1) (iX e s d 1 2)=Eb e s d:=rfl
theorem QJ :ppM (iX e s d 0 0) (iX e s d 0 1) (iX e s d 0 2) (iX e s d 1 0) (iX e s d 1 1) (iX e s d 1 2)=Ec e s d:=rfl
theorem QH :ppC (iX e s d 0 0) (iX e s d 0 1) (iX e s d 0 2) (iX e s d 1 0) (iX e s d 1 1) (iX e s d 1 2)=BB e s d:=rfl
theorem Gz (h:mtB g e s d=false):mtJk g e s d y=y:=(Ak (me:=true) (x:=[]) h).1
theorem GB (h:mtB g e s d=false):mtJm g e s d y=y:=(Ak (me:=true) (x:=[]) h).2.1
theorem Gx (h:mtB g e s d=false):mtJc g e s d x=x:=(Ak (me:=true) (y:=0) h).2.2.1
theorem Gv (h:mtB g e s d=false):mtJ0 g e s d y=y:=(Ak (me:=true) (x:=[]) h).2.2.2.1
theorem KM (h:mtB g e s d=false):mtO g e s d me=me:=(Ak (y:=0) (x:=[]) h).2.2.2.2
theorem GA (h:mtB g e s d=true):mtJk g e s d y=ifZ (plOk (Eb e s d) (Ec e s d) (BB e s d)) (Eb e s d):=(uN (me:=true) (x:=[]) h).1
theorem GC (h:mtB g e s d=true):mtJm g e s d y=ifZ (plOk (Eb e s d) (Ec e s d) (BB e s d)) (Ec e s d):=(uN (me:=true) (x:=[]) h).2.1
theorem Gy (h:mtB g e s d=true):mtJc g e s d x=ifR (plOk (Eb e s d) (Ec e s d) (BB e s d)) (BB e s d) []:=(uN (me:=true) (y:=0) h).2.2.1
theorem Gw (h:mtB g e s d=true):mtJ0 g e s d y=0:=(uN (me:=true) (x:=[]) h).2.2.2.1
theorem KN (h:mtB g e s d=true):mtO g e s d me=true:=(uN (y:=0) (x:=[]) h).2.2.2.2
theorem I2 (h:Rw [tI] x)(c:ag x<=1073741824):Rw [tI] (mtJc g e s d x)/\ag (mtJc g e s d x)<=1073741824:=by
 unfold mtJc;split
 ·unfold ifR;split
  ·have q:=BC (e:=e) (s:=s) (d:=d);exact⟨q.1,by rw[q.1.cnt rfl];omega⟩
  ·exact⟨Rw.nil,by decide⟩
 ·exact⟨h,c⟩
theorem QA {a0 a1 a2 a4 a5 a6 a7 a8 a9 aA aB aD aL:aa}(h:pJ a0 a1 a2 a4 a5 a6 a7 a8 a9 aA aB aD aL)(g:Bool)(d:Int):pJ a0 a1 a2 a4 a5 a6 a7 a8 a9 aA aB aD (mtJc g a2 a6 d aL):=by
 have q:=I2 (g:=g) (e:=a2) (s:=a6) (d:=d) h.r21 h.c21;exact {h with r21:=q.1,c21:=q.2}
end
end Go.V